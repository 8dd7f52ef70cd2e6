/- Walks. -/
import Derived.Test.YtnadeehdnmgebaaT
namespace Go.Proofs.Ytnadeehdnmgebaa
open Go Fw
set_option linter.unusedVariables false
set_option maxRecDepth 100000
set_option maxHeartbeats 4000000

theorem sim_net_New_v0 (k : Nat) (ends_1 : Int) (r : Unit) (hm : net_New k ends_1 = some (.inl r)) : Sim Try.prog 11 [S (rI .i64) ends_1] [] (γ := Nat × Option Nat) (fun q => [cvar q.1 (rP (rW (MPV q.2)) (rP (rI .i64) (rP (rI .i64) r0))) ((), (ends_1, ((0 : Int), ()))), cmap q.2 (A r_net_pair) (S (rL (rL (rU UInt8)))) (some ([] : (List (net_pair × (List (List UInt8))))))]) (fun q => .tup [.val (PTR q.1 0), .val (S (rI .i64) (0 : Int))]) := by
 unfold net_New at hm
 refine Sim.of Try.func11 rfl rfl (Nat.le_of_ble_eq_true rfl) (fun e0 w0 => ?_)
 refine JC.at ⟨[(0, ov (S (rI .i64) ends_1))], [], []⟩ ?_
 refine JC.seq ?_
 refine JC.region ?_
 refine jc (op_assign lb (HasO.const (p := PTO none) fun _ => rfl)) ?_
 refine jc (op_assign lb .cI) ?_
 refine JL.nil ?_
 refine JQ.then ?_
 refine JC.seq ?_
 replace hm := bnd_inv hm
 obtain ⟨x_5, hx1, hq1⟩ := hm
 refine JC.seqJ (γ := Unit) (stj := fun q => ⟨[(0, ov (S (rI .i64) ends_1)), (9, ov (S rB x_5))], [], []⟩) (fun q => ?_) ?_
 · obtain _ := q
   refine JC.at ⟨[(0, ov (S (rI .i64) ends_1)), (9, ov (S rB x_5))], [], []⟩ ?_
   replace hq1 := iteB_inv hq1
   rcases hq1 with ⟨hc5, hq1⟩ | ⟨hc5, hq1⟩
   · refine JC.condT (.tmp rfl) hc5 ?_
     refine JC.seq ?_
     refine JC.region ?_
     refine jc (op_assign lb (HasO.const (p := PTO none) fun _ => rfl)) ?_
     refine jc (op_assign lb .cI) ?_
     refine JL.nil ?_
     refine JQ.then ?_
     refine JC.ret ?_
     refine JQ.outR ?_
     cases hq1
   · refine JC.condF (.tmp rfl) hc5 ?_
     refine JC.skip ?_
     refine JQ.then ?_
     refine JC.seq ?_
     refine JC.region ?_
     refine jx (op_makeMap lb (A r_net_pair) (S (rL (rL (rU UInt8))))) (fun q => ?_)
     obtain ⟨gb_6, hqq⟩ : ∃ z, z = q := ⟨_, rfl⟩
     subst hqq
     refine jc (op_move lb (.tmp rfl)) ?_
     refine jc (op_build lb tZ57 zr57 tp57 (.S (off := 0) (s := rW (MPV (some gb_6))) (u := ()) rfl (HasO.wk (q := S (rW (MPV (some gb_6))) ()) (.tmp rfl) wkV) rfl ((UpdR.fst (UpdR.self (by rfl))).at (by rfl)) (.S (off := 1) rfl (.tmp rfl) rfl ((UpdR.snd (UpdR.fst (UpdR.self (by rfl)))).at (by rfl)) .nil)) rfl) ?_
     refine jx (op_boxA lb (.tmp rfl)) (fun q => ?_)
     obtain ⟨gb_7, hqq⟩ : ∃ z, z = q := ⟨_, rfl⟩
     subst hqq
     refine jc (op_assign lb (.tmp rfl)) ?_
     refine jc (op_assign lb .cI) ?_
     refine JL.nil ?_
     refine JQ.then ?_
     refine JC.ret ?_
     exact JQ.done (js := [1, 0]) (ss := [.val (PTR gb_7 0), .val (S (rI .i64) (0 : Int))]) (gb_7, (some gb_6)) (.inl rfl) (.nil rfl) rfl (.cons (.tmp rfl) (.cons (.tmp rfl) .nil)) rfl rfl rfl
 · refine JC.region ?_
   refine jc (op_move lb (.tmp rfl)) ?_
   replace hx1 := lt1_inv hx1
   obtain ⟨v_2, hv_v_2, hx1⟩ := hx1
   refine jc (op_cmpI lb (.tmp rfl) .cI (congrArg some hv_v_2)) ?_
   refine jc (op_move lb (.tmp rfl)) ?_
   refine JL.cnd (sv := ov (S (rI .i64) ends_1)) (Guard.isF (ltB rfl) rfl rfl) rfl (ltB rfl) (fun hq_2 => op_move lb (.tmp rfl)) ?_
   replace hx1 := lt1_inv hx1
   obtain ⟨v_3, hv_v_3, hx1⟩ := hx1
   refine JL.cnd (sv := ov (S rB v_3)) (Guard.isF (ltB rfl) rfl rfl) rfl (ltB rfl) (fun hq_3 => op_cmpI lb (HasO.cnd (.tmp rfl) (notT (notF hq_3))) .cI (congrArg some hv_v_3)) ?_
   replace hx1 := lt1_inv hx1
   obtain ⟨v_4, hv_v_4, hx1⟩ := hx1
   refine jc (op_pickCS lb (.tmp rfl) (fun hb4 => .cB) (fun hb4 => (HasO.cnd (.tmp rfl) (notT hb4))) hv_v_4) ?_
   refine JL.nil ?_
   replace hx1 := Option.some.inj hx1
   first | subst hx1 | clear hx1
   exact JQ.join () (Imp.norm (js := []) rfl (.cons rfl (.cons rfl .nil)))

theorem sim_net_New_v1 (k : Nat) (ends_1 : Int) (r : Unit) (hm : net_New k ends_1 = some (.inr r)) : Sim Try.prog 11 [S (rI .i64) ends_1] [] (γ := Unit) (fun q => []) (fun q => .tup [.val (PTO none), .val (S (rI .i64) (2 : Int))]) := by
 unfold net_New at hm
 refine Sim.of Try.func11 rfl rfl (Nat.le_of_ble_eq_true rfl) (fun e0 w0 => ?_)
 refine JC.at ⟨[(0, ov (S (rI .i64) ends_1))], [], []⟩ ?_
 refine JC.seq ?_
 refine JC.region ?_
 refine jc (op_assign lb (HasO.const (p := PTO none) fun _ => rfl)) ?_
 refine jc (op_assign lb .cI) ?_
 refine JL.nil ?_
 refine JQ.then ?_
 refine JC.seq ?_
 replace hm := bnd_inv hm
 obtain ⟨x_5, hx1, hq1⟩ := hm
 refine JC.seqJ (γ := Unit) (stj := fun q => ⟨[(0, ov (S (rI .i64) ends_1)), (9, ov (S rB x_5))], [], []⟩) (fun q => ?_) ?_
 · obtain _ := q
   refine JC.at ⟨[(0, ov (S (rI .i64) ends_1)), (9, ov (S rB x_5))], [], []⟩ ?_
   replace hq1 := iteB_inv hq1
   rcases hq1 with ⟨hc5, hq1⟩ | ⟨hc5, hq1⟩
   · refine JC.condT (.tmp rfl) hc5 ?_
     refine JC.seq ?_
     refine JC.region ?_
     refine jc (op_assign lb (HasO.const (p := PTO none) fun _ => rfl)) ?_
     refine jc (op_assign lb .cI) ?_
     refine JL.nil ?_
     refine JQ.then ?_
     refine JC.ret ?_
     refine JQ.outR ?_
     exact JQ.done (js := []) (ss := [.val (PTO none), .val (S (rI .i64) (2 : Int))]) () (.inl rfl) (.nil rfl) rfl (.cons (.tmp rfl) (.cons (.tmp rfl) .nil)) rfl rfl rfl
   · refine JC.condF (.tmp rfl) hc5 ?_
     refine JC.skip ?_
     refine JQ.then ?_
     refine JC.seq ?_
     refine JC.region ?_
     refine jx (op_makeMap lb (A r_net_pair) (S (rL (rL (rU UInt8))))) (fun q => ?_)
     obtain ⟨gb_6, hqq⟩ : ∃ z, z = q := ⟨_, rfl⟩
     subst hqq
     refine jc (op_move lb (.tmp rfl)) ?_
     refine jc (op_build lb tZ57 zr57 tp57 (.S (off := 0) (s := rW (MPV (some gb_6))) (u := ()) rfl (HasO.wk (q := S (rW (MPV (some gb_6))) ()) (.tmp rfl) wkV) rfl ((UpdR.fst (UpdR.self (by rfl))).at (by rfl)) (.S (off := 1) rfl (.tmp rfl) rfl ((UpdR.snd (UpdR.fst (UpdR.self (by rfl)))).at (by rfl)) .nil)) rfl) ?_
     refine jx (op_boxA lb (.tmp rfl)) (fun q => ?_)
     obtain ⟨gb_7, hqq⟩ : ∃ z, z = q := ⟨_, rfl⟩
     subst hqq
     refine jc (op_assign lb (.tmp rfl)) ?_
     refine jc (op_assign lb .cI) ?_
     refine JL.nil ?_
     refine JQ.then ?_
     refine JC.ret ?_
     cases hq1
 · refine JC.region ?_
   refine jc (op_move lb (.tmp rfl)) ?_
   replace hx1 := lt1_inv hx1
   obtain ⟨v_2, hv_v_2, hx1⟩ := hx1
   refine jc (op_cmpI lb (.tmp rfl) .cI (congrArg some hv_v_2)) ?_
   refine jc (op_move lb (.tmp rfl)) ?_
   refine JL.cnd (sv := ov (S (rI .i64) ends_1)) (Guard.isF (ltB rfl) rfl rfl) rfl (ltB rfl) (fun hq_2 => op_move lb (.tmp rfl)) ?_
   replace hx1 := lt1_inv hx1
   obtain ⟨v_3, hv_v_3, hx1⟩ := hx1
   refine JL.cnd (sv := ov (S rB v_3)) (Guard.isF (ltB rfl) rfl rfl) rfl (ltB rfl) (fun hq_3 => op_cmpI lb (HasO.cnd (.tmp rfl) (notT (notF hq_3))) .cI (congrArg some hv_v_3)) ?_
   replace hx1 := lt1_inv hx1
   obtain ⟨v_4, hv_v_4, hx1⟩ := hx1
   refine jc (op_pickCS lb (.tmp rfl) (fun hb4 => .cB) (fun hb4 => (HasO.cnd (.tmp rfl) (notT hb4))) hv_v_4) ?_
   refine JL.nil ?_
   replace hx1 := Option.some.inj hx1
   first | subst hx1 | clear hx1
   exact JQ.join () (Imp.norm (js := []) rfl (.cons rfl (.cons rfl .nil)))

theorem sim_law12_much (k : Nat) (l_1 : (List law12_Act)) (r : Bool) (hm : law12_much k l_1 = some r) : Sim Try.prog 10 [S (rL r_law12_Act) l_1] [] (γ := Unit) (fun q => []) (fun q => .one (.val (S rB r))) := by
 unfold law12_much at hm
 refine Sim.of Try.func10 rfl rfl (Nat.le_of_ble_eq_true rfl) (fun e0 w0 => ?_)
 refine JC.at ⟨[(0, ov (S (rL r_law12_Act) l_1))], [], []⟩ ?_
 refine JC.seq ?_
 refine JC.region ?_
 refine jc (op_assign lb .cB) ?_
 refine JL.nil ?_
 refine JQ.then ?_
 refine JC.seq ?_
 refine JC.region ?_
 refine jc (op_assign lb .cI) ?_
 refine JL.nil ?_
 refine JQ.then ?_
 refine JC.seq ?_
 refine JC.region ?_
 refine jc (op_assign lb .cI) ?_
 refine JL.nil ?_
 refine JQ.then ?_
 replace hm := bnd_inv hm
 obtain ⟨tv1, hx1, hq1⟩ := hm
 refine JC.seqK (α := Int × Int) (γ := Unit) (stj := fun v q => ⟨[(0, ov (S (rL r_law12_Act) l_1)), (3, ov (S (rI .i64) v.1)), (4, ov (S (rI .i64) v.2))], [], []⟩) (p := fun v => tv1 = (.inl v)) (fun v q hv => ?_) ?_
 · subst hv
   obtain ⟨n_25, many_26⟩ := v
   obtain _ := q
   dsimp only at hq1
   refine JC.at ⟨[(0, ov (S (rL r_law12_Act) l_1)), (3, ov (S (rI .i64) n_25)), (4, ov (S (rI .i64) many_26))], [], []⟩ ?_
   replace hq1 := bnd_inv hq1
   obtain ⟨x_32, hx20, hq20⟩ := hq1
   refine JC.seqJ (γ := Unit) (stj := fun q => ⟨[(2, ov (S rB x_32))], [], []⟩) (fun q => ?_) ?_
   · obtain _ := q
     refine JC.at ⟨[(2, ov (S rB x_32))], [], []⟩ ?_
     refine JC.ret ?_
     replace hq20 := Option.some.inj hq20
     subst hq20
     exact JQ.done (js := []) (ss := [.val (S rB x_32)]) () (.inl rfl) (.nil rfl) rfl (.cons (.tmp rfl) .nil) rfl rfl rfl
   · refine JC.region ?_
     refine jc (op_move lb (.tmp rfl)) ?_
     replace hx20 := lt1_inv hx20
     obtain ⟨v_27, hv_v_27, hx20⟩ := hx20
     refine jc (op_cmpI lb (.tmp rfl) .cI (congrArg some hv_v_27)) ?_
     refine jc (op_move lb (.tmp rfl)) ?_
     refine JL.cnd (sv := ov (S (rI .i64) many_26)) (Guard.isF (ltB rfl) rfl rfl) rfl (ltB rfl) (fun hq_21 => op_move lb (.tmp rfl)) ?_
     replace hx20 := lt1_inv hx20
     obtain ⟨v_28, hv_v_28, hx20⟩ := hx20
     refine JL.cnd (sv := ov (S rB v_28)) (Guard.isF (ltB rfl) rfl rfl) rfl (ltB rfl) (fun hq_22 => op_cmpI lb (HasO.cnd (.tmp rfl) (notT (notF hq_22))) .cI (congrArg some hv_v_28)) ?_
     replace hx20 := lt1_inv hx20
     obtain ⟨v_29, hv_v_29, hx20⟩ := hx20
     refine jc (op_pickCS lb (.tmp rfl) (fun hb23 => .cB) (fun hb23 => (HasO.cnd (.tmp rfl) (notT hb23))) hv_v_29) ?_
     refine jc (op_move lb (.tmp rfl)) ?_
     refine JL.cnd (sv := ov (S (rL r_law12_Act) l_1)) (Guard.isF (ltB rfl) rfl rfl) rfl (ltB rfl) (fun hq_24 => op_move lb (.tmp rfl)) ?_
     refine JL.cnd (sv := ov (S (rI .i64) (List.length l_1 : Int))) (Guard.isF (ltB rfl) rfl rfl) rfl (ltB rfl) (fun hq_25 => op_lenL lb tu22 (HasO.cnd (.tmp rfl) (notT (notF hq_25)))) ?_
     replace hx20 := lt1_inv hx20
     obtain ⟨v_30, hv_v_30, hx20⟩ := hx20
     refine JL.cnd (sv := ov (S rB v_30)) (Guard.isF (ltB rfl) rfl rfl) rfl (ltB rfl) (fun hq_26 => op_cmpI lb (HasO.cnd (.tmp rfl) (notT (notF hq_26))) .cI (congrArg some hv_v_30)) ?_
     replace hx20 := lt1_inv hx20
     obtain ⟨v_31, hv_v_31, hx20⟩ := hx20
     refine jc (op_pickCS lb (.tmp rfl) (fun hb27 => .cB) (fun hb27 => (HasO.cnd (.tmp rfl) (notT hb27))) hv_v_31) ?_
     refine jc (op_assign lb (.tmp rfl)) ?_
     refine JL.sub ⟨[(2, ov (S rB v_31))], [], []⟩ (.cons rfl .nil) rfl rfl ?_
     refine JL.nil ?_
     replace hx20 := Option.some.inj hx20
     first | subst hx20 | clear hx20
     exact JQ.join () (Imp.norm (js := []) rfl (.cons rfl .nil))
 · refine JC.seq ?_
   refine JC.region ?_
   refine jc (op_assign lb .cI) ?_
   refine JL.nil ?_
   refine JQ.then ?_
   refine JC.block ?_
   replace hx1 := bnd_inv hx1
   obtain ⟨tv2, hL2, hq2⟩ := hx1
   refine JC.pre ?_ (JC.loop (γ := Unit) (stf := fun s q => ⟨[(0, ov (S (rL r_law12_Act) l_1)), (3, ov (S (rI .i64) s.1)), (4, ov (S (rI .i64) s.2.1)), (5, ov (S (rI .i64) s.2.2))], [], []⟩) (q := ()) hL2 ?_)
   · exact (Imp.norm (js := []) rfl (.cons rfl (.cons rfl (.cons rfl (.cons rfl .nil)))))
   · intro s q x hx hr
     obtain ⟨n_2, many_3, i_4⟩ := s
     obtain _ := q
     change law12_much.b1 k l_1 n_2 many_3 i_4 = some x at hx
     unfold law12_much.b1 at hx
     refine JC.at ⟨[(0, ov (S (rL r_law12_Act) l_1)), (3, ov (S (rI .i64) n_2)), (4, ov (S (rI .i64) many_3)), (5, ov (S (rI .i64) i_4))], [], []⟩ ?_
     refine JC.seq ?_
     replace hx := bnd_inv hx
     obtain ⟨x_8, hx3, hq3⟩ := hx
     refine JC.seqJ (γ := Unit) (stj := fun q => ⟨[(0, ov (S (rL r_law12_Act) l_1)), (3, ov (S (rI .i64) n_2)), (4, ov (S (rI .i64) many_3)), (5, ov (S (rI .i64) i_4)), (13, ov (S rB x_8))], [], []⟩) (fun q => ?_) ?_
     · obtain _ := q
       refine JC.at ⟨[(0, ov (S (rL r_law12_Act) l_1)), (3, ov (S (rI .i64) n_2)), (4, ov (S (rI .i64) many_3)), (5, ov (S (rI .i64) i_4)), (13, ov (S rB x_8))], [], []⟩ ?_
       replace hq3 := iteB_inv hq3
       rcases hq3 with ⟨hc7, hq3⟩ | ⟨hc7, hq3⟩
       · refine JC.condT (.tmp rfl) hc7 ?_
         refine JC.skip ?_
         refine JQ.then ?_
         refine JC.seq ?_
         refine JC.block ?_
         refine JC.seq ?_
         refine JC.region ?_
         refine jc (op_move lb (.tmp rfl)) ?_
         refine jc (op_move lb (.tmp rfl)) ?_
         refine jc (op_move lb (.tmp rfl)) ?_
         replace hq3 := bnd_inv hq3
         obtain ⟨v_9, hv_v_9, hq3⟩ := hq3
         refine jc (op_indexAddrLg lb tu22 tz33 (.tmp rfl) (.tmp rfl) hv_v_9) ?_
         refine jc (op_fieldAddrP lb tf33_3 (.tmp rfl) (comp_law12_Act_Bytes v_9)) ?_
         refine jc (op_loadPSg lb tS31 rfl (.tmp rfl) rfl) ?_
         refine jc (op_lenL lb tu31 (.tmp rfl)) ?_
         replace hq3 := lt1_inv hq3
         obtain ⟨v_10, hv_v_10, hq3⟩ := hq3
         refine jc (op_minI lb (.tmp rfl) .cI hv_v_10) ?_
         replace hq3 := lt1_inv hq3
         obtain ⟨v_11, hv_v_11, hq3⟩ := hq3
         refine jc (op_arI lb (.tmp rfl) (.tmp rfl) (congrArg some hv_v_11)) ?_
         refine jc (op_assign lb (.tmp rfl)) ?_
         refine JL.nil ?_
         refine JQ.then ?_
         replace hq3 := bnd_inv hq3
         obtain ⟨many_15, hx8, hq8⟩ := hq3
         refine JC.seqJ (γ := Unit) (stj := fun q => ⟨[(0, ov (S (rL r_law12_Act) l_1)), (3, ov (S (rI .i64) v_11)), (4, ov (S (rI .i64) many_15)), (5, ov (S (rI .i64) i_4))], [], []⟩) (fun q => ?_) ?_
         · obtain _ := q
           refine JC.at ⟨[(0, ov (S (rL r_law12_Act) l_1)), (3, ov (S (rI .i64) v_11)), (4, ov (S (rI .i64) many_15)), (5, ov (S (rI .i64) i_4))], [], []⟩ ?_
           replace hq8 := bnd_inv hq8
           obtain ⟨x_21, hx10, hq10⟩ := hq8
           refine JC.seqJ (γ := Unit) (stj := fun q => ⟨[(0, ov (S (rL r_law12_Act) l_1)), (3, ov (S (rI .i64) v_11)), (4, ov (S (rI .i64) many_15)), (5, ov (S (rI .i64) i_4)), (47, ov (S rB x_21))], [], []⟩) (fun q => ?_) ?_
           · obtain _ := q
             refine JC.at ⟨[(0, ov (S (rL r_law12_Act) l_1)), (3, ov (S (rI .i64) v_11)), (4, ov (S (rI .i64) many_15)), (5, ov (S (rI .i64) i_4)), (47, ov (S rB x_21))], [], []⟩ ?_
             replace hq10 := iteB_inv hq10
             rcases hq10 with ⟨hc19, hq10⟩ | ⟨hc19, hq10⟩
             · refine JC.condT (.tmp rfl) hc19 ?_
               refine JC.seq ?_
               refine JC.region ?_
               refine jc (op_assign lb .cB) ?_
               refine JL.nil ?_
               refine JQ.then ?_
               refine JC.ret ?_
               refine JQ.outRB ?_
               refine JQ.outR ?_
               replace hq10 := Option.some.inj hq10
               first | subst hq10 | clear hq10
               have ht := hr _ rfl
               clear hr
               first | subst ht | clear ht
               dsimp only at hq2
               refine JQ.outR ?_
               refine JQ.outRB ?_
               replace hq2 := Option.some.inj hq2
               first | subst hq2 | clear hq2
               dsimp only at hq1
               refine JQ.outR ?_
               replace hq1 := Option.some.inj hq1
               subst hq1
               exact JQ.done (js := []) (ss := [.val (S rB true)]) () (.inl rfl) (.nil rfl) rfl (.cons (.tmp rfl) .nil) rfl rfl rfl
             · refine JC.condF (.tmp rfl) hc19 ?_
               refine JC.skip ?_
               refine JQ.outNB ?_
               refine JQ.then ?_
               refine JC.region ?_
               refine jc (op_move lb (.tmp rfl)) ?_
               replace hq10 := lt1_inv hq10
               obtain ⟨v_22, hv_v_22, hq10⟩ := hq10
               refine jc (op_arI lb (.tmp rfl) .cI (congrArg some hv_v_22)) ?_
               refine jc (op_assign lb (.tmp rfl)) ?_
               refine JL.nil ?_
               replace hq10 := Option.some.inj hq10
               first | subst hq10 | clear hq10
               exact JQ.next () rfl (Imp.norm (js := []) rfl (.cons rfl (.cons rfl (.cons rfl (.cons rfl .nil)))))
           · refine JC.region ?_
             refine jc (op_move lb (.tmp rfl)) ?_
             refine jc (op_move lb (.tmp rfl)) ?_
             replace hx10 := bnd_inv hx10
             obtain ⟨v_16, hv_v_16, hx10⟩ := hx10
             refine jc (op_indexAddrLg lb tu22 tz33 (.tmp rfl) (.tmp rfl) hv_v_16) ?_
             refine jc (op_fieldAddrP lb tf33_0 (.tmp rfl) (comp_law12_Act_Kind v_16)) ?_
             refine jc (op_loadPSg lb tS3 rfl (.tmp rfl) rfl) ?_
             replace hx10 := lt1_inv hx10
             obtain ⟨v_17, hv_v_17, hx10⟩ := hx10
             refine jc (op_cmpI lb (.tmp rfl) .cI (congrArg some hv_v_17)) ?_
             refine jc (op_move lb (.tmp rfl)) ?_
             refine JL.cnd (sv := ov (S (rL r_law12_Act) l_1)) (Guard.isT (ltB rfl) rfl rfl) rfl (ltB rfl) (fun hq_11 => op_move lb (.tmp rfl)) ?_
             refine JL.cnd (sv := ov (S (rI .i64) i_4)) (Guard.isT (ltB rfl) rfl rfl) rfl (ltB rfl) (fun hq_12 => op_move lb (.tmp rfl)) ?_
             replace hx10 := bnd_inv hx10
             obtain ⟨v_18, hv_v_18, hx10⟩ := hx10
             refine JL.cnd (sv := ov (PT r_law12_Act v_18)) (Guard.isT (ltB rfl) rfl rfl) rfl (ltB rfl) (fun hq_13 => op_indexAddrLg lb tu22 tz33 (HasO.cnd (.tmp rfl) hq_13) (HasO.cnd (.tmp rfl) hq_13) (ifT hv_v_18 hq_13)) ?_
             refine JL.cnd (sv := ov (PT (rL (rU UInt8)) v_18.Bytes)) (Guard.isT (ltB rfl) rfl rfl) rfl (ltB rfl) (fun hq_14 => op_fieldAddrP lb tf33_3 (HasO.cnd (.tmp rfl) hq_14) (comp_law12_Act_Bytes v_18)) ?_
             refine JL.cnd (sv := ov (S (rL (rU UInt8)) v_18.Bytes)) (Guard.isT (ltB rfl) rfl rfl) rfl (ltB rfl) (fun hq_15 => op_loadPSg lb tS31 rfl (HasO.cnd (.tmp rfl) hq_15) rfl) ?_
             refine JL.sub ⟨[(0, ov (S (rL r_law12_Act) l_1)), (3, ov (S (rI .i64) v_11)), (4, ov (S (rI .i64) many_15)), (5, ov (S (rI .i64) i_4)), (39, ov (S rB v_17)), (44, bif v_17 then ov (S (rL (rU UInt8)) v_18.Bytes) else .one .und)], [], []⟩ (.cons rfl (.cons rfl (.cons rfl (.cons rfl (.cons rfl (.cons rfl .nil)))))) rfl rfl ?_
             refine JL.cnd (sv := ov (S (rI .i64) (List.length v_18.Bytes : Int))) (Guard.isT (ltB rfl) rfl rfl) rfl (ltB rfl) (fun hq_16 => op_lenL lb tu31 (HasO.cnd (.tmp rfl) hq_16)) ?_
             replace hx10 := lt1_inv hx10
             obtain ⟨v_19, hv_v_19, hx10⟩ := hx10
             refine JL.cnd (sv := ov (S rB v_19)) (Guard.isT (ltB rfl) rfl rfl) rfl (ltB rfl) (fun hq_17 => op_cmpI lb (HasO.cnd (.tmp rfl) hq_17) .cI (congrArg some hv_v_19)) ?_
             replace hx10 := lt1_inv hx10
             obtain ⟨v_20, hv_v_20, hx10⟩ := hx10
             refine jc (op_pickCS lb (.tmp rfl) (fun hb18 => (HasO.cnd (.tmp rfl) hb18)) (fun hb18 => .cB) hv_v_20) ?_
             refine JL.nil ?_
             replace hx10 := Option.some.inj hx10
             first | subst hx10 | clear hx10
             exact JQ.join () (Imp.norm (js := []) rfl (.cons rfl (.cons rfl (.cons rfl (.cons rfl (.cons rfl .nil))))))
         · refine JC.seq ?_
           refine JC.region ?_
           refine jc (op_move lb (.tmp rfl)) ?_
           refine jc (op_move lb (.tmp rfl)) ?_
           refine JL.sub ⟨[(0, ov (S (rL r_law12_Act) l_1)), (3, ov (S (rI .i64) v_11)), (4, ov (S (rI .i64) many_3)), (5, ov (S (rI .i64) i_4)), (25, ov (S (rL r_law12_Act) l_1)), (26, ov (S (rI .i64) i_4))], [], []⟩ (.cons rfl (.cons rfl (.cons rfl (.cons rfl (.cons rfl (.cons rfl .nil)))))) rfl rfl ?_
           replace hx8 := bnd_inv hx8
           obtain ⟨v_12, hv_v_12, hx8⟩ := hx8
           refine jc (op_indexAddrLg lb tu22 tz33 (.tmp rfl) (.tmp rfl) hv_v_12) ?_
           refine jc (op_fieldAddrP lb tf33_0 (.tmp rfl) (comp_law12_Act_Kind v_12)) ?_
           refine jc (op_loadPSg lb tS3 rfl (.tmp rfl) rfl) ?_
           replace hx8 := lt1_inv hx8
           obtain ⟨v_13, hv_v_13, hx8⟩ := hx8
           refine jc (op_cmpI lb (.tmp rfl) .cI (congrArg some hv_v_13)) ?_
           refine JL.nil ?_
           refine JQ.then ?_
           replace hx8 := iteB_inv hx8
           rcases hx8 with ⟨hc9, hx8⟩ | ⟨hc9, hx8⟩
           · refine JC.condT (.tmp rfl) hc9 ?_
             refine JC.region ?_
             refine jc (op_move lb (.tmp rfl)) ?_
             replace hx8 := lt1_inv hx8
             obtain ⟨v_14, hv_v_14, hx8⟩ := hx8
             refine jc (op_arI lb (.tmp rfl) .cI (congrArg some hv_v_14)) ?_
             refine jc (op_assign lb (.tmp rfl)) ?_
             refine JL.nil ?_
             replace hx8 := Option.some.inj hx8
             first | subst hx8 | clear hx8
             exact JQ.join () (Imp.norm (js := []) rfl (.cons rfl (.cons rfl (.cons rfl (.cons rfl .nil)))))
           · refine JC.condF (.tmp rfl) hc9 ?_
             refine JC.skip ?_
             replace hx8 := Option.some.inj hx8
             first | subst hx8 | clear hx8
             exact JQ.join () (Imp.norm (js := []) rfl (.cons rfl (.cons rfl (.cons rfl (.cons rfl .nil)))))
       · refine JC.condF (.tmp rfl) hc7 ?_
         refine JC.exit ?_
         refine JQ.outX ?_
         replace hq3 := Option.some.inj hq3
         first | subst hq3 | clear hq3
         have ht := hr _ rfl
         clear hr
         first | subst ht | clear ht
         dsimp only at hq2
         refine JQ.outX ?_
         refine JQ.here ?_
         replace hq2 := Option.some.inj hq2
         first | subst hq2 | clear hq2
         exact JQ.joinK (n_2, many_3) () rfl (Imp.norm (js := []) rfl (.cons rfl (.cons rfl (.cons rfl .nil))))
     · refine JC.region ?_
       refine jc (op_move lb (.tmp rfl)) ?_
       refine jc (op_move lb (.tmp rfl)) ?_
       refine jc (op_lenL lb tu22 (.tmp rfl)) ?_
       replace hx3 := lt1_inv hx3
       obtain ⟨v_5, hv_v_5, hx3⟩ := hx3
       refine jc (op_cmpI lb (.tmp rfl) (.tmp rfl) (congrArg some hv_v_5)) ?_
       refine jc (op_move lb (.tmp rfl)) ?_
       refine JL.cnd (sv := ov (S (rI .i64) i_4)) (Guard.isT (ltB rfl) rfl rfl) rfl (ltB rfl) (fun hq_4 => op_move lb (.tmp rfl)) ?_
       replace hx3 := lt1_inv hx3
       obtain ⟨v_6, hv_v_6, hx3⟩ := hx3
       refine JL.cnd (sv := ov (S rB v_6)) (Guard.isT (ltB rfl) rfl rfl) rfl (ltB rfl) (fun hq_5 => op_cmpI lb (HasO.cnd (.tmp rfl) hq_5) .cI (congrArg some hv_v_6)) ?_
       replace hx3 := lt1_inv hx3
       obtain ⟨v_7, hv_v_7, hx3⟩ := hx3
       refine jc (op_pickCS lb (.tmp rfl) (fun hb6 => (HasO.cnd (.tmp rfl) hb6)) (fun hb6 => .cB) hv_v_7) ?_
       refine JL.nil ?_
       replace hx3 := Option.some.inj hx3
       first | subst hx3 | clear hx3
       exact JQ.join () (Imp.norm (js := []) rfl (.cons rfl (.cons rfl (.cons rfl (.cons rfl (.cons rfl .nil))))))

theorem sim_law12_num (k : Nat) (e_1 : Int) (r : Unit) (hm : law12_num k e_1 = some r) : Sim Try.prog 12 [S (rI .i64) e_1] [] (γ := Unit) (fun q => []) (fun q => .one (.val (S (rI .i64) e_1))) := by
 unfold law12_num at hm
 refine Sim.of Try.func12 rfl rfl (Nat.le_of_ble_eq_true rfl) (fun e0 w0 => ?_)
 refine JC.at ⟨[(0, ov (S (rI .i64) e_1))], [], []⟩ ?_
 refine JC.seq ?_
 refine JC.region ?_
 refine jc (op_assign lb .cI) ?_
 refine JL.nil ?_
 refine JQ.then ?_
 refine JC.seq ?_
 refine JC.region ?_
 refine jc (op_move lb (.tmp rfl)) ?_
 refine jc (op_assign lb (.tmp rfl)) ?_
 refine JL.nil ?_
 refine JQ.then ?_
 refine JC.ret ?_
 exact JQ.done (js := []) (ss := [.val (S (rI .i64) e_1)]) () (.inl rfl) (.nil rfl) rfl (.cons (.tmp rfl) .nil) rfl rfl rfl

theorem sim_net_Net_there (k : Nat) (ends_1 : Int) (lost_2 : Int) (x_4 : (List (net_pair × (List (List UInt8))))) (gb_3 : Nat) (go_5 : Option Nat) (r : Unit) (hm : net_Net_there k ends_1 lost_2 x_4 = some r) : Sim Try.prog 29 [PTR gb_3 0] [cvar gb_3 (rP (rW (MPV go_5)) (rP (rI .i64) (rP (rI .i64) r0))) ((), (ends_1, (lost_2, ()))), cmap go_5 (A r_net_pair) (S (rL (rL (rU UInt8)))) (some x_4)] (γ := Unit) (fun q => [cvar gb_3 (rP (rW (MPV go_5)) (rP (rI .i64) (rP (rI .i64) r0))) ((), (ends_1, (lost_2, ()))), cmap go_5 (A r_net_pair) (S (rL (rL (rU UInt8)))) (some x_4)]) (fun q => .one (.val (S rB true))) := by
 unfold net_Net_there at hm
 refine Sim.of Try.func29 rfl rfl (Nat.le_of_ble_eq_true rfl) (fun e0 w0 => ?_)
 refine JC.at ⟨[(0, ov (PTR gb_3 0))], [cvar gb_3 (rP (rW (MPV go_5)) (rP (rI .i64) (rP (rI .i64) r0))) ((), (ends_1, (lost_2, ()))), cmap go_5 (A r_net_pair) (S (rL (rL (rU UInt8)))) (some x_4)], []⟩ ?_
 refine JC.seq ?_
 refine JC.region ?_
 refine jc (op_assign lb .cB) ?_
 refine JL.nil ?_
 refine JQ.then ?_
 replace hm := bnd_inv hm
 obtain ⟨_, hx1, hq1⟩ := hm
 refine JC.seqJ (γ := Unit) (stj := fun q => ⟨[(2, ov (S rB true))], [cvar gb_3 (rP (rW (MPV go_5)) (rP (rI .i64) (rP (rI .i64) r0))) ((), (ends_1, (lost_2, ()))), cmap go_5 (A r_net_pair) (S (rL (rL (rU UInt8)))) (some x_4)], []⟩) (fun q => ?_) ?_
 · obtain _ := q
   refine JC.at ⟨[(2, ov (S rB true))], [cvar gb_3 (rP (rW (MPV go_5)) (rP (rI .i64) (rP (rI .i64) r0))) ((), (ends_1, (lost_2, ()))), cmap go_5 (A r_net_pair) (S (rL (rL (rU UInt8)))) (some x_4)], []⟩ ?_
   refine JC.ret ?_
   exact JQ.done (js := [0, 0]) (ss := [.val (S rB true)]) () (.inl rfl) (.nil rfl) rfl (.cons (.tmp rfl) .nil) rfl rfl rfl
 · refine JC.region ?_
   refine jc (op_move lb (.tmp rfl)) ?_
   refine jc (op_nilP (neg := true) lb tu25 (.tmp rfl) (HasO.const (p := PTO none) fun _ => rfl)) ?_
   refine jc (op_move lb (.tmp rfl)) ?_
   refine JL.run (.yes rfl (ltB rfl) rfl rfl) (op_move lb (.tmp rfl)) ?_
   refine JL.run (.yes rfl (ltB rfl) rfl rfl) (op_nilCheck lb (.tmp rfl) (fun e v h => by subst h; rfl)) ?_
   refine JL.run (.yes rfl (ltB rfl) rfl rfl) (op_fieldAddr (off := 0) lb tf57_0 (.tmp rfl)) ?_
   refine JL.run (.yes rfl (ltB rfl) rfl rfl) (op_loadW (j := 0) lb tS55 (.tmp rfl) rfl (Comp.trans (Comp.self (rP (rW (MPV go_5)) (rP (rI .i64) (rP (rI .i64) r0))) ((), (ends_1, (lost_2, ())))) (Comp.at' (Comp.inF (Comp.self (rW (MPV go_5)) ()) (Nat.le_of_ble_eq_true rfl)) (by rfl : _ = 0)) (Nat.le_of_ble_eq_true rfl))) ?_
   refine JL.run (.yes rfl (ltB rfl) rfl rfl) (op_nilMX (neg := true) (j := 1) lb tu55 rfl (.tmp rfl) (HasO.const (p := MPV none) fun _ => rfl) rfl) ?_
   refine jc (op_pickT lb (.tmp rfl) rfl (.tmp rfl)) ?_
   refine jc (op_assign lb (.tmp rfl)) ?_
   refine JL.nil ?_
   refine JQ.pre (Imp.var (j := 0) (q := (rP (rW (MPV go_5)) (rP (rI .i64) (rP (rI .i64) r0)))) (y := ((), (ends_1, (lost_2, ())))) rfl Wk.refl) ?_
   exact JQ.join () (Imp.norm (js := [0, 0]) rfl (.cons rfl .nil))

theorem sim_slices_Clonebyte_byte (k : Nat) (s_1 : (List UInt8)) (r : (List UInt8)) (hm : slices_Clonebyte_byte k s_1 = some r) : Sim Try.prog 40 [S (rL (rU UInt8)) s_1] [] (γ := Option Nat × Nat) (fun q => [cown q.1 (rU UInt8) r 0 q.2]) (fun q => .one (.val (HDR q.1 0 (List.length r) q.2))) := by
 unfold slices_Clonebyte_byte at hm
 refine Sim.of Try.func40 rfl rfl (Nat.le_of_ble_eq_true rfl) (fun e0 w0 => ?_)
 refine JC.at ⟨[(0, ov (S (rL (rU UInt8)) s_1))], [], []⟩ ?_
 refine JC.seq ?_
 refine JC.region ?_
 refine jc (op_assign lb HasO.nilH) ?_
 refine JL.nil ?_
 refine JQ.then ?_
 refine JC.seq ?_
 refine JC.seq ?_
 refine JC.region ?_
 refine jc (op_move lb (.tmp rfl)) ?_
 refine JL.consX rfl (op_isNil (neg := false) (ltB rfl) tu31 (.tmp rfl) HasO.nilH) (fun q => ?_)
 obtain ⟨hb1, hb1_⟩ := q
 cases hb1
 · refine JL.nil ?_
   refine JQ.then ?_
   refine JC.condF (.tmp rfl) rfl ?_
   refine JC.skip ?_
   refine JQ.then ?_
   refine JC.seq ?_
   refine JC.region ?_
   refine jx (op_buildO (r := (rU UInt8)) lb tu31 tz5 tZ5 rfl (Nat.le_of_ble_eq_true rfl) .nil rfl) (fun q => ?_)
   obtain ⟨gb_2, hqq⟩ : ∃ z, z = q := ⟨_, rfl⟩
   subst hqq
   refine jc (op_move lb (.tmp rfl)) ?_
   replace hm := bnd_inv hm
   obtain ⟨x_3, hv_x_3, hm⟩ := hm
   refine jx (op_appendL (j := 0) lb tu31 tu31 rfl tB5 rfl (Nat.lt_of_lt_of_le Nat.zero_lt_one (Nat.le_of_ble_eq_true rfl)) (Nat.lt_of_lt_of_le Nat.zero_lt_one (Nat.le_of_ble_eq_true rfl))  rfl (.tmp rfl) (.tmp rfl) hv_x_3) (fun q => ?_)
   obtain ⟨go_4, gc_5⟩ := q
   refine jc (op_assign lb (.tmp rfl)) ?_
   refine JL.nil ?_
   refine JQ.then ?_
   refine JC.ret ?_
   replace hm := Option.some.inj hm
   subst hm
   exact JQ.done (js := [0]) (ss := [.val (HDR go_4 0 (List.length x_3) gc_5)]) (go_4, gc_5) (.inl rfl) (.nil rfl) rfl (.cons (.tmp rfl) .nil) rfl rfl rfl
 · replace hm := nilK hm (show _ = (
         some ([] : (List UInt8))
         ) by simp [hb1_ rfl, subL, apL])
   refine JL.nil ?_
   refine JQ.then ?_
   refine JC.condT (.tmp rfl) rfl ?_
   refine JC.seq ?_
   refine JC.region ?_
   refine jc (op_assign lb HasO.nilH) ?_
   refine JL.nil ?_
   refine JQ.then ?_
   refine JC.ret ?_
   refine JQ.outR ?_
   replace hm := Option.some.inj hm
   subst hm
   refine JQ.pre (Imp.nilown (rU UInt8)) ?_
   exact JQ.done (js := [0]) (ss := [.val (HDR none 0 (List.length ([] : (List UInt8))) (0))]) (none, 0) (.inl rfl) (.nil rfl) rfl (.cons (.tmp rfl) .nil) rfl rfl rfl

theorem sim_net_Net_lay (k : Nat) (p_1 : net_pair) (b_2 : (List UInt8)) (ends_3 : Int) (lost_4 : Int) (x_6 : (List (net_pair × (List (List UInt8))))) (gb_5 : Nat) (go_7 : Option Nat) (r : (List (net_pair × (List (List UInt8))))) (hm : net_Net_lay k p_1 b_2 ends_3 lost_4 x_6 = some r) : Sim Try.prog 30 [PTR gb_5 0, A r_net_pair p_1, S (rL (rU UInt8)) b_2] [cvar gb_5 (rP (rW (MPV go_7)) (rP (rI .i64) (rP (rI .i64) r0))) ((), (ends_3, (lost_4, ()))), cmap go_7 (A r_net_pair) (S (rL (rL (rU UInt8)))) (some x_6)] (γ := Unit) (fun q => [cvar gb_5 (rP (rW (MPV go_7)) (rP (rI .i64) (rP (rI .i64) r0))) ((), (ends_3, (lost_4, ()))), cmap go_7 (A r_net_pair) (S (rL (rL (rU UInt8)))) (some r)]) (fun q => .tup []) := by
 unfold net_Net_lay at hm
 refine Sim.of Try.func30 rfl rfl (Nat.le_of_ble_eq_true rfl) (fun e0 w0 => ?_)
 refine JC.at ⟨[(0, ov (PTR gb_5 0)), (1, ov (A r_net_pair p_1)), (2, ov (S (rL (rU UInt8)) b_2))], [cvar gb_5 (rP (rW (MPV go_7)) (rP (rI .i64) (rP (rI .i64) r0))) ((), (ends_3, (lost_4, ()))), cmap go_7 (A r_net_pair) (S (rL (rL (rU UInt8)))) (some x_6)], []⟩ ?_
 refine JC.seq ?_
 refine JC.region ?_
 refine jx (op_boxA lb (.tmp rfl)) (fun q => ?_)
 obtain ⟨gb_8, hqq⟩ : ∃ z, z = q := ⟨_, rfl⟩
 subst hqq
 refine JL.nil ?_
 refine JQ.then ?_
 refine JC.seq ?_
 replace hm := lt1_inv hm
 obtain ⟨v_9, hv_v_9, hm⟩ := hm
 refine JC.anyE (kl := []) (kk := 0) (base := [(0, ov (PTR gb_5 0)), (2, ov (S (rL (rU UInt8)) b_2)), (4, ov (PTR gb_8 0))])
     (fs := fun γ => [⟨some 7, ov (PTR gb_5 0)⟩, ⟨some 8, ov (PTR gb_5 0)⟩, ⟨some 9, ov (PTR gb_5 (0 + 0))⟩, ⟨some 10, ov (MPV go_7)⟩, ⟨some 11, ov (A r_net_pair p_1)⟩, ⟨some 12, ov (S (rL (rL (rU UInt8))) v_9)⟩, ⟨some 6, ov (S (rL (rL (rU UInt8))) v_9)⟩])
     (rs := fun γ => [⟨cvar gb_5 (rP (rW (MPV go_7)) (rP (rI .i64) (rP (rI .i64) r0))) ((), (ends_3, (lost_4, ()))), none, none, [3]⟩, ⟨cmap go_7 (A r_net_pair) (S (rL (rL (rU UInt8)))) (some x_6), none, none, [5]⟩, ⟨cvar gb_8 r_net_pair p_1, none, none, [4]⟩])
     (ds := [7, 8, 9, 10, 11, 12, 6]) (bs := [0, 2, 4]) (afts := [[], [], [], [], [], [], []]) (js := [0, 0, 0]) mixed (.cons rfl (.cons rfl (.cons rfl .nil))) (fun _ => rfl)
     (by
      refine dS 1 (fun γ ρ B hb hd => op_move lb (.tmp (hb 0 _ rfl))) ?_
      refine dS 2 (fun γ ρ B hb hd => op_nilCheck lb (.tmp (hl hd 0 7 rfl)) (fun e v h => by subst h; rfl)) ?_
      refine dS 3 (fun γ ρ B hb hd => op_fieldAddr (off := 0) lb tf57_0 (.tmp (hl hd 1 8 rfl))) ?_
      refine DSteps.cons (j := 4) rfl (fun _ => rfl) (.run (fun γ ρ B hb hd => ⟨.none, OpStep.at ⟨ρ, (cvar gb_5 (rP (rW (MPV go_7)) (rP (rI .i64) (rP (rI .i64) r0))) ((), (ends_3, (lost_4, ())))) :: B, _⟩ (setO ⟨ρ, (cvar gb_5 (rP (rW (MPV go_7)) (rP (rI .i64) (rP (rI .i64) r0))) ((), (ends_3, (lost_4, ())))) :: B, _⟩ _ _) (op_loadW (j := 0) lb tS55 (.tmp (hl hd 2 9 rfl)) rfl (Comp.trans (Comp.self (rP (rW (MPV go_7)) (rP (rI .i64) (rP (rI .i64) r0))) ((), (ends_3, (lost_4, ())))) (Comp.at' (Comp.inF (Comp.self (rW (MPV go_7)) ()) (Nat.le_of_ble_eq_true rfl)) (by rfl : _ = 0)) (Nat.le_of_ble_eq_true rfl)))⟩)) ?_
      refine DSteps.cons (j := 5) rfl (fun _ => rfl) (.run (fun γ ρ B hb hd => ⟨.none, OpStep.at ⟨ρ, (cvar gb_8 r_net_pair p_1) :: B, _⟩ (setO ⟨ρ, (cvar gb_8 r_net_pair p_1) :: B, _⟩ _ _) (op_loadA (j := 0) lb tA60 (.tmp (hb 4 _ rfl)) rfl (Comp.self r_net_pair p_1) rfl)⟩)) ?_
      refine DSteps.cons (j := 6) rfl (fun _ => rfl) (.run (fun γ ρ B hb hd => ⟨.none, OpStep.at ⟨ρ, (cmap go_7 (A r_net_pair) (S (rL (rL (rU UInt8)))) (some x_6)) :: B, _⟩ (setO ⟨ρ, (cmap go_7 (A r_net_pair) (S (rL (rL (rU UInt8)))) (some x_6)) :: B, _⟩ _ _) (op_lookup (z0 := ([] : (List (List UInt8)))) (j := 0) lb tu55 ky60 tZ58 (fun e => zv58 e) rfl (.tmp (hl hd 3 10 rfl)) (.tmp (hl hd 4 11 rfl)) hv_v_9)⟩)) ?_
      refine dS 7 (fun γ ρ B hb hd => op_assign lb (.tmp (hl hd 5 12 rfl))) ?_
      exact DSteps.nil)
     (by decide +kernel) (fun _ => rfl) rfl (fun _ => rfl) (fun _ => rfl) rfl (by decide) (by decide) (by decide +kernel) (fun _ d h => by cases h)
     (ρ' := fun γ => [(0, ov (PTR gb_5 0)), (2, ov (S (rL (rU UInt8)) b_2)), (4, ov (PTR gb_8 0)), (6, ov (S (rL (rL (rU UInt8))) v_9))])
     (X' := fun γ => [cvar gb_5 (rP (rW (MPV go_7)) (rP (rI .i64) (rP (rI .i64) r0))) ((), (ends_3, (lost_4, ()))), cmap go_7 (A r_net_pair) (S (rL (rL (rU UInt8)))) (some x_6), cvar gb_8 r_net_pair p_1])
     (fun γ ρ hb hd => (.cons (hb 0 _ rfl (by decide)) (.cons (hb 2 _ rfl (by decide)) (.cons (hb 4 _ rfl (by decide)) (.cons (hdq hd 6 6 rfl) .nil))))) (fun _ => rfl) (fun γ => ?_)
 refine JQ.at ⟨[(0, ov (PTR gb_5 0)), (2, ov (S (rL (rU UInt8)) b_2)), (4, ov (PTR gb_8 0)), (6, ov (S (rL (rL (rU UInt8))) v_9))], [cvar gb_5 (rP (rW (MPV go_7)) (rP (rI .i64) (rP (rI .i64) r0))) ((), (ends_3, (lost_4, ()))), cmap go_7 (A r_net_pair) (S (rL (rL (rU UInt8)))) (some x_6), cvar gb_8 r_net_pair p_1], []⟩ ?_
 refine JQ.then ?_
 replace hm := bnd_inv hm
 obtain ⟨v_10, hv_v_10, hm⟩ := hm
 replace hm := bnd_inv hm
 obtain ⟨v_11, hv_v_11, hm⟩ := hm
 replace hm := bnd_inv hm
 obtain ⟨v_14, hv_v_14, hm⟩ := hm
 replace hm := lt1_inv hm
 obtain ⟨x_15, hv_x_15, hm⟩ := hm
 refine JC.anyE (kl := []) (kk := 0) (base := [(0, ov (PTR gb_5 0)), (2, ov (S (rL (rU UInt8)) b_2)), (4, ov (PTR gb_8 0)), (6, ov (S (rL (rL (rU UInt8))) v_9))])
     (fs := fun γ => [⟨some 13, ov (PTR gb_5 0)⟩, ⟨some 14, ov (PTR gb_5 0)⟩, ⟨some 15, ov (PTR gb_5 (0 + 0))⟩, ⟨some 16, ov (MPV go_7)⟩, ⟨some 17, ov (A r_net_pair p_1)⟩, ⟨some 18, ov (S (rL (rL (rU UInt8))) v_9)⟩, ⟨some 19, ov (S (rL (rL (rU UInt8))) v_9)⟩, ⟨some 20, ov (S (rI .i64) (List.length v_9 : Int))⟩, ⟨some 21, ov (S (rL (rL (rU UInt8))) v_9)⟩, ⟨some 22, ov (S (rI .i64) (List.length v_9 : Int))⟩, ⟨some 23, ov (S (rLc (rL (rU UInt8))) v_10)⟩, ⟨some 24, ov (S (rL (rU UInt8)) b_2)⟩, ⟨some 25, ov (S (rL (rU UInt8)) v_11)⟩, ⟨some 26, ov (S (rL (rL (rU UInt8))) ([v_11] : (List (List UInt8))))⟩, ⟨some 27, ov (S (rL (rL (rU UInt8))) v_14)⟩, ⟨none, .one .any⟩])
     (rs := fun γ => [⟨cvar gb_5 (rP (rW (MPV go_7)) (rP (rI .i64) (rP (rI .i64) r0))) ((), (ends_3, (lost_4, ()))), none, none, [3]⟩, ⟨cmap go_7 (A r_net_pair) (S (rL (rL (rU UInt8)))) (some x_6), none, (some 15), []⟩, ⟨cvar gb_8 r_net_pair p_1, none, none, [4]⟩, ⟨cmap go_7 (A r_net_pair) (S (rL (rL (rU UInt8)))) (some x_15), (some 15), none, []⟩])
     (ds := [13, 14, 15, 16, 17, 18, 19, 20, 21, 22, 23, 24, 25, 26, 27]) (bs := [0, 2, 4, 6]) (afts := [[], [], [], [], [], [], [], [], [], [], [], [], [], [], [], []]) (js := [0, 0, 0]) mixed (.cons rfl (.cons rfl (.cons rfl (.cons rfl .nil)))) (fun _ => rfl)
     (by
      refine dS 1 (fun γ ρ B hb hd => op_move lb (.tmp (hb 0 _ rfl))) ?_
      refine dS 2 (fun γ ρ B hb hd => op_nilCheck lb (.tmp (hl hd 0 13 rfl)) (fun e v h => by subst h; rfl)) ?_
      refine dS 3 (fun γ ρ B hb hd => op_fieldAddr (off := 0) lb tf57_0 (.tmp (hl hd 1 14 rfl))) ?_
      refine DSteps.cons (j := 4) rfl (fun _ => rfl) (.run (fun γ ρ B hb hd => ⟨.none, OpStep.at ⟨ρ, (cvar gb_5 (rP (rW (MPV go_7)) (rP (rI .i64) (rP (rI .i64) r0))) ((), (ends_3, (lost_4, ())))) :: B, _⟩ (setO ⟨ρ, (cvar gb_5 (rP (rW (MPV go_7)) (rP (rI .i64) (rP (rI .i64) r0))) ((), (ends_3, (lost_4, ())))) :: B, _⟩ _ _) (op_loadW (j := 0) lb tS55 (.tmp (hl hd 2 15 rfl)) rfl (Comp.trans (Comp.self (rP (rW (MPV go_7)) (rP (rI .i64) (rP (rI .i64) r0))) ((), (ends_3, (lost_4, ())))) (Comp.at' (Comp.inF (Comp.self (rW (MPV go_7)) ()) (Nat.le_of_ble_eq_true rfl)) (by rfl : _ = 0)) (Nat.le_of_ble_eq_true rfl)))⟩)) ?_
      refine DSteps.cons (j := 5) rfl (fun _ => rfl) (.run (fun γ ρ B hb hd => ⟨.none, OpStep.at ⟨ρ, (cvar gb_8 r_net_pair p_1) :: B, _⟩ (setO ⟨ρ, (cvar gb_8 r_net_pair p_1) :: B, _⟩ _ _) (op_loadA (j := 0) lb tA60 (.tmp (hb 4 _ rfl)) rfl (Comp.self r_net_pair p_1) rfl)⟩)) ?_
      refine dS 6 (fun γ ρ B hb hd => op_move lb (.tmp (hb 6 _ rfl))) ?_
      refine dS 7 (fun γ ρ B hb hd => op_move lb (.tmp (hb 6 _ rfl))) ?_
      refine dS 8 (fun γ ρ B hb hd => op_lenL lb tu58 (.tmp (hl hd 6 19 rfl))) ?_
      refine dS 9 (fun γ ρ B hb hd => op_move lb (.tmp (hb 6 _ rfl))) ?_
      refine dS 10 (fun γ ρ B hb hd => op_lenL lb tu58 (.tmp (hl hd 8 21 rfl))) ?_
      refine dS 11 (fun γ ρ B hb hd => op_sliceLcg lb tu58 tz31 (.tmp (hl hd 5 18 rfl)) .none (.some (.tmp (hl hd 7 20 rfl))) (.some (.tmp (hl hd 9 22 rfl))) hv_v_10) ?_
      refine dS 12 (fun γ ρ B hb hd => op_move lb (.tmp (hb 2 _ rfl))) ?_
      refine dS 13 (fun γ ρ B hb hd => (op_call (js := []) ld cl40 (sim_slices_Clonebyte_byte k b_2 v_11 hv_v_11) .func (.cons (.tmp (hl hd 11 24 rfl)) .nil) rfl).post (fun q => Imp.dropF (j := 0) rfl)) ?_
      refine dS 14 (fun γ ρ B hb hd => op_buildF (r := (rL (rU UInt8))) lb tu58 tz31 tZ31 rfl (Nat.le_of_ble_eq_true rfl) (.S rfl (.tmp (hl hd 12 25 rfl)) .nil) rfl) ?_
      refine dS 15 (fun γ ρ B hb hd => op_appendCL lb tu58 tu58 rfl tB31 rfl (Nat.lt_of_lt_of_le Nat.zero_lt_one (Nat.le_of_ble_eq_true rfl)) (.tmp (hl hd 10 23 rfl)) (.tmp (hl hd 13 26 rfl)) hv_v_14) ?_
      refine DSteps.cons (j := 16) rfl (fun _ => rfl) (.run (fun γ ρ B hb hd => ⟨.none, OpStep.at ⟨ρ, (cmap go_7 (A r_net_pair) (S (rL (rL (rU UInt8)))) (some x_6)) :: B, _⟩ (setO ⟨ρ, (cmap go_7 (A r_net_pair) (S (rL (rL (rU UInt8)))) (some x_15)) :: B, _⟩ _ _) (op_mapUpdate (j := 0) tu55 ky60 rfl (.tmp (hl hd 3 16 rfl)) (.tmp (hl hd 4 17 rfl)) (.tmp (hl hd 14 27 rfl)) (congrArg (fun z => some (some z)) hv_x_15))⟩)) ?_
      exact DSteps.nil)
     (by decide +kernel) (fun _ => rfl) rfl (fun _ => rfl) (fun _ => rfl) rfl (by decide) (by decide) (by decide +kernel) (fun _ d h => by cases h)
     (ρ' := fun γ => [])
     (X' := fun γ => [cvar gb_5 (rP (rW (MPV go_7)) (rP (rI .i64) (rP (rI .i64) r0))) ((), (ends_3, (lost_4, ()))), cvar gb_8 r_net_pair p_1, cmap go_7 (A r_net_pair) (S (rL (rL (rU UInt8)))) (some x_15)])
     (fun γ ρ hb hd => .nil) (fun _ => rfl) (fun γ => ?_)
 refine JQ.at ⟨[], [cvar gb_5 (rP (rW (MPV go_7)) (rP (rI .i64) (rP (rI .i64) r0))) ((), (ends_3, (lost_4, ()))), cvar gb_8 r_net_pair p_1, cmap go_7 (A r_net_pair) (S (rL (rL (rU UInt8)))) (some x_15)], []⟩ ?_
 replace hm := Option.some.inj hm
 subst hm
 refine JQ.pre (Imp.var (j := 0) (q := (rP (rW (MPV go_7)) (rP (rI .i64) (rP (rI .i64) r0)))) (y := ((), (ends_3, (lost_4, ())))) rfl Wk.refl) ?_
 exact JQ.done (js := [0, 1]) (ss := []) () (.inr rfl) (.nil rfl) rfl .nil rfl rfl rfl

end Go.Proofs.Ytnadeehdnmgebaa
