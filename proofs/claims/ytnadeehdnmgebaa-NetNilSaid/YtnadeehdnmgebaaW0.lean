/- Walks. -/
import Derived.Test.YtnadeehdnmgebaaT
namespace Go.Proofs.Ytnadeehdnmgebaa
open Go Fw
set_option linter.unusedVariables false
set_option maxRecDepth 100000
set_option maxHeartbeats 4000000

theorem sim_net_New_v0 (k : Nat) (ends_1 : Int) (r : Unit) (hm : net_New k ends_1 = some (.inl r)) : Sim Try.prog 11 [S (rI .i64) ends_1] [] (γ := Nat × Option Nat) (fun q => [cvar q.1 (rP (rW (MPV q.2)) (rP (rI .i64) (rP (rI .i64) r0))) ((), (ends_1, ((0 : Int), ()))), cmap q.2 (A r_net_pair) (S (rL (rL (rU UInt8)))) (some ([] : (List (net_pair × (List (List UInt8))))))]) (fun q => .tup [.val (PTR q.1 0), .val (S (rI .i64) (0 : Int))]) := by
 unfold net_New at hm
 refine Sim.of Try.func11 rfl rfl (Nat.le_of_ble_eq_true rfl) (fun e0 w0 => ?_)
 refine JC.at ⟨[(0, ov (S (rI .i64) ends_1))], [], []⟩ ?_
 refine JC.seq ?_
 refine JC.region ?_
 refine jc (op_assign lb (HasO.const (p := PTO none) fun _ => rfl)) ?_
 refine jc (op_assign lb .cI) ?_
 refine JL.nil ?_
 refine JQ.then ?_
 refine JC.seq ?_
 replace hm := bnd_inv hm
 obtain ⟨x_5, hx1, hq1⟩ := hm
 refine JC.seqJ (γ := Unit) (stj := fun q => ⟨[(0, ov (S (rI .i64) ends_1)), (9, ov (S rB x_5))], [], []⟩) (fun q => ?_) ?_
 · obtain _ := q
   refine JC.at ⟨[(0, ov (S (rI .i64) ends_1)), (9, ov (S rB x_5))], [], []⟩ ?_
   replace hq1 := iteB_inv hq1
   rcases hq1 with ⟨hc5, hq1⟩ | ⟨hc5, hq1⟩
   · refine JC.condT (.tmp rfl) hc5 ?_
     refine JC.seq ?_
     refine JC.region ?_
     refine jc (op_assign lb (HasO.const (p := PTO none) fun _ => rfl)) ?_
     refine jc (op_assign lb .cI) ?_
     refine JL.nil ?_
     refine JQ.then ?_
     refine JC.ret ?_
     refine JQ.outR ?_
     cases hq1
   · refine JC.condF (.tmp rfl) hc5 ?_
     refine JC.skip ?_
     refine JQ.then ?_
     refine JC.seq ?_
     refine JC.region ?_
     refine jx (op_makeMap lb (A r_net_pair) (S (rL (rL (rU UInt8))))) (fun q => ?_)
     obtain ⟨gb_6, hqq⟩ : ∃ z, z = q := ⟨_, rfl⟩
     subst hqq
     refine jc (op_move lb (.tmp rfl)) ?_
     refine jc (op_build lb tZ57 zr57 tp57 (.S (off := 0) (s := rW (MPV (some gb_6))) (u := ()) rfl (HasO.wk (q := S (rW (MPV (some gb_6))) ()) (.tmp rfl) wkV) rfl ((UpdR.fst (UpdR.self (by rfl))).at (by rfl)) (.S (off := 1) rfl (.tmp rfl) rfl ((UpdR.snd (UpdR.fst (UpdR.self (by rfl)))).at (by rfl)) .nil)) rfl) ?_
     refine jx (op_boxA lb (.tmp rfl)) (fun q => ?_)
     obtain ⟨gb_7, hqq⟩ : ∃ z, z = q := ⟨_, rfl⟩
     subst hqq
     refine jc (op_assign lb (.tmp rfl)) ?_
     refine jc (op_assign lb .cI) ?_
     refine JL.nil ?_
     refine JQ.then ?_
     refine JC.ret ?_
     exact JQ.done (js := [1, 0]) (ss := [.val (PTR gb_7 0), .val (S (rI .i64) (0 : Int))]) (gb_7, (some gb_6)) (.inl rfl) (.nil rfl) rfl (.cons (.tmp rfl) (.cons (.tmp rfl) .nil)) rfl rfl rfl
 · refine JC.region ?_
   refine jc (op_move lb (.tmp rfl)) ?_
   replace hx1 := lt1_inv hx1
   obtain ⟨v_2, hv_v_2, hx1⟩ := hx1
   refine jc (op_cmpI lb (.tmp rfl) .cI (congrArg some hv_v_2)) ?_
   refine jc (op_move lb (.tmp rfl)) ?_
   refine JL.cnd (sv := ov (S (rI .i64) ends_1)) (Guard.isF (ltB rfl) rfl rfl) rfl (ltB rfl) (fun hq_2 => op_move lb (.tmp rfl)) ?_
   replace hx1 := lt1_inv hx1
   obtain ⟨v_3, hv_v_3, hx1⟩ := hx1
   refine JL.cnd (sv := ov (S rB v_3)) (Guard.isF (ltB rfl) rfl rfl) rfl (ltB rfl) (fun hq_3 => op_cmpI lb (HasO.cnd (.tmp rfl) (notT (notF hq_3))) .cI (congrArg some hv_v_3)) ?_
   replace hx1 := lt1_inv hx1
   obtain ⟨v_4, hv_v_4, hx1⟩ := hx1
   refine jc (op_pickCS lb (.tmp rfl) (fun hb4 => .cB) (fun hb4 => (HasO.cnd (.tmp rfl) (notT hb4))) hv_v_4) ?_
   refine JL.nil ?_
   replace hx1 := Option.some.inj hx1
   first | subst hx1 | clear hx1
   exact JQ.join () (Imp.norm (js := []) rfl (.cons rfl (.cons rfl .nil)))

theorem sim_net_New_v1 (k : Nat) (ends_1 : Int) (r : Unit) (hm : net_New k ends_1 = some (.inr r)) : Sim Try.prog 11 [S (rI .i64) ends_1] [] (γ := Unit) (fun q => []) (fun q => .tup [.val (PTO none), .val (S (rI .i64) (2 : Int))]) := by
 unfold net_New at hm
 refine Sim.of Try.func11 rfl rfl (Nat.le_of_ble_eq_true rfl) (fun e0 w0 => ?_)
 refine JC.at ⟨[(0, ov (S (rI .i64) ends_1))], [], []⟩ ?_
 refine JC.seq ?_
 refine JC.region ?_
 refine jc (op_assign lb (HasO.const (p := PTO none) fun _ => rfl)) ?_
 refine jc (op_assign lb .cI) ?_
 refine JL.nil ?_
 refine JQ.then ?_
 refine JC.seq ?_
 replace hm := bnd_inv hm
 obtain ⟨x_5, hx1, hq1⟩ := hm
 refine JC.seqJ (γ := Unit) (stj := fun q => ⟨[(0, ov (S (rI .i64) ends_1)), (9, ov (S rB x_5))], [], []⟩) (fun q => ?_) ?_
 · obtain _ := q
   refine JC.at ⟨[(0, ov (S (rI .i64) ends_1)), (9, ov (S rB x_5))], [], []⟩ ?_
   replace hq1 := iteB_inv hq1
   rcases hq1 with ⟨hc5, hq1⟩ | ⟨hc5, hq1⟩
   · refine JC.condT (.tmp rfl) hc5 ?_
     refine JC.seq ?_
     refine JC.region ?_
     refine jc (op_assign lb (HasO.const (p := PTO none) fun _ => rfl)) ?_
     refine jc (op_assign lb .cI) ?_
     refine JL.nil ?_
     refine JQ.then ?_
     refine JC.ret ?_
     refine JQ.outR ?_
     exact JQ.done (js := []) (ss := [.val (PTO none), .val (S (rI .i64) (2 : Int))]) () (.inl rfl) (.nil rfl) rfl (.cons (.tmp rfl) (.cons (.tmp rfl) .nil)) rfl rfl rfl
   · refine JC.condF (.tmp rfl) hc5 ?_
     refine JC.skip ?_
     refine JQ.then ?_
     refine JC.seq ?_
     refine JC.region ?_
     refine jx (op_makeMap lb (A r_net_pair) (S (rL (rL (rU UInt8))))) (fun q => ?_)
     obtain ⟨gb_6, hqq⟩ : ∃ z, z = q := ⟨_, rfl⟩
     subst hqq
     refine jc (op_move lb (.tmp rfl)) ?_
     refine jc (op_build lb tZ57 zr57 tp57 (.S (off := 0) (s := rW (MPV (some gb_6))) (u := ()) rfl (HasO.wk (q := S (rW (MPV (some gb_6))) ()) (.tmp rfl) wkV) rfl ((UpdR.fst (UpdR.self (by rfl))).at (by rfl)) (.S (off := 1) rfl (.tmp rfl) rfl ((UpdR.snd (UpdR.fst (UpdR.self (by rfl)))).at (by rfl)) .nil)) rfl) ?_
     refine jx (op_boxA lb (.tmp rfl)) (fun q => ?_)
     obtain ⟨gb_7, hqq⟩ : ∃ z, z = q := ⟨_, rfl⟩
     subst hqq
     refine jc (op_assign lb (.tmp rfl)) ?_
     refine jc (op_assign lb .cI) ?_
     refine JL.nil ?_
     refine JQ.then ?_
     refine JC.ret ?_
     cases hq1
 · refine JC.region ?_
   refine jc (op_move lb (.tmp rfl)) ?_
   replace hx1 := lt1_inv hx1
   obtain ⟨v_2, hv_v_2, hx1⟩ := hx1
   refine jc (op_cmpI lb (.tmp rfl) .cI (congrArg some hv_v_2)) ?_
   refine jc (op_move lb (.tmp rfl)) ?_
   refine JL.cnd (sv := ov (S (rI .i64) ends_1)) (Guard.isF (ltB rfl) rfl rfl) rfl (ltB rfl) (fun hq_2 => op_move lb (.tmp rfl)) ?_
   replace hx1 := lt1_inv hx1
   obtain ⟨v_3, hv_v_3, hx1⟩ := hx1
   refine JL.cnd (sv := ov (S rB v_3)) (Guard.isF (ltB rfl) rfl rfl) rfl (ltB rfl) (fun hq_3 => op_cmpI lb (HasO.cnd (.tmp rfl) (notT (notF hq_3))) .cI (congrArg some hv_v_3)) ?_
   replace hx1 := lt1_inv hx1
   obtain ⟨v_4, hv_v_4, hx1⟩ := hx1
   refine jc (op_pickCS lb (.tmp rfl) (fun hb4 => .cB) (fun hb4 => (HasO.cnd (.tmp rfl) (notT hb4))) hv_v_4) ?_
   refine JL.nil ?_
   replace hx1 := Option.some.inj hx1
   first | subst hx1 | clear hx1
   exact JQ.join () (Imp.norm (js := []) rfl (.cons rfl (.cons rfl .nil)))

theorem sim_law12_num (k : Nat) (e_1 : Int) (r : Unit) (hm : law12_num k e_1 = some r) : Sim Try.prog 12 [S (rI .i64) e_1] [] (γ := Unit) (fun q => []) (fun q => .one (.val (S (rI .i64) e_1))) := by
 unfold law12_num at hm
 refine Sim.of Try.func12 rfl rfl (Nat.le_of_ble_eq_true rfl) (fun e0 w0 => ?_)
 refine JC.at ⟨[(0, ov (S (rI .i64) e_1))], [], []⟩ ?_
 refine JC.seq ?_
 refine JC.region ?_
 refine jc (op_assign lb .cI) ?_
 refine JL.nil ?_
 refine JQ.then ?_
 refine JC.seq ?_
 refine JC.region ?_
 refine jc (op_move lb (.tmp rfl)) ?_
 refine jc (op_assign lb (.tmp rfl)) ?_
 refine JL.nil ?_
 refine JQ.then ?_
 refine JC.ret ?_
 exact JQ.done (js := []) (ss := [.val (S (rI .i64) e_1)]) () (.inl rfl) (.nil rfl) rfl (.cons (.tmp rfl) .nil) rfl rfl rfl

theorem sim_net_Net_there (k : Nat) (ends_1 : Int) (lost_2 : Int) (x_4 : (List (net_pair × (List (List UInt8))))) (gb_3 : Nat) (go_5 : Option Nat) (r : Unit) (hm : net_Net_there k ends_1 lost_2 x_4 = some r) : Sim Try.prog 29 [PTR gb_3 0] [cvar gb_3 (rP (rW (MPV go_5)) (rP (rI .i64) (rP (rI .i64) r0))) ((), (ends_1, (lost_2, ()))), cmap go_5 (A r_net_pair) (S (rL (rL (rU UInt8)))) (some x_4)] (γ := Unit) (fun q => [cvar gb_3 (rP (rW (MPV go_5)) (rP (rI .i64) (rP (rI .i64) r0))) ((), (ends_1, (lost_2, ()))), cmap go_5 (A r_net_pair) (S (rL (rL (rU UInt8)))) (some x_4)]) (fun q => .one (.val (S rB true))) := by
 unfold net_Net_there at hm
 refine Sim.of Try.func29 rfl rfl (Nat.le_of_ble_eq_true rfl) (fun e0 w0 => ?_)
 refine JC.at ⟨[(0, ov (PTR gb_3 0))], [cvar gb_3 (rP (rW (MPV go_5)) (rP (rI .i64) (rP (rI .i64) r0))) ((), (ends_1, (lost_2, ()))), cmap go_5 (A r_net_pair) (S (rL (rL (rU UInt8)))) (some x_4)], []⟩ ?_
 refine JC.seq ?_
 refine JC.region ?_
 refine jc (op_assign lb .cB) ?_
 refine JL.nil ?_
 refine JQ.then ?_
 replace hm := bnd_inv hm
 obtain ⟨_, hx1, hq1⟩ := hm
 refine JC.seqJ (γ := Unit) (stj := fun q => ⟨[(2, ov (S rB true))], [cvar gb_3 (rP (rW (MPV go_5)) (rP (rI .i64) (rP (rI .i64) r0))) ((), (ends_1, (lost_2, ()))), cmap go_5 (A r_net_pair) (S (rL (rL (rU UInt8)))) (some x_4)], []⟩) (fun q => ?_) ?_
 · obtain _ := q
   refine JC.at ⟨[(2, ov (S rB true))], [cvar gb_3 (rP (rW (MPV go_5)) (rP (rI .i64) (rP (rI .i64) r0))) ((), (ends_1, (lost_2, ()))), cmap go_5 (A r_net_pair) (S (rL (rL (rU UInt8)))) (some x_4)], []⟩ ?_
   refine JC.ret ?_
   exact JQ.done (js := [0, 0]) (ss := [.val (S rB true)]) () (.inl rfl) (.nil rfl) rfl (.cons (.tmp rfl) .nil) rfl rfl rfl
 · refine JC.region ?_
   refine jc (op_move lb (.tmp rfl)) ?_
   refine jc (op_nilP (neg := true) lb tu25 (.tmp rfl) (HasO.const (p := PTO none) fun _ => rfl)) ?_
   refine jc (op_move lb (.tmp rfl)) ?_
   refine JL.run (.yes rfl (ltB rfl) rfl rfl) (op_move lb (.tmp rfl)) ?_
   refine JL.run (.yes rfl (ltB rfl) rfl rfl) (op_nilCheck lb (.tmp rfl) (fun e v h => by subst h; rfl)) ?_
   refine JL.run (.yes rfl (ltB rfl) rfl rfl) (op_fieldAddr (off := 0) lb tf57_0 (.tmp rfl)) ?_
   refine JL.run (.yes rfl (ltB rfl) rfl rfl) (op_loadW (j := 0) lb tS55 (.tmp rfl) rfl (Comp.trans (Comp.self (rP (rW (MPV go_5)) (rP (rI .i64) (rP (rI .i64) r0))) ((), (ends_1, (lost_2, ())))) (Comp.at' (Comp.inF (Comp.self (rW (MPV go_5)) ()) (Nat.le_of_ble_eq_true rfl)) (by rfl : _ = 0)) (Nat.le_of_ble_eq_true rfl))) ?_
   refine JL.run (.yes rfl (ltB rfl) rfl rfl) (op_nilMX (neg := true) (j := 1) lb tu55 rfl (.tmp rfl) (HasO.const (p := MPV none) fun _ => rfl) rfl) ?_
   refine jc (op_pickT lb (.tmp rfl) rfl (.tmp rfl)) ?_
   refine jc (op_assign lb (.tmp rfl)) ?_
   refine JL.nil ?_
   refine JQ.pre (Imp.var (j := 0) (q := (rP (rW (MPV go_5)) (rP (rI .i64) (rP (rI .i64) r0)))) (y := ((), (ends_1, (lost_2, ())))) rfl Wk.refl) ?_
   exact JQ.join () (Imp.norm (js := [0, 0]) rfl (.cons rfl .nil))

theorem sim_slices_Clonebyte_byte (k : Nat) (s_1 : (List UInt8)) (r : (List UInt8)) (hm : slices_Clonebyte_byte k s_1 = some r) : Sim Try.prog 40 [S (rL (rU UInt8)) s_1] [] (γ := Option Nat × Nat) (fun q => [cown q.1 (rU UInt8) r 0 q.2]) (fun q => .one (.val (HDR q.1 0 (List.length r) q.2))) := by
 unfold slices_Clonebyte_byte at hm
 refine Sim.of Try.func40 rfl rfl (Nat.le_of_ble_eq_true rfl) (fun e0 w0 => ?_)
 refine JC.at ⟨[(0, ov (S (rL (rU UInt8)) s_1))], [], []⟩ ?_
 refine JC.seq ?_
 refine JC.region ?_
 refine jc (op_assign lb HasO.nilH) ?_
 refine JL.nil ?_
 refine JQ.then ?_
 refine JC.seq ?_
 refine JC.seq ?_
 refine JC.region ?_
 refine jc (op_move lb (.tmp rfl)) ?_
 refine JL.consX rfl (op_isNil (neg := false) (ltB rfl) tu31 (.tmp rfl) HasO.nilH) (fun q => ?_)
 obtain ⟨hb1, hb1_⟩ := q
 cases hb1
 · refine JL.nil ?_
   refine JQ.then ?_
   refine JC.condF (.tmp rfl) rfl ?_
   refine JC.skip ?_
   refine JQ.then ?_
   refine JC.seq ?_
   refine JC.region ?_
   refine jx (op_buildO (r := (rU UInt8)) lb tu31 tz5 tZ5 rfl (Nat.le_of_ble_eq_true rfl) .nil rfl) (fun q => ?_)
   obtain ⟨gb_2, hqq⟩ : ∃ z, z = q := ⟨_, rfl⟩
   subst hqq
   refine jc (op_move lb (.tmp rfl)) ?_
   replace hm := bnd_inv hm
   obtain ⟨x_3, hv_x_3, hm⟩ := hm
   refine jx (op_appendL (j := 0) lb tu31 tu31 rfl tB5 rfl (Nat.lt_of_lt_of_le Nat.zero_lt_one (Nat.le_of_ble_eq_true rfl)) (Nat.lt_of_lt_of_le Nat.zero_lt_one (Nat.le_of_ble_eq_true rfl))  rfl (.tmp rfl) (.tmp rfl) hv_x_3) (fun q => ?_)
   obtain ⟨go_4, gc_5⟩ := q
   refine jc (op_assign lb (.tmp rfl)) ?_
   refine JL.nil ?_
   refine JQ.then ?_
   refine JC.ret ?_
   replace hm := Option.some.inj hm
   subst hm
   exact JQ.done (js := [0]) (ss := [.val (HDR go_4 0 (List.length x_3) gc_5)]) (go_4, gc_5) (.inl rfl) (.nil rfl) rfl (.cons (.tmp rfl) .nil) rfl rfl rfl
 · replace hm := nilK hm (show _ = (
         some ([] : (List UInt8))
         ) by simp [hb1_ rfl, subL, apL])
   refine JL.nil ?_
   refine JQ.then ?_
   refine JC.condT (.tmp rfl) rfl ?_
   refine JC.seq ?_
   refine JC.region ?_
   refine jc (op_assign lb HasO.nilH) ?_
   refine JL.nil ?_
   refine JQ.then ?_
   refine JC.ret ?_
   refine JQ.outR ?_
   replace hm := Option.some.inj hm
   subst hm
   refine JQ.pre (Imp.nilown (rU UInt8)) ?_
   exact JQ.done (js := [0]) (ss := [.val (HDR none 0 (List.length ([] : (List UInt8))) (0))]) (none, 0) (.inl rfl) (.nil rfl) rfl (.cons (.tmp rfl) .nil) rfl rfl rfl

theorem sim_net_Net_lay (k : Nat) (p_1 : net_pair) (b_2 : (List UInt8)) (ends_3 : Int) (lost_4 : Int) (x_6 : (List (net_pair × (List (List UInt8))))) (gb_5 : Nat) (go_7 : Option Nat) (r : (List (net_pair × (List (List UInt8))))) (hm : net_Net_lay k p_1 b_2 ends_3 lost_4 x_6 = some r) : Sim Try.prog 30 [PTR gb_5 0, A r_net_pair p_1, S (rL (rU UInt8)) b_2] [cvar gb_5 (rP (rW (MPV go_7)) (rP (rI .i64) (rP (rI .i64) r0))) ((), (ends_3, (lost_4, ()))), cmap go_7 (A r_net_pair) (S (rL (rL (rU UInt8)))) (some x_6)] (γ := Unit) (fun q => [cvar gb_5 (rP (rW (MPV go_7)) (rP (rI .i64) (rP (rI .i64) r0))) ((), (ends_3, (lost_4, ()))), cmap go_7 (A r_net_pair) (S (rL (rL (rU UInt8)))) (some r)]) (fun q => .tup []) := by
 unfold net_Net_lay at hm
 refine Sim.of Try.func30 rfl rfl (Nat.le_of_ble_eq_true rfl) (fun e0 w0 => ?_)
 refine JC.at ⟨[(0, ov (PTR gb_5 0)), (1, ov (A r_net_pair p_1)), (2, ov (S (rL (rU UInt8)) b_2))], [cvar gb_5 (rP (rW (MPV go_7)) (rP (rI .i64) (rP (rI .i64) r0))) ((), (ends_3, (lost_4, ()))), cmap go_7 (A r_net_pair) (S (rL (rL (rU UInt8)))) (some x_6)], []⟩ ?_
 refine JC.seq ?_
 refine JC.region ?_
 refine jx (op_boxA lb (.tmp rfl)) (fun q => ?_)
 obtain ⟨gb_8, hqq⟩ : ∃ z, z = q := ⟨_, rfl⟩
 subst hqq
 refine JL.nil ?_
 refine JQ.then ?_
 refine JC.seq ?_
 replace hm := lt1_inv hm
 obtain ⟨v_9, hv_v_9, hm⟩ := hm
 refine JC.anyE (kl := []) (kk := 0) (base := [(0, ov (PTR gb_5 0)), (2, ov (S (rL (rU UInt8)) b_2)), (4, ov (PTR gb_8 0))])
     (fs := fun γ => [⟨some 7, ov (PTR gb_5 0)⟩, ⟨some 8, ov (PTR gb_5 0)⟩, ⟨some 9, ov (PTR gb_5 (0 + 0))⟩, ⟨some 10, ov (MPV go_7)⟩, ⟨some 11, ov (A r_net_pair p_1)⟩, ⟨some 12, ov (S (rL (rL (rU UInt8))) v_9)⟩, ⟨some 6, ov (S (rL (rL (rU UInt8))) v_9)⟩])
     (rs := fun γ => [⟨cvar gb_5 (rP (rW (MPV go_7)) (rP (rI .i64) (rP (rI .i64) r0))) ((), (ends_3, (lost_4, ()))), none, none, [3]⟩, ⟨cmap go_7 (A r_net_pair) (S (rL (rL (rU UInt8)))) (some x_6), none, none, [5]⟩, ⟨cvar gb_8 r_net_pair p_1, none, none, [4]⟩])
     (ds := [7, 8, 9, 10, 11, 12, 6]) (bs := [0, 2, 4]) (afts := [[], [], [], [], [], [], []]) (js := [0, 0, 0]) mixed (.cons rfl (.cons rfl (.cons rfl .nil))) (fun _ => rfl)
     (by
      refine dS 1 (fun γ ρ B hb hd => op_move lb (.tmp (hb 0 _ rfl))) ?_
      refine dS 2 (fun γ ρ B hb hd => op_nilCheck lb (.tmp (hl hd 0 7 rfl)) (fun e v h => by subst h; rfl)) ?_
      refine dS 3 (fun γ ρ B hb hd => op_fieldAddr (off := 0) lb tf57_0 (.tmp (hl hd 1 8 rfl))) ?_
      refine DSteps.cons (j := 4) rfl (fun _ => rfl) (.run (fun γ ρ B hb hd => ⟨.none, OpStep.at ⟨ρ, (cvar gb_5 (rP (rW (MPV go_7)) (rP (rI .i64) (rP (rI .i64) r0))) ((), (ends_3, (lost_4, ())))) :: B, _⟩ (setO ⟨ρ, (cvar gb_5 (rP (rW (MPV go_7)) (rP (rI .i64) (rP (rI .i64) r0))) ((), (ends_3, (lost_4, ())))) :: B, _⟩ _ _) (op_loadW (j := 0) lb tS55 (.tmp (hl hd 2 9 rfl)) rfl (Comp.trans (Comp.self (rP (rW (MPV go_7)) (rP (rI .i64) (rP (rI .i64) r0))) ((), (ends_3, (lost_4, ())))) (Comp.at' (Comp.inF (Comp.self (rW (MPV go_7)) ()) (Nat.le_of_ble_eq_true rfl)) (by rfl : _ = 0)) (Nat.le_of_ble_eq_true rfl)))⟩)) ?_
      refine DSteps.cons (j := 5) rfl (fun _ => rfl) (.run (fun γ ρ B hb hd => ⟨.none, OpStep.at ⟨ρ, (cvar gb_8 r_net_pair p_1) :: B, _⟩ (setO ⟨ρ, (cvar gb_8 r_net_pair p_1) :: B, _⟩ _ _) (op_loadA (j := 0) lb tA60 (.tmp (hb 4 _ rfl)) rfl (Comp.self r_net_pair p_1) rfl)⟩)) ?_
      refine DSteps.cons (j := 6) rfl (fun _ => rfl) (.run (fun γ ρ B hb hd => ⟨.none, OpStep.at ⟨ρ, (cmap go_7 (A r_net_pair) (S (rL (rL (rU UInt8)))) (some x_6)) :: B, _⟩ (setO ⟨ρ, (cmap go_7 (A r_net_pair) (S (rL (rL (rU UInt8)))) (some x_6)) :: B, _⟩ _ _) (op_lookup (z0 := ([] : (List (List UInt8)))) (j := 0) lb tu55 ky60 tZ58 (fun e => zv58 e) rfl (.tmp (hl hd 3 10 rfl)) (.tmp (hl hd 4 11 rfl)) hv_v_9)⟩)) ?_
      refine dS 7 (fun γ ρ B hb hd => op_assign lb (.tmp (hl hd 5 12 rfl))) ?_
      exact DSteps.nil)
     (by decide +kernel) (fun _ => rfl) rfl (fun _ => rfl) (fun _ => rfl) rfl (by decide) (by decide) (by decide +kernel) (fun _ d h => by cases h)
     (ρ' := fun γ => [(0, ov (PTR gb_5 0)), (2, ov (S (rL (rU UInt8)) b_2)), (4, ov (PTR gb_8 0)), (6, ov (S (rL (rL (rU UInt8))) v_9))])
     (X' := fun γ => [cvar gb_5 (rP (rW (MPV go_7)) (rP (rI .i64) (rP (rI .i64) r0))) ((), (ends_3, (lost_4, ()))), cmap go_7 (A r_net_pair) (S (rL (rL (rU UInt8)))) (some x_6), cvar gb_8 r_net_pair p_1])
     (fun γ ρ hb hd => (.cons (hb 0 _ rfl (by decide)) (.cons (hb 2 _ rfl (by decide)) (.cons (hb 4 _ rfl (by decide)) (.cons (hdq hd 6 6 rfl) .nil))))) (fun _ => rfl) (fun γ => ?_)
 refine JQ.at ⟨[(0, ov (PTR gb_5 0)), (2, ov (S (rL (rU UInt8)) b_2)), (4, ov (PTR gb_8 0)), (6, ov (S (rL (rL (rU UInt8))) v_9))], [cvar gb_5 (rP (rW (MPV go_7)) (rP (rI .i64) (rP (rI .i64) r0))) ((), (ends_3, (lost_4, ()))), cmap go_7 (A r_net_pair) (S (rL (rL (rU UInt8)))) (some x_6), cvar gb_8 r_net_pair p_1], []⟩ ?_
 refine JQ.then ?_
 replace hm := bnd_inv hm
 obtain ⟨v_10, hv_v_10, hm⟩ := hm
 replace hm := bnd_inv hm
 obtain ⟨v_11, hv_v_11, hm⟩ := hm
 replace hm := bnd_inv hm
 obtain ⟨v_14, hv_v_14, hm⟩ := hm
 replace hm := lt1_inv hm
 obtain ⟨x_15, hv_x_15, hm⟩ := hm
 refine JC.anyE (kl := []) (kk := 0) (base := [(0, ov (PTR gb_5 0)), (2, ov (S (rL (rU UInt8)) b_2)), (4, ov (PTR gb_8 0)), (6, ov (S (rL (rL (rU UInt8))) v_9))])
     (fs := fun γ => [⟨some 13, ov (PTR gb_5 0)⟩, ⟨some 14, ov (PTR gb_5 0)⟩, ⟨some 15, ov (PTR gb_5 (0 + 0))⟩, ⟨some 16, ov (MPV go_7)⟩, ⟨some 17, ov (A r_net_pair p_1)⟩, ⟨some 18, ov (S (rL (rL (rU UInt8))) v_9)⟩, ⟨some 19, ov (S (rL (rL (rU UInt8))) v_9)⟩, ⟨some 20, ov (S (rI .i64) (List.length v_9 : Int))⟩, ⟨some 21, ov (S (rL (rL (rU UInt8))) v_9)⟩, ⟨some 22, ov (S (rI .i64) (List.length v_9 : Int))⟩, ⟨some 23, ov (S (rLc (rL (rU UInt8))) v_10)⟩, ⟨some 24, ov (S (rL (rU UInt8)) b_2)⟩, ⟨some 25, ov (S (rL (rU UInt8)) v_11)⟩, ⟨some 26, ov (S (rL (rL (rU UInt8))) ([v_11] : (List (List UInt8))))⟩, ⟨some 27, ov (S (rL (rL (rU UInt8))) v_14)⟩, ⟨none, .one .any⟩])
     (rs := fun γ => [⟨cvar gb_5 (rP (rW (MPV go_7)) (rP (rI .i64) (rP (rI .i64) r0))) ((), (ends_3, (lost_4, ()))), none, none, [3]⟩, ⟨cmap go_7 (A r_net_pair) (S (rL (rL (rU UInt8)))) (some x_6), none, (some 15), []⟩, ⟨cvar gb_8 r_net_pair p_1, none, none, [4]⟩, ⟨cmap go_7 (A r_net_pair) (S (rL (rL (rU UInt8)))) (some x_15), (some 15), none, []⟩])
     (ds := [13, 14, 15, 16, 17, 18, 19, 20, 21, 22, 23, 24, 25, 26, 27]) (bs := [0, 2, 4, 6]) (afts := [[], [], [], [], [], [], [], [], [], [], [], [], [], [], [], []]) (js := [0, 0, 0]) mixed (.cons rfl (.cons rfl (.cons rfl (.cons rfl .nil)))) (fun _ => rfl)
     (by
      refine dS 1 (fun γ ρ B hb hd => op_move lb (.tmp (hb 0 _ rfl))) ?_
      refine dS 2 (fun γ ρ B hb hd => op_nilCheck lb (.tmp (hl hd 0 13 rfl)) (fun e v h => by subst h; rfl)) ?_
      refine dS 3 (fun γ ρ B hb hd => op_fieldAddr (off := 0) lb tf57_0 (.tmp (hl hd 1 14 rfl))) ?_
      refine DSteps.cons (j := 4) rfl (fun _ => rfl) (.run (fun γ ρ B hb hd => ⟨.none, OpStep.at ⟨ρ, (cvar gb_5 (rP (rW (MPV go_7)) (rP (rI .i64) (rP (rI .i64) r0))) ((), (ends_3, (lost_4, ())))) :: B, _⟩ (setO ⟨ρ, (cvar gb_5 (rP (rW (MPV go_7)) (rP (rI .i64) (rP (rI .i64) r0))) ((), (ends_3, (lost_4, ())))) :: B, _⟩ _ _) (op_loadW (j := 0) lb tS55 (.tmp (hl hd 2 15 rfl)) rfl (Comp.trans (Comp.self (rP (rW (MPV go_7)) (rP (rI .i64) (rP (rI .i64) r0))) ((), (ends_3, (lost_4, ())))) (Comp.at' (Comp.inF (Comp.self (rW (MPV go_7)) ()) (Nat.le_of_ble_eq_true rfl)) (by rfl : _ = 0)) (Nat.le_of_ble_eq_true rfl)))⟩)) ?_
      refine DSteps.cons (j := 5) rfl (fun _ => rfl) (.run (fun γ ρ B hb hd => ⟨.none, OpStep.at ⟨ρ, (cvar gb_8 r_net_pair p_1) :: B, _⟩ (setO ⟨ρ, (cvar gb_8 r_net_pair p_1) :: B, _⟩ _ _) (op_loadA (j := 0) lb tA60 (.tmp (hb 4 _ rfl)) rfl (Comp.self r_net_pair p_1) rfl)⟩)) ?_
      refine dS 6 (fun γ ρ B hb hd => op_move lb (.tmp (hb 6 _ rfl))) ?_
      refine dS 7 (fun γ ρ B hb hd => op_move lb (.tmp (hb 6 _ rfl))) ?_
      refine dS 8 (fun γ ρ B hb hd => op_lenL lb tu58 (.tmp (hl hd 6 19 rfl))) ?_
      refine dS 9 (fun γ ρ B hb hd => op_move lb (.tmp (hb 6 _ rfl))) ?_
      refine dS 10 (fun γ ρ B hb hd => op_lenL lb tu58 (.tmp (hl hd 8 21 rfl))) ?_
      refine dS 11 (fun γ ρ B hb hd => op_sliceLcg lb tu58 tz31 (.tmp (hl hd 5 18 rfl)) .none (.some (.tmp (hl hd 7 20 rfl))) (.some (.tmp (hl hd 9 22 rfl))) hv_v_10) ?_
      refine dS 12 (fun γ ρ B hb hd => op_move lb (.tmp (hb 2 _ rfl))) ?_
      refine dS 13 (fun γ ρ B hb hd => (op_call (js := []) ld cl40 (sim_slices_Clonebyte_byte k b_2 v_11 hv_v_11) .func (.cons (.tmp (hl hd 11 24 rfl)) .nil) rfl).post (fun q => Imp.dropF (j := 0) rfl)) ?_
      refine dS 14 (fun γ ρ B hb hd => op_buildF (r := (rL (rU UInt8))) lb tu58 tz31 tZ31 rfl (Nat.le_of_ble_eq_true rfl) (.S rfl (.tmp (hl hd 12 25 rfl)) .nil) rfl) ?_
      refine dS 15 (fun γ ρ B hb hd => op_appendCL lb tu58 tu58 rfl tB31 rfl (Nat.lt_of_lt_of_le Nat.zero_lt_one (Nat.le_of_ble_eq_true rfl)) (.tmp (hl hd 10 23 rfl)) (.tmp (hl hd 13 26 rfl)) hv_v_14) ?_
      refine DSteps.cons (j := 16) rfl (fun _ => rfl) (.run (fun γ ρ B hb hd => ⟨.none, OpStep.at ⟨ρ, (cmap go_7 (A r_net_pair) (S (rL (rL (rU UInt8)))) (some x_6)) :: B, _⟩ (setO ⟨ρ, (cmap go_7 (A r_net_pair) (S (rL (rL (rU UInt8)))) (some x_15)) :: B, _⟩ _ _) (op_mapUpdate (j := 0) tu55 ky60 rfl (.tmp (hl hd 3 16 rfl)) (.tmp (hl hd 4 17 rfl)) (.tmp (hl hd 14 27 rfl)) (congrArg (fun z => some (some z)) hv_x_15))⟩)) ?_
      exact DSteps.nil)
     (by decide +kernel) (fun _ => rfl) rfl (fun _ => rfl) (fun _ => rfl) rfl (by decide) (by decide) (by decide +kernel) (fun _ d h => by cases h)
     (ρ' := fun γ => [])
     (X' := fun γ => [cvar gb_5 (rP (rW (MPV go_7)) (rP (rI .i64) (rP (rI .i64) r0))) ((), (ends_3, (lost_4, ()))), cvar gb_8 r_net_pair p_1, cmap go_7 (A r_net_pair) (S (rL (rL (rU UInt8)))) (some x_15)])
     (fun γ ρ hb hd => .nil) (fun _ => rfl) (fun γ => ?_)
 refine JQ.at ⟨[], [cvar gb_5 (rP (rW (MPV go_7)) (rP (rI .i64) (rP (rI .i64) r0))) ((), (ends_3, (lost_4, ()))), cvar gb_8 r_net_pair p_1, cmap go_7 (A r_net_pair) (S (rL (rL (rU UInt8)))) (some x_15)], []⟩ ?_
 replace hm := Option.some.inj hm
 subst hm
 refine JQ.pre (Imp.var (j := 0) (q := (rP (rW (MPV go_7)) (rP (rI .i64) (rP (rI .i64) r0)))) (y := ((), (ends_3, (lost_4, ())))) rfl Wk.refl) ?_
 exact JQ.done (js := [0, 1]) (ss := []) () (.inr rfl) (.nil rfl) rfl .nil rfl rfl rfl

end Go.Proofs.Ytnadeehdnmgebaa
