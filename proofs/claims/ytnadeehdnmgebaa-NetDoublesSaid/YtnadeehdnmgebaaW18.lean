/- Walks. -/
import Derived.Test.YtnadeehdnmgebaaT
import Derived.Test.YtnadeehdnmgebaaW0
import Derived.Test.YtnadeehdnmgebaaW14
import Derived.Test.YtnadeehdnmgebaaW17
import Derived.Test.YtnadeehdnmgebaaW2
import Derived.Test.YtnadeehdnmgebaaW3
import Derived.Test.YtnadeehdnmgebaaW4
import Derived.Test.YtnadeehdnmgebaaW5
import Derived.Test.YtnadeehdnmgebaaW6
namespace Go.Proofs.Ytnadeehdnmgebaa
open Go Fw
set_option linter.unusedVariables false
set_option maxRecDepth 100000
set_option maxHeartbeats 4000000

theorem sim_law12_NetDoubles (k : Nat) (t_1 : (List law12_Act)) (a_2 : Int) (r : Bool) (hm : law12_NetDoubles k t_1 a_2 = some r) : Sim Try.prog 6 [S (rL r_law12_Act) t_1, S (rI .i64) a_2] [] (γ := Unit) (fun q => []) (fun q => .one (.val (S rB r))) := by
 unfold law12_NetDoubles at hm
 refine Sim.of Try.func6 rfl rfl (Nat.le_of_ble_eq_true rfl) (fun e0 w0 => ?_)
 refine JC.at ⟨[(0, ov (S (rL r_law12_Act) t_1)), (1, ov (S (rI .i64) a_2))], [], []⟩ ?_
 refine JC.seq ?_
 refine JC.region ?_
 refine jc (op_assign lb .cB) ?_
 refine JL.nil ?_
 refine JQ.then ?_
 refine JC.seq ?_
 refine JC.seq ?_
 refine JC.region ?_
 refine jc (op_move lb (.tmp rfl)) ?_
 replace hm := bnd_inv hm
 obtain ⟨v_3, hv_v_3, hm⟩ := hm
 refine jx (op_call (js := []) ld cl10 (sim_law12_much k t_1 v_3 hv_v_3) .func (.cons (.tmp rfl) .nil) rfl) (fun _ => ?_)
 refine JL.nil ?_
 refine JQ.then ?_
 replace hm := iteB_inv hm
 rcases hm with ⟨hc1, hm⟩ | ⟨hc1, hm⟩
 · refine JC.condT (.tmp rfl) hc1 ?_
   refine JC.seq ?_
   refine JC.region ?_
   replace hm := bnd_inv hm
   obtain ⟨v_4, hv_v_4, hm⟩ := hm
   refine jx (op_call (js := []) ld cl9 (sim_law12_known'2 k v_4 hv_v_4) .func .nil rfl) (fun _ => ?_)
   refine jc (op_assign lb (.tmp rfl)) ?_
   refine JL.nil ?_
   refine JQ.then ?_
   refine JC.ret ?_
   refine JQ.outR ?_
   replace hm := Option.some.inj hm
   subst hm
   exact JQ.done (js := []) (ss := [.val (S rB v_4)]) () (.inl rfl) (.nil rfl) rfl (.cons (.tmp rfl) .nil) rfl rfl rfl
 · refine JC.condF (.tmp rfl) hc1 ?_
   refine JC.skip ?_
   refine JQ.then ?_
   refine JC.seq ?_
   refine JC.region ?_
   replace hm := bnd_inv hm
   obtain ⟨ts2, hs2, hm⟩ := hm
   rcases ts2 with ts2 | ts2
   · obtain _ := ts2
     dsimp only at hm
     refine jx (op_call (js := []) ld cl11 (sim_net_New_v0 k (4 : Int) () hs2) .func (.cons .cI .nil) rfl) (fun q => ?_)
     obtain ⟨gb_5, go_6⟩ := q
     refine jc (op_move lb (.tmp rfl)) ?_
     refine jc (op_extract (i := 0) lb (.tmp rfl) rfl) ?_
     refine jc (op_extract (i := 1) lb (.tmp rfl) rfl) ?_
     refine jc (op_assign lb (.tmp rfl)) ?_
     refine jc (op_assign lb (.tmp rfl)) ?_
     refine JL.nil ?_
     refine JQ.then ?_
     refine JC.seq ?_
     refine JC.region ?_
     refine jc (op_build lb tZ43 zr43 tp43 (.S (off := 1) rfl .cI rfl ((UpdR.snd (UpdR.fst (UpdR.self (by rfl)))).at (by rfl)) .nil) rfl) ?_
     refine JL.sub ⟨[(0, ov (S (rL r_law12_Act) t_1)), (1, ov (S (rI .i64) a_2)), (5, ov (PTR gb_5 0)), (6, ov (S (rI .i64) (0 : Int))), (24, ov (A (rP (rW (HDR none 0 0 0)) (rP (rI .i64) (rP (rI .i64) r0))) ((), ((4 : Int), ((0 : Int), ())))))], [cvar gb_5 (rP (rW (MPV go_6)) (rP (rI .i64) (rP (rI .i64) r0))) ((), ((4 : Int), ((0 : Int), ()))), cmap go_6 (A r_net_pair) (S (rL (rL (rU UInt8)))) (some ([] : (List (net_pair × (List (List UInt8))))))], []⟩ (.cons rfl (.cons rfl (.cons rfl (.cons rfl (.cons rfl .nil))))) rfl rfl ?_
     refine jx (op_boxA lb (.tmp rfl)) (fun q => ?_)
     obtain ⟨gb_7, hqq⟩ : ∃ z, z = q := ⟨_, rfl⟩
     subst hqq
     refine jc (op_assign lb (.tmp rfl)) ?_
     refine JL.nil ?_
     refine JQ.then ?_
     refine JC.seq ?_
     replace hm := bnd_inv hm
     obtain ⟨_, hx3, hq3⟩ := hm
     refine JC.seqJ (γ := Unit) (stj := fun q => ⟨[(0, ov (S (rL r_law12_Act) t_1)), (1, ov (S (rI .i64) a_2)), (5, ov (PTR gb_5 0)), (7, ov (PTR gb_7 0)), (32, ov (S rB false))], [cvar gb_5 (rP (rW (MPV go_6)) (rP (rI .i64) (rP (rI .i64) r0))) ((), ((4 : Int), ((0 : Int), ()))), cmap go_6 (A r_net_pair) (S (rL (rL (rU UInt8)))) (some ([] : (List (net_pair × (List (List UInt8)))))), cvar gb_7 (rP (rW (HDR none 0 0 0)) (rP (rI .i64) (rP (rI .i64) r0))) ((), ((4 : Int), ((0 : Int), ())))], []⟩) (fun q => ?_) ?_
     · obtain _ := q
       refine JC.at ⟨[(0, ov (S (rL r_law12_Act) t_1)), (1, ov (S (rI .i64) a_2)), (5, ov (PTR gb_5 0)), (7, ov (PTR gb_7 0)), (32, ov (S rB false))], [cvar gb_5 (rP (rW (MPV go_6)) (rP (rI .i64) (rP (rI .i64) r0))) ((), ((4 : Int), ((0 : Int), ()))), cmap go_6 (A r_net_pair) (S (rL (rL (rU UInt8)))) (some ([] : (List (net_pair × (List (List UInt8)))))), cvar gb_7 (rP (rW (HDR none 0 0 0)) (rP (rI .i64) (rP (rI .i64) r0))) ((), ((4 : Int), ((0 : Int), ())))], []⟩ ?_
       refine JC.condF (.tmp rfl) rfl ?_
       refine JC.skip ?_
       refine JQ.then ?_
       replace hq3 := bnd_inv hq3
       obtain ⟨tv4, hx4, hq4⟩ := hq3
       refine JC.seqK (α := (List (net_pair × (List (List UInt8)))) × Int × (List api_Flight) × Int) (γ := Option Nat × Nat) (stj := fun v q => ⟨[(1, ov (S (rI .i64) a_2)), (5, ov (PTR gb_5 0)), (7, ov (PTR gb_7 0))], [cvar gb_5 (rP (rW (MPV go_6)) (rP (rI .i64) (rP (rI .i64) r0))) ((), ((4 : Int), (v.2.1, ()))), cmap go_6 (A r_net_pair) (S (rL (rL (rU UInt8)))) (some v.1), cvar gb_7 (rP (rW (HDR q.1 0 (List.length v.2.2.1) q.2)) (rP (rI .i64) (rP (rI .i64) r0))) ((), ((4 : Int), (v.2.2.2, ()))), cown q.1 r_api_Flight v.2.2.1 0 q.2], []⟩) (p := fun v => tv4 = (.inl v)) (fun v q hv => ?_) ?_
       · subst hv
         obtain ⟨x_33, lost_34, L_35, Lost_36⟩ := v
         obtain ⟨go_37, gc_38⟩ := q
         dsimp only at hq4
         refine JC.at ⟨[(1, ov (S (rI .i64) a_2)), (5, ov (PTR gb_5 0)), (7, ov (PTR gb_7 0))], [cvar gb_5 (rP (rW (MPV go_6)) (rP (rI .i64) (rP (rI .i64) r0))) ((), ((4 : Int), (lost_34, ()))), cmap go_6 (A r_net_pair) (S (rL (rL (rU UInt8)))) (some x_33), cvar gb_7 (rP (rW (HDR go_37 0 (List.length L_35) gc_38)) (rP (rI .i64) (rP (rI .i64) r0))) ((), ((4 : Int), (Lost_36, ()))), cown go_37 r_api_Flight L_35 0 gc_38], []⟩ ?_
         refine JC.seq ?_
         refine JC.region ?_
         refine jc (op_move lb (.tmp rfl)) ?_
         refine jc (op_move lb (.tmp rfl)) ?_
         replace hq4 := bnd_inv hq4
         obtain ⟨⟨v_39, v_40⟩, hv_v_39, hq4⟩ := hq4
         refine jx (op_call (js := [0, 0]) ld cl14 (sim_net_Net_At k a_2 (4 : Int) lost_34 x_33 gb_5 go_6 (v_39, v_40) hv_v_39) .func (.cons (.tmp rfl) (.cons (.tmp rfl) .nil)) rfl) (fun _ => ?_)
         refine jc (op_move lb (.tmp rfl)) ?_
         refine jc (op_extract (i := 0) lb (.tmp rfl) rfl) ?_
         refine jc (op_extract (i := 1) lb (.tmp rfl) rfl) ?_
         refine jx (op_alloc lb tZ36 zr36) (fun q => ?_)
         obtain ⟨gb_41, hqq⟩ : ∃ z, z = q := ⟨_, rfl⟩
         subst hqq
         refine jc (op_storeA (j := 4) tA36 (.tmp rfl) (.tmp rfl) rfl (UpdR.self (by rfl)) rfl) ?_
         refine JL.sub ⟨[(1, ov (S (rI .i64) a_2)), (5, ov (PTR gb_5 0)), (7, ov (PTR gb_7 0)), (9, ov (PTR gb_41 0)), (52, ov (S (rI .i64) v_40))], [cvar gb_5 (rP (rW (MPV go_6)) (rP (rI .i64) (rP (rI .i64) r0))) ((), ((4 : Int), (lost_34, ()))), cmap go_6 (A r_net_pair) (S (rL (rL (rU UInt8)))) (some x_33), cvar gb_7 (rP (rW (HDR go_37 0 (List.length L_35) gc_38)) (rP (rI .i64) (rP (rI .i64) r0))) ((), ((4 : Int), (Lost_36, ()))), cown go_37 r_api_Flight L_35 0 gc_38, cvar gb_41 r_api_Flight v_39], []⟩ (.cons rfl (.cons rfl (.cons rfl (.cons rfl (.cons rfl .nil))))) rfl rfl ?_
         refine jc (op_assign lb (.tmp rfl)) ?_
         refine JL.nil ?_
         refine JQ.then ?_
         refine JC.seq ?_
         refine JC.region ?_
         refine jc (op_move lb (.tmp rfl)) ?_
         refine jc (op_fieldAddr (off := 0) lb tf36_0 (.tmp rfl)) ?_
         refine jc (op_loadS (j := 4) lb tS3 (.tmp rfl) rfl (Comp.trans (Comp.self r_api_Flight v_39) (comp_api_Flight_From v_39) (Nat.le_of_ble_eq_true rfl)) rfl rfl) ?_
         refine jc (op_fieldAddr (off := 1) lb tf36_1 (.tmp rfl)) ?_
         refine jc (op_loadS (j := 4) lb tS3 (.tmp rfl) rfl (Comp.trans (Comp.self r_api_Flight v_39) (comp_api_Flight_To v_39) (Nat.le_of_ble_eq_true rfl)) rfl rfl) ?_
         replace hq4 := bnd_inv hq4
         obtain ⟨v_42, hv_v_42, hq4⟩ := hq4
         refine jx (op_call (js := [0, 0]) ld cl19 (sim_net_Net_Line k v_39.From v_39.To (4 : Int) lost_34 x_33 gb_5 go_6 v_42 hv_v_42) .func (.cons (.tmp rfl) (.cons (.tmp rfl) (.cons (.tmp rfl) .nil))) rfl) (fun _ => ?_)
         refine jc (op_assign lb (.tmp rfl)) ?_
         refine JL.nil ?_
         refine JQ.then ?_
         refine JC.seq ?_
         refine JC.region ?_
         refine jc (op_move lb (.tmp rfl)) ?_
         refine jc (op_move lb (.tmp rfl)) ?_
         replace hq4 := bnd_inv hq4
         obtain ⟨⟨v_43, x_44⟩, hv_v_43, hq4⟩ := hq4
         refine jx (op_call (js := [0, 0]) ld cl21 (sim_net_Net_Double k a_2 (4 : Int) lost_34 x_33 gb_5 go_6 (v_43, x_44) hv_v_43) .func (.cons (.tmp rfl) (.cons (.tmp rfl) .nil)) rfl) (fun _ => ?_)
         refine JL.sub ⟨[(5, ov (PTR gb_5 0)), (7, ov (PTR gb_7 0)), (9, ov (PTR gb_41 0)), (10, ov (S (rI .i64) v_40)), (11, ov (S (rI .i64) v_42)), (61, ov (S (rI .i64) v_43))], [cvar gb_5 (rP (rW (MPV go_6)) (rP (rI .i64) (rP (rI .i64) r0))) ((), ((4 : Int), (lost_34, ()))), cmap go_6 (A r_net_pair) (S (rL (rL (rU UInt8)))) (some (x_44)), cvar gb_7 (rP (rW (HDR go_37 0 (List.length L_35) gc_38)) (rP (rI .i64) (rP (rI .i64) r0))) ((), ((4 : Int), (Lost_36, ()))), cown go_37 r_api_Flight L_35 0 gc_38, cvar gb_41 r_api_Flight v_39], []⟩ (.cons rfl (.cons rfl (.cons rfl (.cons rfl (.cons rfl (.cons rfl .nil)))))) rfl rfl ?_
         refine jc (op_assign lb (.tmp rfl)) ?_
         refine JL.nil ?_
         refine JQ.then ?_
         refine JC.seq ?_
         replace hq4 := bnd_inv hq4
         obtain ⟨x_50, hx8, hq8⟩ := hq4
         refine JC.seqJ (γ := Unit) (stj := fun q => ⟨[(5, ov (PTR gb_5 0)), (7, ov (PTR gb_7 0)), (9, ov (PTR gb_41 0)), (10, ov (S (rI .i64) v_40)), (11, ov (S (rI .i64) v_42)), (12, ov (S (rI .i64) v_43)), (69, ov (S rB x_50))], [cvar gb_5 (rP (rW (MPV go_6)) (rP (rI .i64) (rP (rI .i64) r0))) ((), ((4 : Int), (lost_34, ()))), cmap go_6 (A r_net_pair) (S (rL (rL (rU UInt8)))) (some (x_44)), cvar gb_7 (rP (rW (HDR go_37 0 (List.length L_35) gc_38)) (rP (rI .i64) (rP (rI .i64) r0))) ((), ((4 : Int), (Lost_36, ()))), cown go_37 r_api_Flight L_35 0 gc_38, cvar gb_41 r_api_Flight v_39], []⟩) (fun q => ?_) ?_
         · obtain _ := q
           refine JC.at ⟨[(5, ov (PTR gb_5 0)), (7, ov (PTR gb_7 0)), (9, ov (PTR gb_41 0)), (10, ov (S (rI .i64) v_40)), (11, ov (S (rI .i64) v_42)), (12, ov (S (rI .i64) v_43)), (69, ov (S rB x_50))], [cvar gb_5 (rP (rW (MPV go_6)) (rP (rI .i64) (rP (rI .i64) r0))) ((), ((4 : Int), (lost_34, ()))), cmap go_6 (A r_net_pair) (S (rL (rL (rU UInt8)))) (some (x_44)), cvar gb_7 (rP (rW (HDR go_37 0 (List.length L_35) gc_38)) (rP (rI .i64) (rP (rI .i64) r0))) ((), ((4 : Int), (Lost_36, ()))), cown go_37 r_api_Flight L_35 0 gc_38, cvar gb_41 r_api_Flight v_39], []⟩ ?_
           replace hq8 := iteB_inv hq8
           rcases hq8 with ⟨hc13, hq8⟩ | ⟨hc13, hq8⟩
           · refine JC.condT (.tmp rfl) hc13 ?_
             replace hq8 := bnd_inv hq8
             obtain ⟨x_65, hx14, hq14⟩ := hq8
             refine JC.seqJ (γ := Unit) (stj := fun q => ⟨[(4, ov (S rB x_65))], [], []⟩) (fun q => ?_) ?_
             · obtain _ := q
               refine JC.at ⟨[(4, ov (S rB x_65))], [], []⟩ ?_
               refine JC.ret ?_
               refine JQ.outR ?_
               replace hq14 := Option.some.inj hq14
               subst hq14
               exact JQ.done (js := []) (ss := [.val (S rB x_65)]) () (.inl rfl) (.nil rfl) rfl (.cons (.tmp rfl) .nil) rfl rfl rfl
             · refine JC.region ?_
               refine jc (op_move lb (.tmp rfl)) ?_
               replace hx14 := bnd_inv hx14
               obtain ⟨_, hv_u_51, hx14⟩ := hx14
               refine jx (op_call (js := []) ld cl12 (sim_law12_num k v_40 () hv_u_51) .func (.cons (.tmp rfl) .nil) rfl) (fun _ => ?_)
               replace hx14 := lt1_inv hx14
               obtain ⟨v_52, hv_v_52, hx14⟩ := hx14
               refine jc (op_cmpI lb (.tmp rfl) .cI (congrArg some hv_v_52)) ?_
               refine jc (op_move lb (.tmp rfl)) ?_
               refine JL.cnd (sv := ov (S (rI .i64) v_43)) (Guard.isT (ltB rfl) rfl rfl) rfl (ltB rfl) (fun hq_15 => op_move lb (.tmp rfl)) ?_
               replace hx14 := bnd_inv hx14
               obtain ⟨_, hv_u_53, hx14⟩ := hx14
               refine JL.cnd (sv := ov (S (rI .i64) v_43)) (Guard.isT (ltB rfl) rfl rfl) rfl (ltB rfl) (fun hq_16 => (op_call (js := []) ld cl12 (sim_law12_num k v_43 () (ifT hv_u_53 hq_16)) .func (.cons (HasO.cnd (.tmp rfl) hq_16) .nil) rfl).post (fun _ => Imp.refl)) ?_
               refine JL.cnd (sv := ov (S (rI .i64) v_40)) (Guard.isT (ltB rfl) rfl rfl) rfl (ltB rfl) (fun hq_17 => op_move lb (.tmp rfl)) ?_
               replace hx14 := bnd_inv hx14
               obtain ⟨_, hv_u_54, hx14⟩ := hx14
               refine JL.cnd (sv := ov (S (rI .i64) v_40)) (Guard.isT (ltB rfl) rfl rfl) rfl (ltB rfl) (fun hq_18 => (op_call (js := []) ld cl12 (sim_law12_num k v_40 () (ifT hv_u_54 hq_18)) .func (.cons (HasO.cnd (.tmp rfl) hq_18) .nil) rfl).post (fun _ => Imp.refl)) ?_
               replace hx14 := lt1_inv hx14
               obtain ⟨v_55, hv_v_55, hx14⟩ := hx14
               refine JL.cnd (sv := ov (S rB v_55)) (Guard.isT (ltB rfl) rfl rfl) rfl (ltB rfl) (fun hq_19 => op_cmpI lb (HasO.cnd (.tmp rfl) hq_19) (HasO.cnd (.tmp rfl) hq_19) (congrArg some hv_v_55)) ?_
               replace hx14 := lt1_inv hx14
               obtain ⟨v_56, hv_v_56, hx14⟩ := hx14
               refine jc (op_pickCS lb (.tmp rfl) (fun hb20 => (HasO.cnd (.tmp rfl) hb20)) (fun hb20 => .cB) hv_v_56) ?_
               refine jc (op_move lb (.tmp rfl)) ?_
               refine JL.cnd (sv := ov (S (rI .i64) v_43)) (Guard.isF (ltB rfl) rfl rfl) rfl (ltB rfl) (fun hq_21 => op_move lb (.tmp rfl)) ?_
               refine JL.nrm ⟨[(5, ov (PTR gb_5 0)), (7, ov (PTR gb_7 0)), (11, ov (S (rI .i64) v_42)), (80, ov (S rB v_56)), (81, bif (!v_56) then ov (S (rI .i64) v_43) else .one .und)], [cvar gb_5 (rP (rW (MPV go_6)) (rP (rI .i64) (rP (rI .i64) r0))) ((), ((4 : Int), (lost_34, ()))), cmap go_6 (A r_net_pair) (S (rL (rL (rU UInt8)))) (some (x_44)), cvar gb_7 (rP (rW (HDR go_37 0 (List.length L_35) gc_38)) (rP (rI .i64) (rP (rI .i64) r0))) ((), ((4 : Int), (Lost_36, ()))), cown go_37 r_api_Flight L_35 0 gc_38], []⟩ [0, 0, 0, 0] rfl (.cons rfl (.cons rfl (.cons rfl (.cons rfl (.cons rfl .nil))))) rfl ?_
               replace hx14 := bnd_inv hx14
               obtain ⟨_, hv_u_57, hx14⟩ := hx14
               refine JL.cnd (sv := ov (S (rI .i64) v_43)) (Guard.isF (ltB rfl) rfl rfl) rfl (ltB rfl) (fun hq_22 => (op_call (js := []) ld cl12 (sim_law12_num k v_43 () (ifT hv_u_57 hq_22)) .func (.cons (HasO.cnd (.tmp rfl) (notT (notF hq_22))) .nil) rfl).post (fun _ => Imp.refl)) ?_
               replace hx14 := lt1_inv hx14
               obtain ⟨v_58, hv_v_58, hx14⟩ := hx14
               refine JL.cnd (sv := ov (S rB v_58)) (Guard.isF (ltB rfl) rfl rfl) rfl (ltB rfl) (fun hq_23 => op_cmpI lb (HasO.cnd (.tmp rfl) (notT (notF hq_23))) .cI (congrArg some hv_v_58)) ?_
               refine JL.cnd (sv := ov (S rB v_58)) (Guard.isF (ltB rfl) rfl rfl) rfl (ltB rfl) (fun hq_24 => op_move lb (HasO.cnd (.tmp rfl) (notT (notF hq_24)))) ?_
               refine JL.cnd (sv := ov (S (rI .i64) v_42)) (Guard.cT (q := (!v_56)) (ltB rfl) rfl rfl) rfl (ltB rfl) (fun hq_25 => op_move lb (.tmp rfl)) ?_
               replace hx14 := lt1_inv hx14
               obtain ⟨v_59, hv_v_59, hx14⟩ := hx14
               refine JL.cnd (sv := ov (S rB v_59)) (Guard.cT (q := (!v_56)) (ltB rfl) rfl rfl) rfl (ltB rfl) (fun hq_26 => op_cmpI lb (HasO.cnd (.tmp rfl) (andI (notT (notF (andL hq_26))) (andR hq_26))) .cI (congrArg some hv_v_59)) ?_
               replace hx14 := lt1_inv hx14
               obtain ⟨v_60, hv_v_60, hx14⟩ := hx14
               refine JL.cnd (sv := ov (S rB v_60)) (Guard.isF (ltB rfl) rfl rfl) rfl (ltB rfl) (fun hq_27 => op_pickCS lb (HasO.cnd (.tmp rfl) (notT (notF hq_27))) (fun hb28 => (HasO.cnd (.tmp rfl) (andI (notT (notF hq_27)) hb28))) (fun hb28 => .cB) hv_v_60) ?_
               replace hx14 := lt1_inv hx14
               obtain ⟨v_61, hv_v_61, hx14⟩ := hx14
               refine jc (op_pickCS lb (.tmp rfl) (fun hb29 => .cB) (fun hb29 => (HasO.cnd (.tmp rfl) (notT hb29))) hv_v_61) ?_
               refine jc (op_move lb (.tmp rfl)) ?_
               replace hx14 := iteB_inv hx14
               rcases hx14 with ⟨hc31, hx14⟩ | ⟨hc31, hx14⟩
               · refine JL.run (.yes rfl (ltB rfl) rfl hc31) (op_move lb (.tmp rfl)) ?_
                 refine JL.run (.yes rfl (ltB rfl) rfl hc31) (op_move lb (.tmp rfl)) ?_
                 replace hx14 := bnd_inv hx14
                 obtain ⟨v_62, hv_v_62, hx14⟩ := hx14
                 refine JL.runX (.yes rfl (ltB rfl) rfl hc31) (op_call (js := [0, 0, 0, 0]) ld cl22 (sim_law12_once k (0 : Int) (4 : Int) lost_34 (x_44) (4 : Int) Lost_36 L_35 gb_5 go_6 gb_7 go_37 gc_38 v_62 hv_v_62) .func (.cons (.tmp rfl) (.cons (.tmp rfl) (.cons .cI .nil))) rfl) (fun _ => ?_)
                 refine jc (op_pickT lb (.tmp rfl) hc31 (.tmp rfl)) ?_
                 refine JL.nrm ⟨[(93, ov (S rB v_62))], [], []⟩ [] rfl (.cons rfl .nil) rfl ?_
                 refine jc (op_move lb (.tmp rfl)) ?_
                 replace hx14 := bnd_inv hx14
                 obtain ⟨v_63, hv_v_63, hx14⟩ := hx14
                 refine JL.cnd (sv := ov (S rB v_63)) (Guard.isT (ltB rfl) rfl rfl) rfl (ltB rfl) (fun hq_32 => (op_call (js := []) ld cl9 (sim_law12_known'2 k v_63 (ifT hv_v_63 hq_32)) .func .nil rfl).post (fun _ => Imp.refl)) ?_
                 replace hx14 := lt1_inv hx14
                 obtain ⟨v_64, hv_v_64, hx14⟩ := hx14
                 refine jc (op_pickCS lb (.tmp rfl) (fun hb33 => (HasO.cnd (.tmp rfl) hb33)) (fun hb33 => .cB) hv_v_64) ?_
                 refine jc (op_assign lb (.tmp rfl)) ?_
                 refine JL.nil ?_
                 replace hx14 := Option.some.inj hx14
                 first | subst hx14 | clear hx14
                 exact JQ.join () (Imp.norm (js := []) rfl (.cons rfl .nil))
               · refine JL.skip (.no rfl (ltB rfl) rfl hc31) (fun d h => by cases h; exact ltB rfl) ?_
                 refine JL.skip (.no rfl (ltB rfl) rfl hc31) (fun d h => by cases h; exact ltB rfl) ?_
                 refine JL.skip (.no rfl (ltB rfl) rfl hc31) (fun d h => by cases h; exact ltB rfl) ?_
                 refine jc (op_pickF lb (.tmp rfl) hc31 .cB) ?_
                 refine jc (op_move lb (.tmp rfl)) ?_
                 refine JL.skip (.no rfl (ltB rfl) rfl rfl) (fun d h => by cases h; exact ltB rfl) ?_
                 refine jc (op_pickF lb (.tmp rfl) rfl .cB) ?_
                 refine jc (op_assign lb (.tmp rfl)) ?_
                 refine JL.nrm ⟨[(4, ov (S rB false))], [], []⟩ [] rfl (.cons rfl .nil) rfl ?_
                 refine JL.nil ?_
                 replace hx14 := Option.some.inj hx14
                 first | subst hx14 | clear hx14
                 exact JQ.join () (Imp.norm (js := []) rfl (.cons rfl .nil))
           · refine JC.condF (.tmp rfl) hc13 ?_
             refine JC.skip ?_
             refine JQ.then ?_
             refine JC.seq ?_
             replace hq8 := bnd_inv hq8
             obtain ⟨x_72, hx34, hq34⟩ := hq8
             refine JC.seqJ (γ := Unit) (stj := fun q => ⟨[(5, ov (PTR gb_5 0)), (7, ov (PTR gb_7 0)), (9, ov (PTR gb_41 0)), (116, ov (S rB x_72))], [cvar gb_5 (rP (rW (MPV go_6)) (rP (rI .i64) (rP (rI .i64) r0))) ((), ((4 : Int), (lost_34, ()))), cmap go_6 (A r_net_pair) (S (rL (rL (rU UInt8)))) (some (x_44)), cvar gb_7 (rP (rW (HDR go_37 0 (List.length L_35) gc_38)) (rP (rI .i64) (rP (rI .i64) r0))) ((), ((4 : Int), (Lost_36, ()))), cown go_37 r_api_Flight L_35 0 gc_38, cvar gb_41 r_api_Flight v_39], []⟩) (fun q => ?_) ?_
             · obtain _ := q
               refine JC.at ⟨[(5, ov (PTR gb_5 0)), (7, ov (PTR gb_7 0)), (9, ov (PTR gb_41 0)), (116, ov (S rB x_72))], [cvar gb_5 (rP (rW (MPV go_6)) (rP (rI .i64) (rP (rI .i64) r0))) ((), ((4 : Int), (lost_34, ()))), cmap go_6 (A r_net_pair) (S (rL (rL (rU UInt8)))) (some (x_44)), cvar gb_7 (rP (rW (HDR go_37 0 (List.length L_35) gc_38)) (rP (rI .i64) (rP (rI .i64) r0))) ((), ((4 : Int), (Lost_36, ()))), cown go_37 r_api_Flight L_35 0 gc_38, cvar gb_41 r_api_Flight v_39], []⟩ ?_
               replace hq34 := iteB_inv hq34
               rcases hq34 with ⟨hc37, hq34⟩ | ⟨hc37, hq34⟩
               · refine JC.condT (.tmp rfl) hc37 ?_
                 refine JC.seq ?_
                 refine JC.region ?_
                 refine jc (op_assign lb .cB) ?_
                 refine JL.nil ?_
                 refine JQ.then ?_
                 refine JC.ret ?_
                 refine JQ.outR ?_
                 replace hq34 := Option.some.inj hq34
                 subst hq34
                 exact JQ.done (js := []) (ss := [.val (S rB false)]) () (.inl rfl) (.nil rfl) rfl (.cons (.tmp rfl) .nil) rfl rfl rfl
               · refine JC.condF (.tmp rfl) hc37 ?_
                 refine JC.skip ?_
                 refine JQ.then ?_
                 refine JC.seq ?_
                 refine JC.region ?_
                 refine jc (op_assign lb .cI) ?_
                 refine JL.nil ?_
                 refine JQ.then ?_
                 replace hq34 := bnd_inv hq34
                 obtain ⟨x_89, hx38, hq38⟩ := hq34
                 refine JC.seqJ (γ := Unit) (stj := fun q => ⟨[(5, ov (PTR gb_5 0)), (7, ov (PTR gb_7 0)), (9, ov (PTR gb_41 0)), (13, ov (S (rI .i64) x_89))], [cvar gb_5 (rP (rW (MPV go_6)) (rP (rI .i64) (rP (rI .i64) r0))) ((), ((4 : Int), (lost_34, ()))), cmap go_6 (A r_net_pair) (S (rL (rL (rU UInt8)))) (some (x_44)), cvar gb_7 (rP (rW (HDR go_37 0 (List.length L_35) gc_38)) (rP (rI .i64) (rP (rI .i64) r0))) ((), ((4 : Int), (Lost_36, ()))), cown go_37 r_api_Flight L_35 0 gc_38, cvar gb_41 r_api_Flight v_39], []⟩) (fun q => ?_) ?_
                 · obtain _ := q
                   refine JC.at ⟨[(5, ov (PTR gb_5 0)), (7, ov (PTR gb_7 0)), (9, ov (PTR gb_41 0)), (13, ov (S (rI .i64) x_89))], [cvar gb_5 (rP (rW (MPV go_6)) (rP (rI .i64) (rP (rI .i64) r0))) ((), ((4 : Int), (lost_34, ()))), cmap go_6 (A r_net_pair) (S (rL (rL (rU UInt8)))) (some (x_44)), cvar gb_7 (rP (rW (HDR go_37 0 (List.length L_35) gc_38)) (rP (rI .i64) (rP (rI .i64) r0))) ((), ((4 : Int), (Lost_36, ()))), cown go_37 r_api_Flight L_35 0 gc_38, cvar gb_41 r_api_Flight v_39], []⟩ ?_
                   refine JC.seq ?_
                   refine JC.region ?_
                   refine jc (op_move lb (.tmp rfl)) ?_
                   refine jc (op_move lb (.tmp rfl)) ?_
                   replace hq38 := bnd_inv hq38
                   obtain ⟨⟨v_90, v_91, x_92⟩, hv_v_90, hq38⟩ := hq38
                   refine jx (op_call (js := [0, 0]) ld cl15 (sim_net_Net_Take'2 k x_89 (4 : Int) lost_34 (x_44) gb_5 go_6 (v_90, v_91, x_92) hv_v_90) .func (.cons (.tmp rfl) (.cons (.tmp rfl) .nil)) rfl) (fun _ => ?_)
                   refine jc (op_move lb (.tmp rfl)) ?_
                   refine jc (op_extract (i := 0) lb (.tmp rfl) rfl) ?_
                   refine jc (op_extract (i := 1) lb (.tmp rfl) rfl) ?_
                   refine jx (op_alloc lb tZ36 zr36) (fun q => ?_)
                   obtain ⟨gb_93, hqq⟩ : ∃ z, z = q := ⟨_, rfl⟩
                   subst hqq
                   refine jc (op_storeA (j := 5) tA36 (.tmp rfl) (.tmp rfl) rfl (UpdR.self (by rfl)) rfl) ?_
                   refine JL.sub ⟨[(5, ov (PTR gb_5 0)), (7, ov (PTR gb_7 0)), (9, ov (PTR gb_41 0)), (15, ov (PTR gb_93 0)), (170, ov (S (rI .i64) v_91))], [cvar gb_5 (rP (rW (MPV go_6)) (rP (rI .i64) (rP (rI .i64) r0))) ((), ((4 : Int), (lost_34, ()))), cmap go_6 (A r_net_pair) (S (rL (rL (rU UInt8)))) (some (x_92)), cvar gb_7 (rP (rW (HDR go_37 0 (List.length L_35) gc_38)) (rP (rI .i64) (rP (rI .i64) r0))) ((), ((4 : Int), (Lost_36, ()))), cown go_37 r_api_Flight L_35 0 gc_38, cvar gb_41 r_api_Flight v_39, cvar gb_93 r_api_Flight v_90], []⟩ (.cons rfl (.cons rfl (.cons rfl (.cons rfl (.cons rfl .nil))))) rfl rfl ?_
                   refine jc (op_assign lb (.tmp rfl)) ?_
                   refine JL.nil ?_
                   refine JQ.then ?_
                   replace hq38 := bnd_inv hq38
                   obtain ⟨x_101, hx48, hq48⟩ := hq38
                   refine JC.seqJ (γ := Unit) (stj := fun q => ⟨[(4, ov (S rB x_101))], [], []⟩) (fun q => ?_) ?_
                   · obtain _ := q
                     refine JC.at ⟨[(4, ov (S rB x_101))], [], []⟩ ?_
                     refine JC.ret ?_
                     replace hq48 := Option.some.inj hq48
                     subst hq48
                     exact JQ.done (js := []) (ss := [.val (S rB x_101)]) () (.inl rfl) (.nil rfl) rfl (.cons (.tmp rfl) .nil) rfl rfl rfl
                   · refine JC.region ?_
                     refine jc (op_move lb (.tmp rfl)) ?_
                     replace hx48 := bnd_inv hx48
                     obtain ⟨_, hv_u_94, hx48⟩ := hx48
                     refine jx (op_call (js := []) ld cl12 (sim_law12_num k v_91 () hv_u_94) .func (.cons (.tmp rfl) .nil) rfl) (fun _ => ?_)
                     replace hx48 := lt1_inv hx48
                     obtain ⟨v_95, hv_v_95, hx48⟩ := hx48
                     refine jc (op_cmpI lb (.tmp rfl) .cI (congrArg some hv_v_95)) ?_
                     refine jc (op_move lb (.tmp rfl)) ?_
                     refine JL.cnd (sv := ov (A r_api_Flight v_90)) (Guard.isT (ltB rfl) rfl rfl) rfl (ltB rfl) (fun hq_49 => op_loadA (j := 5) lb tA36 (.tmp rfl) rfl (Comp.self r_api_Flight v_90) rfl) ?_
                     refine JL.cnd (sv := ov (A r_api_Flight v_39)) (Guard.isT (ltB rfl) rfl rfl) rfl (ltB rfl) (fun hq_50 => op_loadA (j := 4) lb tA36 (.tmp rfl) rfl (Comp.self r_api_Flight v_39) rfl) ?_
                     replace hx48 := bnd_inv hx48
                     obtain ⟨v_96, hv_v_96, hx48⟩ := hx48
                     refine JL.cnd (sv := ov (S rB v_96)) (Guard.isT (ltB rfl) rfl rfl) rfl (ltB rfl) (fun hq_51 => (op_call (js := []) ld cl17 (sim_ref12_Same k v_90 v_39 v_96 (ifT hv_v_96 hq_51)) .func (.cons (HasO.cnd (.tmp rfl) hq_51) (.cons (HasO.cnd (.tmp rfl) hq_51) .nil)) rfl).post (fun _ => Imp.refl)) ?_
                     replace hx48 := lt1_inv hx48
                     obtain ⟨v_97, hv_v_97, hx48⟩ := hx48
                     refine jc (op_pickCS lb (.tmp rfl) (fun hb52 => (HasO.cnd (.tmp rfl) hb52)) (fun hb52 => .cB) hv_v_97) ?_
                     refine jc (op_move lb (.tmp rfl)) ?_
                     replace hx48 := iteB_inv hx48
                     rcases hx48 with ⟨hc54, hx48⟩ | ⟨hc54, hx48⟩
                     · refine JL.run (.yes rfl (ltB rfl) rfl hc54) (op_move lb (.tmp rfl)) ?_
                       refine JL.run (.yes rfl (ltB rfl) rfl hc54) (op_move lb (.tmp rfl)) ?_
                       refine JL.nrm ⟨[(179, ov (S rB v_97)), (180, ov (PTR gb_5 0)), (181, ov (PTR gb_7 0))], [cvar gb_5 (rP (rW (MPV go_6)) (rP (rI .i64) (rP (rI .i64) r0))) ((), ((4 : Int), (lost_34, ()))), cmap go_6 (A r_net_pair) (S (rL (rL (rU UInt8)))) (some (x_92)), cvar gb_7 (rP (rW (HDR go_37 0 (List.length L_35) gc_38)) (rP (rI .i64) (rP (rI .i64) r0))) ((), ((4 : Int), (Lost_36, ()))), cown go_37 r_api_Flight L_35 0 gc_38], []⟩ [0, 0, 0, 0] rfl (.cons rfl (.cons rfl (.cons rfl .nil))) rfl ?_
                       replace hx48 := bnd_inv hx48
                       obtain ⟨v_98, hv_v_98, hx48⟩ := hx48
                       refine JL.runX (.yes rfl (ltB rfl) rfl hc54) (op_call (js := [0, 0, 0, 0]) ld cl22 (sim_law12_once k (0 : Int) (4 : Int) lost_34 (x_92) (4 : Int) Lost_36 L_35 gb_5 go_6 gb_7 go_37 gc_38 v_98 hv_v_98) .func (.cons (.tmp rfl) (.cons (.tmp rfl) (.cons .cI .nil))) rfl) (fun _ => ?_)
                       refine jc (op_pickT lb (.tmp rfl) hc54 (.tmp rfl)) ?_
                       refine jc (op_move lb (.tmp rfl)) ?_
                       replace hx48 := bnd_inv hx48
                       obtain ⟨v_99, hv_v_99, hx48⟩ := hx48
                       refine JL.cnd (sv := ov (S rB v_99)) (Guard.isT (ltB rfl) rfl rfl) rfl (ltB rfl) (fun hq_55 => (op_call (js := []) ld cl9 (sim_law12_known'2 k v_99 (ifT hv_v_99 hq_55)) .func .nil rfl).post (fun _ => Imp.refl)) ?_
                       replace hx48 := lt1_inv hx48
                       obtain ⟨v_100, hv_v_100, hx48⟩ := hx48
                       refine jc (op_pickCS lb (.tmp rfl) (fun hb56 => (HasO.cnd (.tmp rfl) hb56)) (fun hb56 => .cB) hv_v_100) ?_
                       refine jc (op_assign lb (.tmp rfl)) ?_
                       refine JL.nil ?_
                       replace hx48 := Option.some.inj hx48
                       first | subst hx48 | clear hx48
                       exact JQ.join () (Imp.norm (js := []) rfl (.cons rfl .nil))
                     · refine JL.skip (.no rfl (ltB rfl) rfl hc54) (fun d h => by cases h; exact ltB rfl) ?_
                       refine JL.skip (.no rfl (ltB rfl) rfl hc54) (fun d h => by cases h; exact ltB rfl) ?_
                       refine JL.skip (.no rfl (ltB rfl) rfl hc54) (fun d h => by cases h; exact ltB rfl) ?_
                       refine jc (op_pickF lb (.tmp rfl) hc54 .cB) ?_
                       refine jc (op_move lb (.tmp rfl)) ?_
                       refine JL.nrm ⟨[(184, ov (S rB false))], [], []⟩ [] rfl (.cons rfl .nil) rfl ?_
                       refine JL.skip (.no rfl (ltB rfl) rfl rfl) (fun d h => by cases h; exact ltB rfl) ?_
                       refine jc (op_pickF lb (.tmp rfl) rfl .cB) ?_
                       refine jc (op_assign lb (.tmp rfl)) ?_
                       refine JL.nil ?_
                       replace hx48 := Option.some.inj hx48
                       first | subst hx48 | clear hx48
                       exact JQ.join () (Imp.norm (js := []) rfl (.cons rfl .nil))
                 · refine JC.seq ?_
                   refine JC.region ?_
                   refine jc (op_assign lb .cI) ?_
                   refine JL.nil ?_
                   refine JQ.then ?_
                   refine JC.block ?_
                   refine JC.pre ?_ (JC.loop (γ := Unit) (stf := fun s q => ⟨[(5, ov (PTR gb_5 0)), (7, ov (PTR gb_7 0)), (9, ov (PTR gb_41 0)), (13, ov (S (rI .i64) s.1)), (14, ov (S (rI .i64) s.2))], [cvar gb_5 (rP (rW (MPV go_6)) (rP (rI .i64) (rP (rI .i64) r0))) ((), ((4 : Int), (lost_34, ()))), cmap go_6 (A r_net_pair) (S (rL (rL (rU UInt8)))) (some (x_44)), cvar gb_7 (rP (rW (HDR go_37 0 (List.length L_35) gc_38)) (rP (rI .i64) (rP (rI .i64) r0))) ((), ((4 : Int), (Lost_36, ()))), cown go_37 r_api_Flight L_35 0 gc_38, cvar gb_41 r_api_Flight v_39], []⟩) (q := ()) hx38 ?_)
                   · exact (Imp.norm (js := [0, 0, 0, 0, 0]) rfl (.cons rfl (.cons rfl (.cons rfl (.cons rfl (.cons rfl .nil))))))
                   · intro s q x hx hr
                     obtain ⟨x_73, x_74⟩ := s
                     obtain _ := q
                     change law12_NetDoubles.b2 k L_35 v_39 x_73 x_74 = some x at hx
                     unfold law12_NetDoubles.b2 at hx
                     refine JC.at ⟨[(5, ov (PTR gb_5 0)), (7, ov (PTR gb_7 0)), (9, ov (PTR gb_41 0)), (13, ov (S (rI .i64) x_73)), (14, ov (S (rI .i64) x_74))], [cvar gb_5 (rP (rW (MPV go_6)) (rP (rI .i64) (rP (rI .i64) r0))) ((), ((4 : Int), (lost_34, ()))), cmap go_6 (A r_net_pair) (S (rL (rL (rU UInt8)))) (some (x_44)), cvar gb_7 (rP (rW (HDR go_37 0 (List.length L_35) gc_38)) (rP (rI .i64) (rP (rI .i64) r0))) ((), ((4 : Int), (Lost_36, ()))), cown go_37 r_api_Flight L_35 0 gc_38, cvar gb_41 r_api_Flight v_39], []⟩ ?_
                     refine JC.seq ?_
                     refine JC.seq ?_
                     refine JC.region ?_
                     refine jc (op_move lb (.tmp rfl)) ?_
                     refine jc (op_move lb (.tmp rfl)) ?_
                     refine jc (op_nilCheck lb (.tmp rfl) (fun e v h => by subst h; rfl)) ?_
                     refine jc (op_fieldAddr (off := 0) lb tf43_0 (.tmp rfl)) ?_
                     refine jc (op_loadW (j := 2) lb tS30 (.tmp rfl) rfl (Comp.trans (Comp.self (rP (rW (HDR go_37 0 (List.length L_35) gc_38)) (rP (rI .i64) (rP (rI .i64) r0))) ((), ((4 : Int), (Lost_36, ())))) (Comp.at' (Comp.inF (Comp.self (rW (HDR go_37 0 (List.length L_35) gc_38)) ()) (Nat.le_of_ble_eq_true rfl)) (by rfl : _ = 0)) (Nat.le_of_ble_eq_true rfl))) ?_
                     refine jc (op_lenH lb tu30 (.tmp rfl)) ?_
                     replace hx := lt1_inv hx
                     obtain ⟨v_75, hv_v_75, hx⟩ := hx
                     refine jc (op_cmpI lb (.tmp rfl) (.tmp rfl) (congrArg some hv_v_75)) ?_
                     refine JL.nil ?_
                     refine JQ.then ?_
                     replace hx := iteB_inv hx
                     rcases hx with ⟨hc40, hx⟩ | ⟨hc40, hx⟩
                     · refine JC.condT (.tmp rfl) hc40 ?_
                       refine JC.skip ?_
                       refine JQ.then ?_
                       replace hx := bnd_inv hx
                       obtain ⟨x_87, hx41, hq41⟩ := hx
                       refine JC.seqJ (γ := Unit) (stj := fun q => ⟨[(5, ov (PTR gb_5 0)), (7, ov (PTR gb_7 0)), (9, ov (PTR gb_41 0)), (13, ov (S (rI .i64) x_87)), (14, ov (S (rI .i64) x_74))], [cvar gb_5 (rP (rW (MPV go_6)) (rP (rI .i64) (rP (rI .i64) r0))) ((), ((4 : Int), (lost_34, ()))), cmap go_6 (A r_net_pair) (S (rL (rL (rU UInt8)))) (some (x_44)), cvar gb_7 (rP (rW (HDR go_37 0 (List.length L_35) gc_38)) (rP (rI .i64) (rP (rI .i64) r0))) ((), ((4 : Int), (Lost_36, ()))), cown go_37 r_api_Flight L_35 0 gc_38, cvar gb_41 r_api_Flight v_39], []⟩) (fun q => ?_) ?_
                       · obtain _ := q
                         refine JC.at ⟨[(5, ov (PTR gb_5 0)), (7, ov (PTR gb_7 0)), (9, ov (PTR gb_41 0)), (13, ov (S (rI .i64) x_87)), (14, ov (S (rI .i64) x_74))], [cvar gb_5 (rP (rW (MPV go_6)) (rP (rI .i64) (rP (rI .i64) r0))) ((), ((4 : Int), (lost_34, ()))), cmap go_6 (A r_net_pair) (S (rL (rL (rU UInt8)))) (some (x_44)), cvar gb_7 (rP (rW (HDR go_37 0 (List.length L_35) gc_38)) (rP (rI .i64) (rP (rI .i64) r0))) ((), ((4 : Int), (Lost_36, ()))), cown go_37 r_api_Flight L_35 0 gc_38, cvar gb_41 r_api_Flight v_39], []⟩ ?_
                         refine JC.region ?_
                         refine jc (op_move lb (.tmp rfl)) ?_
                         replace hq41 := lt1_inv hq41
                         obtain ⟨v_88, hv_v_88, hq41⟩ := hq41
                         refine jc (op_arI lb (.tmp rfl) .cI (congrArg some hv_v_88)) ?_
                         refine jc (op_assign lb (.tmp rfl)) ?_
                         refine JL.nil ?_
                         replace hq41 := Option.some.inj hq41
                         first | subst hq41 | clear hq41
                         exact JQ.next () rfl (Imp.norm (js := [0, 0, 0, 0, 0]) rfl (.cons rfl (.cons rfl (.cons rfl (.cons rfl (.cons rfl .nil))))))
                       · refine JC.block ?_
                         replace hx41 := bnd_inv hx41
                         obtain ⟨x_85, hx42, hq42⟩ := hx41
                         refine JC.seqJ (γ := Unit) (stj := fun q => ⟨[(5, ov (PTR gb_5 0)), (7, ov (PTR gb_7 0)), (9, ov (PTR gb_41 0)), (13, ov (S (rI .i64) x_73)), (14, ov (S (rI .i64) x_74)), (162, ov (S rB x_85))], [cvar gb_5 (rP (rW (MPV go_6)) (rP (rI .i64) (rP (rI .i64) r0))) ((), ((4 : Int), (lost_34, ()))), cmap go_6 (A r_net_pair) (S (rL (rL (rU UInt8)))) (some (x_44)), cvar gb_7 (rP (rW (HDR go_37 0 (List.length L_35) gc_38)) (rP (rI .i64) (rP (rI .i64) r0))) ((), ((4 : Int), (Lost_36, ()))), cown go_37 r_api_Flight L_35 0 gc_38, cvar gb_41 r_api_Flight v_39], []⟩) (fun q => ?_) ?_
                         · obtain _ := q
                           refine JC.at ⟨[(5, ov (PTR gb_5 0)), (7, ov (PTR gb_7 0)), (9, ov (PTR gb_41 0)), (13, ov (S (rI .i64) x_73)), (14, ov (S (rI .i64) x_74)), (162, ov (S rB x_85))], [cvar gb_5 (rP (rW (MPV go_6)) (rP (rI .i64) (rP (rI .i64) r0))) ((), ((4 : Int), (lost_34, ()))), cmap go_6 (A r_net_pair) (S (rL (rL (rU UInt8)))) (some (x_44)), cvar gb_7 (rP (rW (HDR go_37 0 (List.length L_35) gc_38)) (rP (rI .i64) (rP (rI .i64) r0))) ((), ((4 : Int), (Lost_36, ()))), cown go_37 r_api_Flight L_35 0 gc_38, cvar gb_41 r_api_Flight v_39], []⟩ ?_
                           replace hq42 := iteB_inv hq42
                           rcases hq42 with ⟨hc47, hq42⟩ | ⟨hc47, hq42⟩
                           · refine JC.condT (.tmp rfl) hc47 ?_
                             refine JC.region ?_
                             refine jc (op_move lb (.tmp rfl)) ?_
                             replace hq42 := lt1_inv hq42
                             obtain ⟨v_86, hv_v_86, hq42⟩ := hq42
                             refine jc (op_arI lb (.tmp rfl) .cI (congrArg some hv_v_86)) ?_
                             refine jc (op_assign lb (.tmp rfl)) ?_
                             refine JL.nil ?_
                             refine JQ.outNB ?_
                             replace hq42 := Option.some.inj hq42
                             first | subst hq42 | clear hq42
                             exact JQ.join () (Imp.norm (js := [0, 0, 0, 0, 0]) rfl (.cons rfl (.cons rfl (.cons rfl (.cons rfl (.cons rfl .nil))))))
                           · refine JC.condF (.tmp rfl) hc47 ?_
                             refine JC.skip ?_
                             refine JQ.outNB ?_
                             replace hq42 := Option.some.inj hq42
                             first | subst hq42 | clear hq42
                             exact JQ.join () (Imp.norm (js := [0, 0, 0, 0, 0]) rfl (.cons rfl (.cons rfl (.cons rfl (.cons rfl (.cons rfl .nil))))))
                         · replace hx42 := bnd_inv hx42
                           obtain ⟨i_76, hv_i_76, hx42⟩ := hx42
                           replace hx42 := bnd_inv hx42
                           obtain ⟨u_77, hv_u_77, hx42⟩ := hx42
                           replace hx42 := lt1_inv hx42
                           obtain ⟨v_78, hv_v_78, hx42⟩ := hx42
                           replace hx42 := iteB_inv hx42
                           rcases hx42 with ⟨hc44, hx42⟩ | ⟨hc44, hx42⟩
                           · refine JC.anyE (kl := []) (kk := 0) (base := [(5, ov (PTR gb_5 0)), (7, ov (PTR gb_7 0)), (9, ov (PTR gb_41 0)), (13, ov (S (rI .i64) x_73)), (14, ov (S (rI .i64) x_74))])
                                 (fs := fun γ => [⟨some 126, ov (PTR gb_7 0)⟩, ⟨some 127, ov (PTR gb_7 0)⟩, ⟨some 128, ov (PTR gb_7 (0 + 0))⟩, ⟨some 129, ov (HDR go_37 0 (List.length L_35) gc_38)⟩, ⟨some 130, ov (S (rI .i64) x_74)⟩, ⟨some 131, ov (EPT go_37 (i_76 * 3))⟩, ⟨some 132, ov (EPT go_37 ((i_76 * 3) + 0))⟩, ⟨some 133, ov (S (rI .i64) u_77.From)⟩, ⟨some 134, ov (PTR gb_41 (0 + 0))⟩, ⟨some 135, ov (S (rI .i64) v_39.From)⟩, ⟨some 136, ov (S rB v_78)⟩, ⟨some 137, ov (S rB v_78)⟩, ⟨some 138, .one .und⟩, ⟨some 139, .one .und⟩, ⟨some 140, .one .und⟩, ⟨some 141, .one .und⟩, ⟨some 142, .one .und⟩, ⟨some 143, .one .und⟩, ⟨some 144, .one .und⟩, ⟨some 145, .one .und⟩, ⟨some 146, .one .und⟩, ⟨some 147, .one .und⟩, ⟨some 148, .one .und⟩, ⟨some 149, .one .und⟩, ⟨some 150, .one .und⟩, ⟨some 151, .one .und⟩, ⟨some 152, .one .und⟩, ⟨some 153, .one .und⟩, ⟨some 154, .one .und⟩, ⟨some 155, .one .und⟩, ⟨some 156, .one .und⟩, ⟨some 157, .one .und⟩, ⟨some 158, .one .und⟩, ⟨some 159, .one .und⟩, ⟨some 160, .one .und⟩, ⟨some 161, .one .und⟩, ⟨some 162, ov (S rB true)⟩])
                                 (rs := fun γ => [⟨cvar gb_5 (rP (rW (MPV go_6)) (rP (rI .i64) (rP (rI .i64) r0))) ((), ((4 : Int), (lost_34, ()))), none, none, []⟩, ⟨cmap go_6 (A r_net_pair) (S (rL (rL (rU UInt8)))) (some (x_44)), none, none, []⟩, ⟨cvar gb_7 (rP (rW (HDR go_37 0 (List.length L_35) gc_38)) (rP (rI .i64) (rP (rI .i64) r0))) ((), ((4 : Int), (Lost_36, ()))), none, none, [3]⟩, ⟨cown go_37 r_api_Flight L_35 0 gc_38, none, none, [5, 7]⟩, ⟨cvar gb_41 r_api_Flight v_39, none, none, [9]⟩])
                                 (ds := [126, 127, 128, 129, 130, 131, 132, 133, 134, 135, 136, 137, 138, 139, 140, 141, 142, 143, 144, 145, 146, 147, 148, 149, 150, 151, 152, 153, 154, 155, 156, 157, 158, 159, 160, 161, 162]) (bs := [5, 7, 9, 13, 14]) (afts := [[], [], [], [], [], [], [], [], [], [], [], [], [], [], [], [], [], [], [], [], [], [], [], [], [], [], [], [], [], [], [], [], [], [], [], [], []]) (js := [0, 0, 0, 0, 0]) mixed (.cons rfl (.cons rfl (.cons rfl (.cons rfl (.cons rfl .nil))))) (fun _ => rfl)
                                 (by
      refine dS 1 (fun γ ρ B hb hd => op_move lb (.tmp (hb 7 _ rfl))) ?_
      refine dS 2 (fun γ ρ B hb hd => op_nilCheck lb (.tmp (hl hd 0 126 rfl)) (fun e v h => by subst h; rfl)) ?_
      refine dS 3 (fun γ ρ B hb hd => op_fieldAddr (off := 0) lb tf43_0 (.tmp (hl hd 1 127 rfl))) ?_
      refine DSteps.cons (j := 4) rfl (fun _ => rfl) (.run (fun γ ρ B hb hd => ⟨.none, OpStep.at ⟨ρ, (cvar gb_7 (rP (rW (HDR go_37 0 (List.length L_35) gc_38)) (rP (rI .i64) (rP (rI .i64) r0))) ((), ((4 : Int), (Lost_36, ())))) :: B, _⟩ (setO ⟨ρ, (cvar gb_7 (rP (rW (HDR go_37 0 (List.length L_35) gc_38)) (rP (rI .i64) (rP (rI .i64) r0))) ((), ((4 : Int), (Lost_36, ())))) :: B, _⟩ _ _) (op_loadW (j := 0) lb tS30 (.tmp (hl hd 2 128 rfl)) rfl (Comp.trans (Comp.self (rP (rW (HDR go_37 0 (List.length L_35) gc_38)) (rP (rI .i64) (rP (rI .i64) r0))) ((), ((4 : Int), (Lost_36, ())))) (Comp.at' (Comp.inF (Comp.self (rW (HDR go_37 0 (List.length L_35) gc_38)) ()) (Nat.le_of_ble_eq_true rfl)) (by rfl : _ = 0)) (Nat.le_of_ble_eq_true rfl)))⟩)) ?_
      refine dS 5 (fun γ ρ B hb hd => op_move lb (.tmp (hb 14 _ rfl))) ?_
      refine DSteps.cons (j := 6) rfl (fun _ => rfl) (.run (fun γ ρ B hb hd => ⟨.none, OpStep.at ⟨ρ, (cown go_37 r_api_Flight L_35 0 gc_38) :: B, _⟩ (setO ⟨ρ, (cown go_37 r_api_Flight L_35 0 gc_38) :: B, _⟩ _ _) (op_indexAddrOF (r := r_api_Flight) (j := 0) lb tu30 tz36 rfl (.tmp (hl hd 3 129 rfl)) (.tmp (hl hd 4 130 rfl)) hv_i_76)⟩)) ?_
      refine dS 7 (fun γ ρ B hb hd => op_fieldAddrE (off := 0) lb tf36_0 (.tmp (hl hd 5 131 rfl))) ?_
      refine DSteps.cons (j := 8) rfl (fun _ => rfl) (.run (fun γ ρ B hb hd => ⟨.none, OpStep.at ⟨ρ, (cown go_37 r_api_Flight L_35 0 gc_38) :: B, _⟩ (setO ⟨ρ, (cown go_37 r_api_Flight L_35 0 gc_38) :: B, _⟩ _ _) (op_loadOS (r := r_api_Flight) (i := i_76) (off := 0) (j := 0) lb tS3 rfl rfl (.tmp (hl hd 6 132 rfl)) hv_u_77 (Comp.at' (Comp.trans (Comp.self r_api_Flight u_77) (comp_api_Flight_From u_77) (Nat.le_of_ble_eq_true rfl)) rfl) (by decide))⟩)) ?_
      refine dS 9 (fun γ ρ B hb hd => op_fieldAddr (off := 0) lb tf36_0 (.tmp (hb 9 _ rfl))) ?_
      refine DSteps.cons (j := 10) rfl (fun _ => rfl) (.run (fun γ ρ B hb hd => ⟨.none, OpStep.at ⟨ρ, (cvar gb_41 r_api_Flight v_39) :: B, _⟩ (setO ⟨ρ, (cvar gb_41 r_api_Flight v_39) :: B, _⟩ _ _) (op_loadS (j := 0) lb tS3 (.tmp (hl hd 8 134 rfl)) rfl (Comp.trans (Comp.self r_api_Flight v_39) (comp_api_Flight_From v_39) (Nat.le_of_ble_eq_true rfl)) rfl rfl)⟩)) ?_
      refine dS 11 (fun γ ρ B hb hd => op_cmpI lb (.tmp (hl hd 7 133 rfl)) (.tmp (hl hd 9 135 rfl)) (congrArg some hv_v_78)) ?_
      refine dS 12 (fun γ ρ B hb hd => op_move lb (.tmp (hl hd 10 136 rfl))) ?_
      refine DSteps.cons (j := 13) rfl (fun _ => rfl) (.skip (fun γ ρ B hb hd => ⟨.no rfl (ltB rfl) (hl hd 11 137 rfl) hc44, rfl, rfl, rfl, fun d h => by cases h; exact ltB rfl⟩)) ?_
      refine DSteps.cons (j := 14) rfl (fun _ => rfl) (.skip (fun γ ρ B hb hd => ⟨.no rfl (ltB rfl) (hl hd 11 137 rfl) hc44, rfl, rfl, rfl, fun d h => by cases h; exact ltB rfl⟩)) ?_
      refine DSteps.cons (j := 15) rfl (fun _ => rfl) (.skip (fun γ ρ B hb hd => ⟨.no rfl (ltB rfl) (hl hd 11 137 rfl) hc44, rfl, rfl, rfl, fun d h => by cases h; exact ltB rfl⟩)) ?_
      refine DSteps.cons (j := 16) rfl (fun _ => rfl) (.skip (fun γ ρ B hb hd => ⟨.no rfl (ltB rfl) (hl hd 11 137 rfl) hc44, rfl, rfl, rfl, fun d h => by cases h; exact ltB rfl⟩)) ?_
      refine DSteps.cons (j := 17) rfl (fun _ => rfl) (.skip (fun γ ρ B hb hd => ⟨.no rfl (ltB rfl) (hl hd 11 137 rfl) hc44, rfl, rfl, rfl, fun d h => by cases h; exact ltB rfl⟩)) ?_
      refine DSteps.cons (j := 18) rfl (fun _ => rfl) (.skip (fun γ ρ B hb hd => ⟨.no rfl (ltB rfl) (hl hd 11 137 rfl) hc44, rfl, rfl, rfl, fun d h => by cases h; exact ltB rfl⟩)) ?_
      refine DSteps.cons (j := 19) rfl (fun _ => rfl) (.skip (fun γ ρ B hb hd => ⟨.no rfl (ltB rfl) (hl hd 11 137 rfl) hc44, rfl, rfl, rfl, fun d h => by cases h; exact ltB rfl⟩)) ?_
      refine DSteps.cons (j := 20) rfl (fun _ => rfl) (.skip (fun γ ρ B hb hd => ⟨.no rfl (ltB rfl) (hl hd 11 137 rfl) hc44, rfl, rfl, rfl, fun d h => by cases h; exact ltB rfl⟩)) ?_
      refine DSteps.cons (j := 21) rfl (fun _ => rfl) (.skip (fun γ ρ B hb hd => ⟨.no rfl (ltB rfl) (hl hd 11 137 rfl) hc44, rfl, rfl, rfl, fun d h => by cases h; exact ltB rfl⟩)) ?_
      refine DSteps.cons (j := 22) rfl (fun _ => rfl) (.skip (fun γ ρ B hb hd => ⟨.no rfl (ltB rfl) (hl hd 11 137 rfl) hc44, rfl, rfl, rfl, fun d h => by cases h; exact ltB rfl⟩)) ?_
      refine DSteps.cons (j := 23) rfl (fun _ => rfl) (.skip (fun γ ρ B hb hd => ⟨.no rfl (ltB rfl) (hl hd 11 137 rfl) hc44, rfl, rfl, rfl, fun d h => by cases h; exact ltB rfl⟩)) ?_
      refine DSteps.cons (j := 24) rfl (fun _ => rfl) (.skip (fun γ ρ B hb hd => ⟨.no rfl (ltB rfl) (hl hd 11 137 rfl) hc44, rfl, rfl, rfl, fun d h => by cases h; exact ltB rfl⟩)) ?_
      refine DSteps.cons (j := 25) rfl (fun _ => rfl) (.skip (fun γ ρ B hb hd => ⟨.und rfl (ltB rfl) (hl hd 23 149 rfl), rfl, rfl, rfl, fun d h => by cases h; exact ltB rfl⟩)) ?_
      refine DSteps.cons (j := 26) rfl (fun _ => rfl) (.skip (fun γ ρ B hb hd => ⟨.und rfl (ltB rfl) (hl hd 23 149 rfl), rfl, rfl, rfl, fun d h => by cases h; exact ltB rfl⟩)) ?_
      refine DSteps.cons (j := 27) rfl (fun _ => rfl) (.skip (fun γ ρ B hb hd => ⟨.und rfl (ltB rfl) (hl hd 23 149 rfl), rfl, rfl, rfl, fun d h => by cases h; exact ltB rfl⟩)) ?_
      refine DSteps.cons (j := 28) rfl (fun _ => rfl) (.skip (fun γ ρ B hb hd => ⟨.und rfl (ltB rfl) (hl hd 23 149 rfl), rfl, rfl, rfl, fun d h => by cases h; exact ltB rfl⟩)) ?_
      refine DSteps.cons (j := 29) rfl (fun _ => rfl) (.skip (fun γ ρ B hb hd => ⟨.und rfl (ltB rfl) (hl hd 23 149 rfl), rfl, rfl, rfl, fun d h => by cases h; exact ltB rfl⟩)) ?_
      refine DSteps.cons (j := 30) rfl (fun _ => rfl) (.skip (fun γ ρ B hb hd => ⟨.und rfl (ltB rfl) (hl hd 23 149 rfl), rfl, rfl, rfl, fun d h => by cases h; exact ltB rfl⟩)) ?_
      refine DSteps.cons (j := 31) rfl (fun _ => rfl) (.skip (fun γ ρ B hb hd => ⟨.und rfl (ltB rfl) (hl hd 23 149 rfl), rfl, rfl, rfl, fun d h => by cases h; exact ltB rfl⟩)) ?_
      refine DSteps.cons (j := 32) rfl (fun _ => rfl) (.skip (fun γ ρ B hb hd => ⟨.und rfl (ltB rfl) (hl hd 23 149 rfl), rfl, rfl, rfl, fun d h => by cases h; exact ltB rfl⟩)) ?_
      refine DSteps.cons (j := 33) rfl (fun _ => rfl) (.skip (fun γ ρ B hb hd => ⟨.und rfl (ltB rfl) (hl hd 23 149 rfl), rfl, rfl, rfl, fun d h => by cases h; exact ltB rfl⟩)) ?_
      refine DSteps.cons (j := 34) rfl (fun _ => rfl) (.skip (fun γ ρ B hb hd => ⟨.und rfl (ltB rfl) (hl hd 23 149 rfl), rfl, rfl, rfl, fun d h => by cases h; exact ltB rfl⟩)) ?_
      refine DSteps.cons (j := 35) rfl (fun _ => rfl) (.skip (fun γ ρ B hb hd => ⟨.und rfl (ltB rfl) (hl hd 23 149 rfl), rfl, rfl, rfl, fun d h => by cases h; exact ltB rfl⟩)) ?_
      refine DSteps.cons (j := 36) rfl (fun _ => rfl) (.skip (fun γ ρ B hb hd => ⟨.no rfl (ltB rfl) (hl hd 11 137 rfl) hc44, rfl, rfl, rfl, fun d h => by cases h; exact ltB rfl⟩)) ?_
      refine dS 37 (fun γ ρ B hb hd => op_pickT lb (.tmp (hl hd 11 137 rfl)) hc44 .cB) ?_
      exact DSteps.nil)
                                 (by decide +kernel) (fun _ => rfl) rfl (fun _ => rfl) (fun _ => rfl) rfl (by decide) (by decide) (by decide +kernel) (fun _ d h => by cases h)
                                 (ρ' := fun γ => [(5, ov (PTR gb_5 0)), (7, ov (PTR gb_7 0)), (9, ov (PTR gb_41 0)), (13, ov (S (rI .i64) x_73)), (14, ov (S (rI .i64) x_74)), (162, ov (S rB true))])
                                 (X' := fun γ => [cvar gb_5 (rP (rW (MPV go_6)) (rP (rI .i64) (rP (rI .i64) r0))) ((), ((4 : Int), (lost_34, ()))), cmap go_6 (A r_net_pair) (S (rL (rL (rU UInt8)))) (some (x_44)), cvar gb_7 (rP (rW (HDR go_37 0 (List.length L_35) gc_38)) (rP (rI .i64) (rP (rI .i64) r0))) ((), ((4 : Int), (Lost_36, ()))), cown go_37 r_api_Flight L_35 0 gc_38, cvar gb_41 r_api_Flight v_39])
                                 (fun γ ρ hb hd => (.cons (hb 5 _ rfl (by decide)) (.cons (hb 7 _ rfl (by decide)) (.cons (hb 9 _ rfl (by decide)) (.cons (hb 13 _ rfl (by decide)) (.cons (hb 14 _ rfl (by decide)) (.cons (hdq hd 36 162 rfl) .nil))))))) (fun _ => rfl) (fun γ => ?_)
                             refine JQ.at ⟨[(5, ov (PTR gb_5 0)), (7, ov (PTR gb_7 0)), (9, ov (PTR gb_41 0)), (13, ov (S (rI .i64) x_73)), (14, ov (S (rI .i64) x_74)), (162, ov (S rB true))], [cvar gb_5 (rP (rW (MPV go_6)) (rP (rI .i64) (rP (rI .i64) r0))) ((), ((4 : Int), (lost_34, ()))), cmap go_6 (A r_net_pair) (S (rL (rL (rU UInt8)))) (some (x_44)), cvar gb_7 (rP (rW (HDR go_37 0 (List.length L_35) gc_38)) (rP (rI .i64) (rP (rI .i64) r0))) ((), ((4 : Int), (Lost_36, ()))), cown go_37 r_api_Flight L_35 0 gc_38, cvar gb_41 r_api_Flight v_39], []⟩ ?_
                             replace hx42 := Option.some.inj hx42
                             first | subst hx42 | clear hx42
                             exact JQ.join () (Imp.norm (js := [0, 0, 0, 0, 0]) rfl (.cons rfl (.cons rfl (.cons rfl (.cons rfl (.cons rfl (.cons rfl .nil)))))))
                           · replace hx42 := bnd_inv hx42
                             obtain ⟨i_79, hv_i_79, hx42⟩ := hx42
                             replace hx42 := bnd_inv hx42
                             obtain ⟨u_80, hv_u_80, hx42⟩ := hx42
                             replace hx42 := lt1_inv hx42
                             obtain ⟨v_81, hv_v_81, hx42⟩ := hx42
                             replace hx42 := iteB_inv hx42
                             rcases hx42 with ⟨hc46, hx42⟩ | ⟨hc46, hx42⟩
                             · replace hx42 := bnd_inv hx42
                               obtain ⟨i_82, hv_i_82, hx42⟩ := hx42
                               replace hx42 := bnd_inv hx42
                               obtain ⟨u_83, hv_u_83, hx42⟩ := hx42
                               replace hx42 := lt1_inv hx42
                               obtain ⟨v_84, hv_v_84, hx42⟩ := hx42
                               refine JC.anyE (kl := []) (kk := 0) (base := [(5, ov (PTR gb_5 0)), (7, ov (PTR gb_7 0)), (9, ov (PTR gb_41 0)), (13, ov (S (rI .i64) x_73)), (14, ov (S (rI .i64) x_74))])
                                   (fs := fun γ => [⟨some 126, ov (PTR gb_7 0)⟩, ⟨some 127, ov (PTR gb_7 0)⟩, ⟨some 128, ov (PTR gb_7 (0 + 0))⟩, ⟨some 129, ov (HDR go_37 0 (List.length L_35) gc_38)⟩, ⟨some 130, ov (S (rI .i64) x_74)⟩, ⟨some 131, ov (EPT go_37 (i_76 * 3))⟩, ⟨some 132, ov (EPT go_37 ((i_76 * 3) + 0))⟩, ⟨some 133, ov (S (rI .i64) u_77.From)⟩, ⟨some 134, ov (PTR gb_41 (0 + 0))⟩, ⟨some 135, ov (S (rI .i64) v_39.From)⟩, ⟨some 136, ov (S rB v_78)⟩, ⟨some 137, ov (S rB v_78)⟩, ⟨some 138, ov (PTR gb_7 0)⟩, ⟨some 139, ov (PTR gb_7 0)⟩, ⟨some 140, ov (PTR gb_7 (0 + 0))⟩, ⟨some 141, ov (HDR go_37 0 (List.length L_35) gc_38)⟩, ⟨some 142, ov (S (rI .i64) x_74)⟩, ⟨some 143, ov (EPT go_37 (i_79 * 3))⟩, ⟨some 144, ov (EPT go_37 ((i_79 * 3) + 0))⟩, ⟨some 145, ov (S (rI .i64) u_80.From)⟩, ⟨some 146, ov (PTR gb_41 (0 + 0))⟩, ⟨some 147, ov (S (rI .i64) v_39.From)⟩, ⟨some 148, ov (S rB v_81)⟩, ⟨some 149, ov (S rB v_81)⟩, ⟨some 150, ov (PTR gb_7 0)⟩, ⟨some 151, ov (PTR gb_7 0)⟩, ⟨some 152, ov (PTR gb_7 (0 + 0))⟩, ⟨some 153, ov (HDR go_37 0 (List.length L_35) gc_38)⟩, ⟨some 154, ov (S (rI .i64) x_74)⟩, ⟨some 155, ov (EPT go_37 (i_82 * 3))⟩, ⟨some 156, ov (EPT go_37 ((i_82 * 3) + 1))⟩, ⟨some 157, ov (S (rI .i64) u_83.To)⟩, ⟨some 158, ov (PTR gb_41 (0 + 1))⟩, ⟨some 159, ov (S (rI .i64) v_39.To)⟩, ⟨some 160, ov (S rB v_84)⟩, ⟨some 161, ov (S rB v_84)⟩, ⟨some 162, ov (S rB v_84)⟩])
                                   (rs := fun γ => [⟨cvar gb_5 (rP (rW (MPV go_6)) (rP (rI .i64) (rP (rI .i64) r0))) ((), ((4 : Int), (lost_34, ()))), none, none, []⟩, ⟨cmap go_6 (A r_net_pair) (S (rL (rL (rU UInt8)))) (some (x_44)), none, none, []⟩, ⟨cvar gb_7 (rP (rW (HDR go_37 0 (List.length L_35) gc_38)) (rP (rI .i64) (rP (rI .i64) r0))) ((), ((4 : Int), (Lost_36, ()))), none, none, [3, 15, 27]⟩, ⟨cown go_37 r_api_Flight L_35 0 gc_38, none, none, [5, 7, 17, 19, 29, 31]⟩, ⟨cvar gb_41 r_api_Flight v_39, none, none, [9, 21, 33]⟩])
                                   (ds := [126, 127, 128, 129, 130, 131, 132, 133, 134, 135, 136, 137, 138, 139, 140, 141, 142, 143, 144, 145, 146, 147, 148, 149, 150, 151, 152, 153, 154, 155, 156, 157, 158, 159, 160, 161, 162]) (bs := [5, 7, 9, 13, 14]) (afts := [[], [], [], [], [], [], [], [], [], [], [], [], [], [], [], [], [], [], [], [], [], [], [], [], [], [], [], [], [], [], [], [], [], [], [], [], []]) (js := [0, 0, 0, 0, 0]) mixed (.cons rfl (.cons rfl (.cons rfl (.cons rfl (.cons rfl .nil))))) (fun _ => rfl)
                                   (by
      refine dS 1 (fun γ ρ B hb hd => op_move lb (.tmp (hb 7 _ rfl))) ?_
      refine dS 2 (fun γ ρ B hb hd => op_nilCheck lb (.tmp (hl hd 0 126 rfl)) (fun e v h => by subst h; rfl)) ?_
      refine dS 3 (fun γ ρ B hb hd => op_fieldAddr (off := 0) lb tf43_0 (.tmp (hl hd 1 127 rfl))) ?_
      refine DSteps.cons (j := 4) rfl (fun _ => rfl) (.run (fun γ ρ B hb hd => ⟨.none, OpStep.at ⟨ρ, (cvar gb_7 (rP (rW (HDR go_37 0 (List.length L_35) gc_38)) (rP (rI .i64) (rP (rI .i64) r0))) ((), ((4 : Int), (Lost_36, ())))) :: B, _⟩ (setO ⟨ρ, (cvar gb_7 (rP (rW (HDR go_37 0 (List.length L_35) gc_38)) (rP (rI .i64) (rP (rI .i64) r0))) ((), ((4 : Int), (Lost_36, ())))) :: B, _⟩ _ _) (op_loadW (j := 0) lb tS30 (.tmp (hl hd 2 128 rfl)) rfl (Comp.trans (Comp.self (rP (rW (HDR go_37 0 (List.length L_35) gc_38)) (rP (rI .i64) (rP (rI .i64) r0))) ((), ((4 : Int), (Lost_36, ())))) (Comp.at' (Comp.inF (Comp.self (rW (HDR go_37 0 (List.length L_35) gc_38)) ()) (Nat.le_of_ble_eq_true rfl)) (by rfl : _ = 0)) (Nat.le_of_ble_eq_true rfl)))⟩)) ?_
      refine dS 5 (fun γ ρ B hb hd => op_move lb (.tmp (hb 14 _ rfl))) ?_
      refine DSteps.cons (j := 6) rfl (fun _ => rfl) (.run (fun γ ρ B hb hd => ⟨.none, OpStep.at ⟨ρ, (cown go_37 r_api_Flight L_35 0 gc_38) :: B, _⟩ (setO ⟨ρ, (cown go_37 r_api_Flight L_35 0 gc_38) :: B, _⟩ _ _) (op_indexAddrOF (r := r_api_Flight) (j := 0) lb tu30 tz36 rfl (.tmp (hl hd 3 129 rfl)) (.tmp (hl hd 4 130 rfl)) hv_i_76)⟩)) ?_
      refine dS 7 (fun γ ρ B hb hd => op_fieldAddrE (off := 0) lb tf36_0 (.tmp (hl hd 5 131 rfl))) ?_
      refine DSteps.cons (j := 8) rfl (fun _ => rfl) (.run (fun γ ρ B hb hd => ⟨.none, OpStep.at ⟨ρ, (cown go_37 r_api_Flight L_35 0 gc_38) :: B, _⟩ (setO ⟨ρ, (cown go_37 r_api_Flight L_35 0 gc_38) :: B, _⟩ _ _) (op_loadOS (r := r_api_Flight) (i := i_76) (off := 0) (j := 0) lb tS3 rfl rfl (.tmp (hl hd 6 132 rfl)) hv_u_77 (Comp.at' (Comp.trans (Comp.self r_api_Flight u_77) (comp_api_Flight_From u_77) (Nat.le_of_ble_eq_true rfl)) rfl) (by decide))⟩)) ?_
      refine dS 9 (fun γ ρ B hb hd => op_fieldAddr (off := 0) lb tf36_0 (.tmp (hb 9 _ rfl))) ?_
      refine DSteps.cons (j := 10) rfl (fun _ => rfl) (.run (fun γ ρ B hb hd => ⟨.none, OpStep.at ⟨ρ, (cvar gb_41 r_api_Flight v_39) :: B, _⟩ (setO ⟨ρ, (cvar gb_41 r_api_Flight v_39) :: B, _⟩ _ _) (op_loadS (j := 0) lb tS3 (.tmp (hl hd 8 134 rfl)) rfl (Comp.trans (Comp.self r_api_Flight v_39) (comp_api_Flight_From v_39) (Nat.le_of_ble_eq_true rfl)) rfl rfl)⟩)) ?_
      refine dS 11 (fun γ ρ B hb hd => op_cmpI lb (.tmp (hl hd 7 133 rfl)) (.tmp (hl hd 9 135 rfl)) (congrArg some hv_v_78)) ?_
      refine dS 12 (fun γ ρ B hb hd => op_move lb (.tmp (hl hd 10 136 rfl))) ?_
      refine DSteps.cons (j := 13) rfl (fun _ => rfl) (.run (fun γ ρ B hb hd => ⟨.yes rfl (ltB rfl) (hl hd 11 137 rfl) hc44, OpStep.at ⟨ρ, B, _⟩ (setO ⟨ρ, B, _⟩ _ _) (op_move lb (.tmp (hb 7 _ rfl)))⟩)) ?_
      refine DSteps.cons (j := 14) rfl (fun _ => rfl) (.run (fun γ ρ B hb hd => ⟨.yes rfl (ltB rfl) (hl hd 11 137 rfl) hc44, OpStep.at ⟨ρ, B, _⟩ (setO ⟨ρ, B, _⟩ _ _) (op_nilCheck lb (.tmp (hl hd 12 138 rfl)) (fun e v h => by subst h; rfl))⟩)) ?_
      refine DSteps.cons (j := 15) rfl (fun _ => rfl) (.run (fun γ ρ B hb hd => ⟨.yes rfl (ltB rfl) (hl hd 11 137 rfl) hc44, OpStep.at ⟨ρ, B, _⟩ (setO ⟨ρ, B, _⟩ _ _) (op_fieldAddr (off := 0) lb tf43_0 (.tmp (hl hd 13 139 rfl)))⟩)) ?_
      refine DSteps.cons (j := 16) rfl (fun _ => rfl) (.run (fun γ ρ B hb hd => ⟨.yes rfl (ltB rfl) (hl hd 11 137 rfl) hc44, OpStep.at ⟨ρ, (cvar gb_7 (rP (rW (HDR go_37 0 (List.length L_35) gc_38)) (rP (rI .i64) (rP (rI .i64) r0))) ((), ((4 : Int), (Lost_36, ())))) :: B, _⟩ (setO ⟨ρ, (cvar gb_7 (rP (rW (HDR go_37 0 (List.length L_35) gc_38)) (rP (rI .i64) (rP (rI .i64) r0))) ((), ((4 : Int), (Lost_36, ())))) :: B, _⟩ _ _) (op_loadW (j := 0) lb tS30 (.tmp (hl hd 14 140 rfl)) rfl (Comp.trans (Comp.self (rP (rW (HDR go_37 0 (List.length L_35) gc_38)) (rP (rI .i64) (rP (rI .i64) r0))) ((), ((4 : Int), (Lost_36, ())))) (Comp.at' (Comp.inF (Comp.self (rW (HDR go_37 0 (List.length L_35) gc_38)) ()) (Nat.le_of_ble_eq_true rfl)) (by rfl : _ = 0)) (Nat.le_of_ble_eq_true rfl)))⟩)) ?_
      refine DSteps.cons (j := 17) rfl (fun _ => rfl) (.run (fun γ ρ B hb hd => ⟨.yes rfl (ltB rfl) (hl hd 11 137 rfl) hc44, OpStep.at ⟨ρ, B, _⟩ (setO ⟨ρ, B, _⟩ _ _) (op_move lb (.tmp (hb 14 _ rfl)))⟩)) ?_
      refine DSteps.cons (j := 18) rfl (fun _ => rfl) (.run (fun γ ρ B hb hd => ⟨.yes rfl (ltB rfl) (hl hd 11 137 rfl) hc44, OpStep.at ⟨ρ, (cown go_37 r_api_Flight L_35 0 gc_38) :: B, _⟩ (setO ⟨ρ, (cown go_37 r_api_Flight L_35 0 gc_38) :: B, _⟩ _ _) (op_indexAddrOF (r := r_api_Flight) (j := 0) lb tu30 tz36 rfl (.tmp (hl hd 15 141 rfl)) (.tmp (hl hd 16 142 rfl)) hv_i_79)⟩)) ?_
      refine DSteps.cons (j := 19) rfl (fun _ => rfl) (.run (fun γ ρ B hb hd => ⟨.yes rfl (ltB rfl) (hl hd 11 137 rfl) hc44, OpStep.at ⟨ρ, B, _⟩ (setO ⟨ρ, B, _⟩ _ _) (op_fieldAddrE (off := 0) lb tf36_0 (.tmp (hl hd 17 143 rfl)))⟩)) ?_
      refine DSteps.cons (j := 20) rfl (fun _ => rfl) (.run (fun γ ρ B hb hd => ⟨.yes rfl (ltB rfl) (hl hd 11 137 rfl) hc44, OpStep.at ⟨ρ, (cown go_37 r_api_Flight L_35 0 gc_38) :: B, _⟩ (setO ⟨ρ, (cown go_37 r_api_Flight L_35 0 gc_38) :: B, _⟩ _ _) (op_loadOS (r := r_api_Flight) (i := i_79) (off := 0) (j := 0) lb tS3 rfl rfl (.tmp (hl hd 18 144 rfl)) hv_u_80 (Comp.at' (Comp.trans (Comp.self r_api_Flight u_80) (comp_api_Flight_From u_80) (Nat.le_of_ble_eq_true rfl)) rfl) (by decide))⟩)) ?_
      refine DSteps.cons (j := 21) rfl (fun _ => rfl) (.run (fun γ ρ B hb hd => ⟨.yes rfl (ltB rfl) (hl hd 11 137 rfl) hc44, OpStep.at ⟨ρ, B, _⟩ (setO ⟨ρ, B, _⟩ _ _) (op_fieldAddr (off := 0) lb tf36_0 (.tmp (hb 9 _ rfl)))⟩)) ?_
      refine DSteps.cons (j := 22) rfl (fun _ => rfl) (.run (fun γ ρ B hb hd => ⟨.yes rfl (ltB rfl) (hl hd 11 137 rfl) hc44, OpStep.at ⟨ρ, (cvar gb_41 r_api_Flight v_39) :: B, _⟩ (setO ⟨ρ, (cvar gb_41 r_api_Flight v_39) :: B, _⟩ _ _) (op_loadS (j := 0) lb tS3 (.tmp (hl hd 20 146 rfl)) rfl (Comp.trans (Comp.self r_api_Flight v_39) (comp_api_Flight_From v_39) (Nat.le_of_ble_eq_true rfl)) rfl rfl)⟩)) ?_
      refine DSteps.cons (j := 23) rfl (fun _ => rfl) (.run (fun γ ρ B hb hd => ⟨.yes rfl (ltB rfl) (hl hd 11 137 rfl) hc44, OpStep.at ⟨ρ, B, _⟩ (setO ⟨ρ, B, _⟩ _ _) (op_cmpI lb (.tmp (hl hd 19 145 rfl)) (.tmp (hl hd 21 147 rfl)) (congrArg some hv_v_81))⟩)) ?_
      refine DSteps.cons (j := 24) rfl (fun _ => rfl) (.run (fun γ ρ B hb hd => ⟨.yes rfl (ltB rfl) (hl hd 11 137 rfl) hc44, OpStep.at ⟨ρ, B, _⟩ (setO ⟨ρ, B, _⟩ _ _) (op_move lb (.tmp (hl hd 22 148 rfl)))⟩)) ?_
      refine DSteps.cons (j := 25) rfl (fun _ => rfl) (.run (fun γ ρ B hb hd => ⟨.yes rfl (ltB rfl) (hl hd 23 149 rfl) hc46, OpStep.at ⟨ρ, B, _⟩ (setO ⟨ρ, B, _⟩ _ _) (op_move lb (.tmp (hb 7 _ rfl)))⟩)) ?_
      refine DSteps.cons (j := 26) rfl (fun _ => rfl) (.run (fun γ ρ B hb hd => ⟨.yes rfl (ltB rfl) (hl hd 23 149 rfl) hc46, OpStep.at ⟨ρ, B, _⟩ (setO ⟨ρ, B, _⟩ _ _) (op_nilCheck lb (.tmp (hl hd 24 150 rfl)) (fun e v h => by subst h; rfl))⟩)) ?_
      refine DSteps.cons (j := 27) rfl (fun _ => rfl) (.run (fun γ ρ B hb hd => ⟨.yes rfl (ltB rfl) (hl hd 23 149 rfl) hc46, OpStep.at ⟨ρ, B, _⟩ (setO ⟨ρ, B, _⟩ _ _) (op_fieldAddr (off := 0) lb tf43_0 (.tmp (hl hd 25 151 rfl)))⟩)) ?_
      refine DSteps.cons (j := 28) rfl (fun _ => rfl) (.run (fun γ ρ B hb hd => ⟨.yes rfl (ltB rfl) (hl hd 23 149 rfl) hc46, OpStep.at ⟨ρ, (cvar gb_7 (rP (rW (HDR go_37 0 (List.length L_35) gc_38)) (rP (rI .i64) (rP (rI .i64) r0))) ((), ((4 : Int), (Lost_36, ())))) :: B, _⟩ (setO ⟨ρ, (cvar gb_7 (rP (rW (HDR go_37 0 (List.length L_35) gc_38)) (rP (rI .i64) (rP (rI .i64) r0))) ((), ((4 : Int), (Lost_36, ())))) :: B, _⟩ _ _) (op_loadW (j := 0) lb tS30 (.tmp (hl hd 26 152 rfl)) rfl (Comp.trans (Comp.self (rP (rW (HDR go_37 0 (List.length L_35) gc_38)) (rP (rI .i64) (rP (rI .i64) r0))) ((), ((4 : Int), (Lost_36, ())))) (Comp.at' (Comp.inF (Comp.self (rW (HDR go_37 0 (List.length L_35) gc_38)) ()) (Nat.le_of_ble_eq_true rfl)) (by rfl : _ = 0)) (Nat.le_of_ble_eq_true rfl)))⟩)) ?_
      refine DSteps.cons (j := 29) rfl (fun _ => rfl) (.run (fun γ ρ B hb hd => ⟨.yes rfl (ltB rfl) (hl hd 23 149 rfl) hc46, OpStep.at ⟨ρ, B, _⟩ (setO ⟨ρ, B, _⟩ _ _) (op_move lb (.tmp (hb 14 _ rfl)))⟩)) ?_
      refine DSteps.cons (j := 30) rfl (fun _ => rfl) (.run (fun γ ρ B hb hd => ⟨.yes rfl (ltB rfl) (hl hd 23 149 rfl) hc46, OpStep.at ⟨ρ, (cown go_37 r_api_Flight L_35 0 gc_38) :: B, _⟩ (setO ⟨ρ, (cown go_37 r_api_Flight L_35 0 gc_38) :: B, _⟩ _ _) (op_indexAddrOF (r := r_api_Flight) (j := 0) lb tu30 tz36 rfl (.tmp (hl hd 27 153 rfl)) (.tmp (hl hd 28 154 rfl)) hv_i_82)⟩)) ?_
      refine DSteps.cons (j := 31) rfl (fun _ => rfl) (.run (fun γ ρ B hb hd => ⟨.yes rfl (ltB rfl) (hl hd 23 149 rfl) hc46, OpStep.at ⟨ρ, B, _⟩ (setO ⟨ρ, B, _⟩ _ _) (op_fieldAddrE (off := 1) lb tf36_1 (.tmp (hl hd 29 155 rfl)))⟩)) ?_
      refine DSteps.cons (j := 32) rfl (fun _ => rfl) (.run (fun γ ρ B hb hd => ⟨.yes rfl (ltB rfl) (hl hd 23 149 rfl) hc46, OpStep.at ⟨ρ, (cown go_37 r_api_Flight L_35 0 gc_38) :: B, _⟩ (setO ⟨ρ, (cown go_37 r_api_Flight L_35 0 gc_38) :: B, _⟩ _ _) (op_loadOS (r := r_api_Flight) (i := i_82) (off := 1) (j := 0) lb tS3 rfl rfl (.tmp (hl hd 30 156 rfl)) hv_u_83 (Comp.at' (Comp.trans (Comp.self r_api_Flight u_83) (comp_api_Flight_To u_83) (Nat.le_of_ble_eq_true rfl)) rfl) (by decide))⟩)) ?_
      refine DSteps.cons (j := 33) rfl (fun _ => rfl) (.run (fun γ ρ B hb hd => ⟨.yes rfl (ltB rfl) (hl hd 23 149 rfl) hc46, OpStep.at ⟨ρ, B, _⟩ (setO ⟨ρ, B, _⟩ _ _) (op_fieldAddr (off := 1) lb tf36_1 (.tmp (hb 9 _ rfl)))⟩)) ?_
      refine DSteps.cons (j := 34) rfl (fun _ => rfl) (.run (fun γ ρ B hb hd => ⟨.yes rfl (ltB rfl) (hl hd 23 149 rfl) hc46, OpStep.at ⟨ρ, (cvar gb_41 r_api_Flight v_39) :: B, _⟩ (setO ⟨ρ, (cvar gb_41 r_api_Flight v_39) :: B, _⟩ _ _) (op_loadS (j := 0) lb tS3 (.tmp (hl hd 32 158 rfl)) rfl (Comp.trans (Comp.self r_api_Flight v_39) (comp_api_Flight_To v_39) (Nat.le_of_ble_eq_true rfl)) rfl rfl)⟩)) ?_
      refine DSteps.cons (j := 35) rfl (fun _ => rfl) (.run (fun γ ρ B hb hd => ⟨.yes rfl (ltB rfl) (hl hd 23 149 rfl) hc46, OpStep.at ⟨ρ, B, _⟩ (setO ⟨ρ, B, _⟩ _ _) (op_cmpI lb (.tmp (hl hd 31 157 rfl)) (.tmp (hl hd 33 159 rfl)) (congrArg some hv_v_84))⟩)) ?_
      refine DSteps.cons (j := 36) rfl (fun _ => rfl) (.run (fun γ ρ B hb hd => ⟨.yes rfl (ltB rfl) (hl hd 11 137 rfl) hc44, OpStep.at ⟨ρ, B, _⟩ (setO ⟨ρ, B, _⟩ _ _) (op_pickT lb (.tmp (hl hd 23 149 rfl)) hc46 (.tmp (hl hd 34 160 rfl)))⟩)) ?_
      refine dS 37 (fun γ ρ B hb hd => op_pickF lb (.tmp (hl hd 11 137 rfl)) hc44 (.tmp (hl hd 35 161 rfl))) ?_
      exact DSteps.nil)
                                   (by decide +kernel) (fun _ => rfl) rfl (fun _ => rfl) (fun _ => rfl) rfl (by decide) (by decide) (by decide +kernel) (fun _ d h => by cases h)
                                   (ρ' := fun γ => [(5, ov (PTR gb_5 0)), (7, ov (PTR gb_7 0)), (9, ov (PTR gb_41 0)), (13, ov (S (rI .i64) x_73)), (14, ov (S (rI .i64) x_74)), (162, ov (S rB v_84))])
                                   (X' := fun γ => [cvar gb_5 (rP (rW (MPV go_6)) (rP (rI .i64) (rP (rI .i64) r0))) ((), ((4 : Int), (lost_34, ()))), cmap go_6 (A r_net_pair) (S (rL (rL (rU UInt8)))) (some (x_44)), cvar gb_7 (rP (rW (HDR go_37 0 (List.length L_35) gc_38)) (rP (rI .i64) (rP (rI .i64) r0))) ((), ((4 : Int), (Lost_36, ()))), cown go_37 r_api_Flight L_35 0 gc_38, cvar gb_41 r_api_Flight v_39])
                                   (fun γ ρ hb hd => (.cons (hb 5 _ rfl (by decide)) (.cons (hb 7 _ rfl (by decide)) (.cons (hb 9 _ rfl (by decide)) (.cons (hb 13 _ rfl (by decide)) (.cons (hb 14 _ rfl (by decide)) (.cons (hdq hd 36 162 rfl) .nil))))))) (fun _ => rfl) (fun γ => ?_)
                               refine JQ.at ⟨[(5, ov (PTR gb_5 0)), (7, ov (PTR gb_7 0)), (9, ov (PTR gb_41 0)), (13, ov (S (rI .i64) x_73)), (14, ov (S (rI .i64) x_74)), (162, ov (S rB v_84))], [cvar gb_5 (rP (rW (MPV go_6)) (rP (rI .i64) (rP (rI .i64) r0))) ((), ((4 : Int), (lost_34, ()))), cmap go_6 (A r_net_pair) (S (rL (rL (rU UInt8)))) (some (x_44)), cvar gb_7 (rP (rW (HDR go_37 0 (List.length L_35) gc_38)) (rP (rI .i64) (rP (rI .i64) r0))) ((), ((4 : Int), (Lost_36, ()))), cown go_37 r_api_Flight L_35 0 gc_38, cvar gb_41 r_api_Flight v_39], []⟩ ?_
                               replace hx42 := Option.some.inj hx42
                               first | subst hx42 | clear hx42
                               exact JQ.join () (Imp.norm (js := [0, 0, 0, 0, 0]) rfl (.cons rfl (.cons rfl (.cons rfl (.cons rfl (.cons rfl (.cons rfl .nil)))))))
                             · refine JC.anyE (kl := []) (kk := 0) (base := [(5, ov (PTR gb_5 0)), (7, ov (PTR gb_7 0)), (9, ov (PTR gb_41 0)), (13, ov (S (rI .i64) x_73)), (14, ov (S (rI .i64) x_74))])
                                   (fs := fun γ => [⟨some 126, ov (PTR gb_7 0)⟩, ⟨some 127, ov (PTR gb_7 0)⟩, ⟨some 128, ov (PTR gb_7 (0 + 0))⟩, ⟨some 129, ov (HDR go_37 0 (List.length L_35) gc_38)⟩, ⟨some 130, ov (S (rI .i64) x_74)⟩, ⟨some 131, ov (EPT go_37 (i_76 * 3))⟩, ⟨some 132, ov (EPT go_37 ((i_76 * 3) + 0))⟩, ⟨some 133, ov (S (rI .i64) u_77.From)⟩, ⟨some 134, ov (PTR gb_41 (0 + 0))⟩, ⟨some 135, ov (S (rI .i64) v_39.From)⟩, ⟨some 136, ov (S rB v_78)⟩, ⟨some 137, ov (S rB v_78)⟩, ⟨some 138, ov (PTR gb_7 0)⟩, ⟨some 139, ov (PTR gb_7 0)⟩, ⟨some 140, ov (PTR gb_7 (0 + 0))⟩, ⟨some 141, ov (HDR go_37 0 (List.length L_35) gc_38)⟩, ⟨some 142, ov (S (rI .i64) x_74)⟩, ⟨some 143, ov (EPT go_37 (i_79 * 3))⟩, ⟨some 144, ov (EPT go_37 ((i_79 * 3) + 0))⟩, ⟨some 145, ov (S (rI .i64) u_80.From)⟩, ⟨some 146, ov (PTR gb_41 (0 + 0))⟩, ⟨some 147, ov (S (rI .i64) v_39.From)⟩, ⟨some 148, ov (S rB v_81)⟩, ⟨some 149, ov (S rB v_81)⟩, ⟨some 150, .one .und⟩, ⟨some 151, .one .und⟩, ⟨some 152, .one .und⟩, ⟨some 153, .one .und⟩, ⟨some 154, .one .und⟩, ⟨some 155, .one .und⟩, ⟨some 156, .one .und⟩, ⟨some 157, .one .und⟩, ⟨some 158, .one .und⟩, ⟨some 159, .one .und⟩, ⟨some 160, .one .und⟩, ⟨some 161, ov (S rB false)⟩, ⟨some 162, ov (S rB false)⟩])
                                   (rs := fun γ => [⟨cvar gb_5 (rP (rW (MPV go_6)) (rP (rI .i64) (rP (rI .i64) r0))) ((), ((4 : Int), (lost_34, ()))), none, none, []⟩, ⟨cmap go_6 (A r_net_pair) (S (rL (rL (rU UInt8)))) (some (x_44)), none, none, []⟩, ⟨cvar gb_7 (rP (rW (HDR go_37 0 (List.length L_35) gc_38)) (rP (rI .i64) (rP (rI .i64) r0))) ((), ((4 : Int), (Lost_36, ()))), none, none, [3, 15]⟩, ⟨cown go_37 r_api_Flight L_35 0 gc_38, none, none, [5, 7, 17, 19]⟩, ⟨cvar gb_41 r_api_Flight v_39, none, none, [9, 21]⟩])
                                   (ds := [126, 127, 128, 129, 130, 131, 132, 133, 134, 135, 136, 137, 138, 139, 140, 141, 142, 143, 144, 145, 146, 147, 148, 149, 150, 151, 152, 153, 154, 155, 156, 157, 158, 159, 160, 161, 162]) (bs := [5, 7, 9, 13, 14]) (afts := [[], [], [], [], [], [], [], [], [], [], [], [], [], [], [], [], [], [], [], [], [], [], [], [], [], [], [], [], [], [], [], [], [], [], [], [], []]) (js := [0, 0, 0, 0, 0]) mixed (.cons rfl (.cons rfl (.cons rfl (.cons rfl (.cons rfl .nil))))) (fun _ => rfl)
                                   (by
      refine dS 1 (fun γ ρ B hb hd => op_move lb (.tmp (hb 7 _ rfl))) ?_
      refine dS 2 (fun γ ρ B hb hd => op_nilCheck lb (.tmp (hl hd 0 126 rfl)) (fun e v h => by subst h; rfl)) ?_
      refine dS 3 (fun γ ρ B hb hd => op_fieldAddr (off := 0) lb tf43_0 (.tmp (hl hd 1 127 rfl))) ?_
      refine DSteps.cons (j := 4) rfl (fun _ => rfl) (.run (fun γ ρ B hb hd => ⟨.none, OpStep.at ⟨ρ, (cvar gb_7 (rP (rW (HDR go_37 0 (List.length L_35) gc_38)) (rP (rI .i64) (rP (rI .i64) r0))) ((), ((4 : Int), (Lost_36, ())))) :: B, _⟩ (setO ⟨ρ, (cvar gb_7 (rP (rW (HDR go_37 0 (List.length L_35) gc_38)) (rP (rI .i64) (rP (rI .i64) r0))) ((), ((4 : Int), (Lost_36, ())))) :: B, _⟩ _ _) (op_loadW (j := 0) lb tS30 (.tmp (hl hd 2 128 rfl)) rfl (Comp.trans (Comp.self (rP (rW (HDR go_37 0 (List.length L_35) gc_38)) (rP (rI .i64) (rP (rI .i64) r0))) ((), ((4 : Int), (Lost_36, ())))) (Comp.at' (Comp.inF (Comp.self (rW (HDR go_37 0 (List.length L_35) gc_38)) ()) (Nat.le_of_ble_eq_true rfl)) (by rfl : _ = 0)) (Nat.le_of_ble_eq_true rfl)))⟩)) ?_
      refine dS 5 (fun γ ρ B hb hd => op_move lb (.tmp (hb 14 _ rfl))) ?_
      refine DSteps.cons (j := 6) rfl (fun _ => rfl) (.run (fun γ ρ B hb hd => ⟨.none, OpStep.at ⟨ρ, (cown go_37 r_api_Flight L_35 0 gc_38) :: B, _⟩ (setO ⟨ρ, (cown go_37 r_api_Flight L_35 0 gc_38) :: B, _⟩ _ _) (op_indexAddrOF (r := r_api_Flight) (j := 0) lb tu30 tz36 rfl (.tmp (hl hd 3 129 rfl)) (.tmp (hl hd 4 130 rfl)) hv_i_76)⟩)) ?_
      refine dS 7 (fun γ ρ B hb hd => op_fieldAddrE (off := 0) lb tf36_0 (.tmp (hl hd 5 131 rfl))) ?_
      refine DSteps.cons (j := 8) rfl (fun _ => rfl) (.run (fun γ ρ B hb hd => ⟨.none, OpStep.at ⟨ρ, (cown go_37 r_api_Flight L_35 0 gc_38) :: B, _⟩ (setO ⟨ρ, (cown go_37 r_api_Flight L_35 0 gc_38) :: B, _⟩ _ _) (op_loadOS (r := r_api_Flight) (i := i_76) (off := 0) (j := 0) lb tS3 rfl rfl (.tmp (hl hd 6 132 rfl)) hv_u_77 (Comp.at' (Comp.trans (Comp.self r_api_Flight u_77) (comp_api_Flight_From u_77) (Nat.le_of_ble_eq_true rfl)) rfl) (by decide))⟩)) ?_
      refine dS 9 (fun γ ρ B hb hd => op_fieldAddr (off := 0) lb tf36_0 (.tmp (hb 9 _ rfl))) ?_
      refine DSteps.cons (j := 10) rfl (fun _ => rfl) (.run (fun γ ρ B hb hd => ⟨.none, OpStep.at ⟨ρ, (cvar gb_41 r_api_Flight v_39) :: B, _⟩ (setO ⟨ρ, (cvar gb_41 r_api_Flight v_39) :: B, _⟩ _ _) (op_loadS (j := 0) lb tS3 (.tmp (hl hd 8 134 rfl)) rfl (Comp.trans (Comp.self r_api_Flight v_39) (comp_api_Flight_From v_39) (Nat.le_of_ble_eq_true rfl)) rfl rfl)⟩)) ?_
      refine dS 11 (fun γ ρ B hb hd => op_cmpI lb (.tmp (hl hd 7 133 rfl)) (.tmp (hl hd 9 135 rfl)) (congrArg some hv_v_78)) ?_
      refine dS 12 (fun γ ρ B hb hd => op_move lb (.tmp (hl hd 10 136 rfl))) ?_
      refine DSteps.cons (j := 13) rfl (fun _ => rfl) (.run (fun γ ρ B hb hd => ⟨.yes rfl (ltB rfl) (hl hd 11 137 rfl) hc44, OpStep.at ⟨ρ, B, _⟩ (setO ⟨ρ, B, _⟩ _ _) (op_move lb (.tmp (hb 7 _ rfl)))⟩)) ?_
      refine DSteps.cons (j := 14) rfl (fun _ => rfl) (.run (fun γ ρ B hb hd => ⟨.yes rfl (ltB rfl) (hl hd 11 137 rfl) hc44, OpStep.at ⟨ρ, B, _⟩ (setO ⟨ρ, B, _⟩ _ _) (op_nilCheck lb (.tmp (hl hd 12 138 rfl)) (fun e v h => by subst h; rfl))⟩)) ?_
      refine DSteps.cons (j := 15) rfl (fun _ => rfl) (.run (fun γ ρ B hb hd => ⟨.yes rfl (ltB rfl) (hl hd 11 137 rfl) hc44, OpStep.at ⟨ρ, B, _⟩ (setO ⟨ρ, B, _⟩ _ _) (op_fieldAddr (off := 0) lb tf43_0 (.tmp (hl hd 13 139 rfl)))⟩)) ?_
      refine DSteps.cons (j := 16) rfl (fun _ => rfl) (.run (fun γ ρ B hb hd => ⟨.yes rfl (ltB rfl) (hl hd 11 137 rfl) hc44, OpStep.at ⟨ρ, (cvar gb_7 (rP (rW (HDR go_37 0 (List.length L_35) gc_38)) (rP (rI .i64) (rP (rI .i64) r0))) ((), ((4 : Int), (Lost_36, ())))) :: B, _⟩ (setO ⟨ρ, (cvar gb_7 (rP (rW (HDR go_37 0 (List.length L_35) gc_38)) (rP (rI .i64) (rP (rI .i64) r0))) ((), ((4 : Int), (Lost_36, ())))) :: B, _⟩ _ _) (op_loadW (j := 0) lb tS30 (.tmp (hl hd 14 140 rfl)) rfl (Comp.trans (Comp.self (rP (rW (HDR go_37 0 (List.length L_35) gc_38)) (rP (rI .i64) (rP (rI .i64) r0))) ((), ((4 : Int), (Lost_36, ())))) (Comp.at' (Comp.inF (Comp.self (rW (HDR go_37 0 (List.length L_35) gc_38)) ()) (Nat.le_of_ble_eq_true rfl)) (by rfl : _ = 0)) (Nat.le_of_ble_eq_true rfl)))⟩)) ?_
      refine DSteps.cons (j := 17) rfl (fun _ => rfl) (.run (fun γ ρ B hb hd => ⟨.yes rfl (ltB rfl) (hl hd 11 137 rfl) hc44, OpStep.at ⟨ρ, B, _⟩ (setO ⟨ρ, B, _⟩ _ _) (op_move lb (.tmp (hb 14 _ rfl)))⟩)) ?_
      refine DSteps.cons (j := 18) rfl (fun _ => rfl) (.run (fun γ ρ B hb hd => ⟨.yes rfl (ltB rfl) (hl hd 11 137 rfl) hc44, OpStep.at ⟨ρ, (cown go_37 r_api_Flight L_35 0 gc_38) :: B, _⟩ (setO ⟨ρ, (cown go_37 r_api_Flight L_35 0 gc_38) :: B, _⟩ _ _) (op_indexAddrOF (r := r_api_Flight) (j := 0) lb tu30 tz36 rfl (.tmp (hl hd 15 141 rfl)) (.tmp (hl hd 16 142 rfl)) hv_i_79)⟩)) ?_
      refine DSteps.cons (j := 19) rfl (fun _ => rfl) (.run (fun γ ρ B hb hd => ⟨.yes rfl (ltB rfl) (hl hd 11 137 rfl) hc44, OpStep.at ⟨ρ, B, _⟩ (setO ⟨ρ, B, _⟩ _ _) (op_fieldAddrE (off := 0) lb tf36_0 (.tmp (hl hd 17 143 rfl)))⟩)) ?_
      refine DSteps.cons (j := 20) rfl (fun _ => rfl) (.run (fun γ ρ B hb hd => ⟨.yes rfl (ltB rfl) (hl hd 11 137 rfl) hc44, OpStep.at ⟨ρ, (cown go_37 r_api_Flight L_35 0 gc_38) :: B, _⟩ (setO ⟨ρ, (cown go_37 r_api_Flight L_35 0 gc_38) :: B, _⟩ _ _) (op_loadOS (r := r_api_Flight) (i := i_79) (off := 0) (j := 0) lb tS3 rfl rfl (.tmp (hl hd 18 144 rfl)) hv_u_80 (Comp.at' (Comp.trans (Comp.self r_api_Flight u_80) (comp_api_Flight_From u_80) (Nat.le_of_ble_eq_true rfl)) rfl) (by decide))⟩)) ?_
      refine DSteps.cons (j := 21) rfl (fun _ => rfl) (.run (fun γ ρ B hb hd => ⟨.yes rfl (ltB rfl) (hl hd 11 137 rfl) hc44, OpStep.at ⟨ρ, B, _⟩ (setO ⟨ρ, B, _⟩ _ _) (op_fieldAddr (off := 0) lb tf36_0 (.tmp (hb 9 _ rfl)))⟩)) ?_
      refine DSteps.cons (j := 22) rfl (fun _ => rfl) (.run (fun γ ρ B hb hd => ⟨.yes rfl (ltB rfl) (hl hd 11 137 rfl) hc44, OpStep.at ⟨ρ, (cvar gb_41 r_api_Flight v_39) :: B, _⟩ (setO ⟨ρ, (cvar gb_41 r_api_Flight v_39) :: B, _⟩ _ _) (op_loadS (j := 0) lb tS3 (.tmp (hl hd 20 146 rfl)) rfl (Comp.trans (Comp.self r_api_Flight v_39) (comp_api_Flight_From v_39) (Nat.le_of_ble_eq_true rfl)) rfl rfl)⟩)) ?_
      refine DSteps.cons (j := 23) rfl (fun _ => rfl) (.run (fun γ ρ B hb hd => ⟨.yes rfl (ltB rfl) (hl hd 11 137 rfl) hc44, OpStep.at ⟨ρ, B, _⟩ (setO ⟨ρ, B, _⟩ _ _) (op_cmpI lb (.tmp (hl hd 19 145 rfl)) (.tmp (hl hd 21 147 rfl)) (congrArg some hv_v_81))⟩)) ?_
      refine DSteps.cons (j := 24) rfl (fun _ => rfl) (.run (fun γ ρ B hb hd => ⟨.yes rfl (ltB rfl) (hl hd 11 137 rfl) hc44, OpStep.at ⟨ρ, B, _⟩ (setO ⟨ρ, B, _⟩ _ _) (op_move lb (.tmp (hl hd 22 148 rfl)))⟩)) ?_
      refine DSteps.cons (j := 25) rfl (fun _ => rfl) (.skip (fun γ ρ B hb hd => ⟨.no rfl (ltB rfl) (hl hd 23 149 rfl) hc46, rfl, rfl, rfl, fun d h => by cases h; exact ltB rfl⟩)) ?_
      refine DSteps.cons (j := 26) rfl (fun _ => rfl) (.skip (fun γ ρ B hb hd => ⟨.no rfl (ltB rfl) (hl hd 23 149 rfl) hc46, rfl, rfl, rfl, fun d h => by cases h; exact ltB rfl⟩)) ?_
      refine DSteps.cons (j := 27) rfl (fun _ => rfl) (.skip (fun γ ρ B hb hd => ⟨.no rfl (ltB rfl) (hl hd 23 149 rfl) hc46, rfl, rfl, rfl, fun d h => by cases h; exact ltB rfl⟩)) ?_
      refine DSteps.cons (j := 28) rfl (fun _ => rfl) (.skip (fun γ ρ B hb hd => ⟨.no rfl (ltB rfl) (hl hd 23 149 rfl) hc46, rfl, rfl, rfl, fun d h => by cases h; exact ltB rfl⟩)) ?_
      refine DSteps.cons (j := 29) rfl (fun _ => rfl) (.skip (fun γ ρ B hb hd => ⟨.no rfl (ltB rfl) (hl hd 23 149 rfl) hc46, rfl, rfl, rfl, fun d h => by cases h; exact ltB rfl⟩)) ?_
      refine DSteps.cons (j := 30) rfl (fun _ => rfl) (.skip (fun γ ρ B hb hd => ⟨.no rfl (ltB rfl) (hl hd 23 149 rfl) hc46, rfl, rfl, rfl, fun d h => by cases h; exact ltB rfl⟩)) ?_
      refine DSteps.cons (j := 31) rfl (fun _ => rfl) (.skip (fun γ ρ B hb hd => ⟨.no rfl (ltB rfl) (hl hd 23 149 rfl) hc46, rfl, rfl, rfl, fun d h => by cases h; exact ltB rfl⟩)) ?_
      refine DSteps.cons (j := 32) rfl (fun _ => rfl) (.skip (fun γ ρ B hb hd => ⟨.no rfl (ltB rfl) (hl hd 23 149 rfl) hc46, rfl, rfl, rfl, fun d h => by cases h; exact ltB rfl⟩)) ?_
      refine DSteps.cons (j := 33) rfl (fun _ => rfl) (.skip (fun γ ρ B hb hd => ⟨.no rfl (ltB rfl) (hl hd 23 149 rfl) hc46, rfl, rfl, rfl, fun d h => by cases h; exact ltB rfl⟩)) ?_
      refine DSteps.cons (j := 34) rfl (fun _ => rfl) (.skip (fun γ ρ B hb hd => ⟨.no rfl (ltB rfl) (hl hd 23 149 rfl) hc46, rfl, rfl, rfl, fun d h => by cases h; exact ltB rfl⟩)) ?_
      refine DSteps.cons (j := 35) rfl (fun _ => rfl) (.skip (fun γ ρ B hb hd => ⟨.no rfl (ltB rfl) (hl hd 23 149 rfl) hc46, rfl, rfl, rfl, fun d h => by cases h; exact ltB rfl⟩)) ?_
      refine DSteps.cons (j := 36) rfl (fun _ => rfl) (.run (fun γ ρ B hb hd => ⟨.yes rfl (ltB rfl) (hl hd 11 137 rfl) hc44, OpStep.at ⟨ρ, B, _⟩ (setO ⟨ρ, B, _⟩ _ _) (op_pickF lb (.tmp (hl hd 23 149 rfl)) hc46 .cB)⟩)) ?_
      refine dS 37 (fun γ ρ B hb hd => op_pickF lb (.tmp (hl hd 11 137 rfl)) hc44 (.tmp (hl hd 35 161 rfl))) ?_
      exact DSteps.nil)
                                   (by decide +kernel) (fun _ => rfl) rfl (fun _ => rfl) (fun _ => rfl) rfl (by decide) (by decide) (by decide +kernel) (fun _ d h => by cases h)
                                   (ρ' := fun γ => [(5, ov (PTR gb_5 0)), (7, ov (PTR gb_7 0)), (9, ov (PTR gb_41 0)), (13, ov (S (rI .i64) x_73)), (14, ov (S (rI .i64) x_74)), (162, ov (S rB false))])
                                   (X' := fun γ => [cvar gb_5 (rP (rW (MPV go_6)) (rP (rI .i64) (rP (rI .i64) r0))) ((), ((4 : Int), (lost_34, ()))), cmap go_6 (A r_net_pair) (S (rL (rL (rU UInt8)))) (some (x_44)), cvar gb_7 (rP (rW (HDR go_37 0 (List.length L_35) gc_38)) (rP (rI .i64) (rP (rI .i64) r0))) ((), ((4 : Int), (Lost_36, ()))), cown go_37 r_api_Flight L_35 0 gc_38, cvar gb_41 r_api_Flight v_39])
                                   (fun γ ρ hb hd => (.cons (hb 5 _ rfl (by decide)) (.cons (hb 7 _ rfl (by decide)) (.cons (hb 9 _ rfl (by decide)) (.cons (hb 13 _ rfl (by decide)) (.cons (hb 14 _ rfl (by decide)) (.cons (hdq hd 36 162 rfl) .nil))))))) (fun _ => rfl) (fun γ => ?_)
                               refine JQ.at ⟨[(5, ov (PTR gb_5 0)), (7, ov (PTR gb_7 0)), (9, ov (PTR gb_41 0)), (13, ov (S (rI .i64) x_73)), (14, ov (S (rI .i64) x_74)), (162, ov (S rB false))], [cvar gb_5 (rP (rW (MPV go_6)) (rP (rI .i64) (rP (rI .i64) r0))) ((), ((4 : Int), (lost_34, ()))), cmap go_6 (A r_net_pair) (S (rL (rL (rU UInt8)))) (some (x_44)), cvar gb_7 (rP (rW (HDR go_37 0 (List.length L_35) gc_38)) (rP (rI .i64) (rP (rI .i64) r0))) ((), ((4 : Int), (Lost_36, ()))), cown go_37 r_api_Flight L_35 0 gc_38, cvar gb_41 r_api_Flight v_39], []⟩ ?_
                               replace hx42 := Option.some.inj hx42
                               first | subst hx42 | clear hx42
                               exact JQ.join () (Imp.norm (js := [0, 0, 0, 0, 0]) rfl (.cons rfl (.cons rfl (.cons rfl (.cons rfl (.cons rfl (.cons rfl .nil)))))))
                     · refine JC.condF (.tmp rfl) hc40 ?_
                       refine JC.exit ?_
                       refine JQ.outX ?_
                       replace hx := Option.some.inj hx
                       first | subst hx | clear hx
                       have ht := hr _ rfl
                       have hq39 := congrArg some ht
                       clear hr ht
                       refine JQ.outX ?_
                       refine JQ.here ?_
                       replace hq39 := Option.some.inj hq39
                       first | subst hq39 | clear hq39
                       exact JQ.join () (Imp.norm (js := [0, 0, 0, 0, 0]) rfl (.cons rfl (.cons rfl (.cons rfl (.cons rfl .nil)))))
             · replace hx34 := bnd_inv hx34
               obtain ⟨v_66, hv_v_66, hx34⟩ := hx34
               replace hx34 := lt1_inv hx34
               obtain ⟨v_67, hv_v_67, hx34⟩ := hx34
               replace hx34 := lt1_inv hx34
               obtain ⟨v_68, hv_v_68, hx34⟩ := hx34
               replace hx34 := iteB_inv hx34
               rcases hx34 with ⟨hc36, hx34⟩ | ⟨hc36, hx34⟩
               · refine JC.anyE (kl := []) (kk := 0) (base := [(5, ov (PTR gb_5 0)), (7, ov (PTR gb_7 0)), (9, ov (PTR gb_41 0))])
                     (fs := fun γ => [⟨some 97, ov (PTR gb_5 0)⟩, ⟨some 98, ov (S (rI .i64) v_66)⟩, ⟨some 99, ov (PTR gb_7 0)⟩, ⟨some 100, ov (PTR gb_7 0)⟩, ⟨some 101, ov (PTR gb_7 (0 + 0))⟩, ⟨some 102, ov (HDR go_37 0 (List.length L_35) gc_38)⟩, ⟨some 103, ov (S (rI .i64) (List.length L_35 : Int))⟩, ⟨some 104, ov (S (rI .i64) v_67)⟩, ⟨some 105, ov (S rB v_68)⟩, ⟨some 106, ov (S rB v_68)⟩, ⟨some 107, .one .und⟩, ⟨some 108, .one .und⟩, ⟨some 109, .one .und⟩, ⟨some 110, .one .und⟩, ⟨some 111, .one .und⟩, ⟨some 112, .one .und⟩, ⟨some 113, .one .und⟩, ⟨some 114, .one .und⟩, ⟨some 115, .one .und⟩, ⟨some 116, ov (S rB true)⟩])
                     (rs := fun γ => [⟨cvar gb_5 (rP (rW (MPV go_6)) (rP (rI .i64) (rP (rI .i64) r0))) ((), ((4 : Int), (lost_34, ()))), none, none, [1]⟩, ⟨cmap go_6 (A r_net_pair) (S (rL (rL (rU UInt8)))) (some (x_44)), none, none, [1]⟩, ⟨cvar gb_7 (rP (rW (HDR go_37 0 (List.length L_35) gc_38)) (rP (rI .i64) (rP (rI .i64) r0))) ((), ((4 : Int), (Lost_36, ()))), none, none, [5]⟩, ⟨cown go_37 r_api_Flight L_35 0 gc_38, none, none, []⟩, ⟨cvar gb_41 r_api_Flight v_39, none, none, []⟩])
                     (ds := [97, 98, 99, 100, 101, 102, 103, 104, 105, 106, 107, 108, 109, 110, 111, 112, 113, 114, 115, 116]) (bs := [5, 7, 9]) (afts := [[], [], [], [], [], [], [], [], [], [], [], [], [], [], [], [], [], [], [], []]) (js := [0, 0, 0, 0, 0]) mixed (.cons rfl (.cons rfl (.cons rfl .nil))) (fun _ => rfl)
                     (by
      refine dS 1 (fun γ ρ B hb hd => op_move lb (.tmp (hb 5 _ rfl))) ?_
      refine DSteps.cons (j := 2) rfl (fun _ => rfl) (.run (fun γ ρ B hb hd => ⟨.none, OpStep.at ⟨ρ, (cvar gb_5 (rP (rW (MPV go_6)) (rP (rI .i64) (rP (rI .i64) r0))) ((), ((4 : Int), (lost_34, ())))) :: (cmap go_6 (A r_net_pair) (S (rL (rL (rU UInt8)))) (some (x_44))) :: B, _⟩ (setO ⟨ρ, (cvar gb_5 (rP (rW (MPV go_6)) (rP (rI .i64) (rP (rI .i64) r0))) ((), ((4 : Int), (lost_34, ())))) :: (cmap go_6 (A r_net_pair) (S (rL (rL (rU UInt8)))) (some (x_44))) :: B, _⟩ _ _) ((op_call (js := [0, 0]) ld cl16 (sim_net_Net_Len k (4 : Int) lost_34 (x_44) gb_5 go_6 v_66 hv_v_66) .func (.cons (.tmp (hl hd 0 97 rfl)) .nil) rfl).post (fun _ => Imp.pick (js := [0, 0]) rfl rfl))⟩)) ?_
      refine dS 3 (fun γ ρ B hb hd => op_move lb (.tmp (hb 7 _ rfl))) ?_
      refine dS 4 (fun γ ρ B hb hd => op_nilCheck lb (.tmp (hl hd 2 99 rfl)) (fun e v h => by subst h; rfl)) ?_
      refine dS 5 (fun γ ρ B hb hd => op_fieldAddr (off := 0) lb tf43_0 (.tmp (hl hd 3 100 rfl))) ?_
      refine DSteps.cons (j := 6) rfl (fun _ => rfl) (.run (fun γ ρ B hb hd => ⟨.none, OpStep.at ⟨ρ, (cvar gb_7 (rP (rW (HDR go_37 0 (List.length L_35) gc_38)) (rP (rI .i64) (rP (rI .i64) r0))) ((), ((4 : Int), (Lost_36, ())))) :: B, _⟩ (setO ⟨ρ, (cvar gb_7 (rP (rW (HDR go_37 0 (List.length L_35) gc_38)) (rP (rI .i64) (rP (rI .i64) r0))) ((), ((4 : Int), (Lost_36, ())))) :: B, _⟩ _ _) (op_loadW (j := 0) lb tS30 (.tmp (hl hd 4 101 rfl)) rfl (Comp.trans (Comp.self (rP (rW (HDR go_37 0 (List.length L_35) gc_38)) (rP (rI .i64) (rP (rI .i64) r0))) ((), ((4 : Int), (Lost_36, ())))) (Comp.at' (Comp.inF (Comp.self (rW (HDR go_37 0 (List.length L_35) gc_38)) ()) (Nat.le_of_ble_eq_true rfl)) (by rfl : _ = 0)) (Nat.le_of_ble_eq_true rfl)))⟩)) ?_
      refine dS 7 (fun γ ρ B hb hd => op_lenH lb tu30 (.tmp (hl hd 5 102 rfl))) ?_
      refine dS 8 (fun γ ρ B hb hd => op_arI lb (.tmp (hl hd 6 103 rfl)) .cI (congrArg some hv_v_67)) ?_
      refine dS 9 (fun γ ρ B hb hd => op_cmpI lb (.tmp (hl hd 1 98 rfl)) (.tmp (hl hd 7 104 rfl)) (congrArg some hv_v_68)) ?_
      refine dS 10 (fun γ ρ B hb hd => op_move lb (.tmp (hl hd 8 105 rfl))) ?_
      refine DSteps.cons (j := 11) rfl (fun _ => rfl) (.skip (fun γ ρ B hb hd => ⟨.no rfl (ltB rfl) (hl hd 9 106 rfl) hc36, rfl, rfl, rfl, fun d h => by cases h; exact ltB rfl⟩)) ?_
      refine DSteps.cons (j := 12) rfl (fun _ => rfl) (.skip (fun γ ρ B hb hd => ⟨.no rfl (ltB rfl) (hl hd 9 106 rfl) hc36, rfl, rfl, rfl, fun d h => by cases h; exact ltB rfl⟩)) ?_
      refine DSteps.cons (j := 13) rfl (fun _ => rfl) (.skip (fun γ ρ B hb hd => ⟨.no rfl (ltB rfl) (hl hd 9 106 rfl) hc36, rfl, rfl, rfl, fun d h => by cases h; exact ltB rfl⟩)) ?_
      refine DSteps.cons (j := 14) rfl (fun _ => rfl) (.skip (fun γ ρ B hb hd => ⟨.no rfl (ltB rfl) (hl hd 9 106 rfl) hc36, rfl, rfl, rfl, fun d h => by cases h; exact ltB rfl⟩)) ?_
      refine DSteps.cons (j := 15) rfl (fun _ => rfl) (.skip (fun γ ρ B hb hd => ⟨.no rfl (ltB rfl) (hl hd 9 106 rfl) hc36, rfl, rfl, rfl, fun d h => by cases h; exact ltB rfl⟩)) ?_
      refine DSteps.cons (j := 16) rfl (fun _ => rfl) (.skip (fun γ ρ B hb hd => ⟨.no rfl (ltB rfl) (hl hd 9 106 rfl) hc36, rfl, rfl, rfl, fun d h => by cases h; exact ltB rfl⟩)) ?_
      refine DSteps.cons (j := 17) rfl (fun _ => rfl) (.skip (fun γ ρ B hb hd => ⟨.no rfl (ltB rfl) (hl hd 9 106 rfl) hc36, rfl, rfl, rfl, fun d h => by cases h; exact ltB rfl⟩)) ?_
      refine DSteps.cons (j := 18) rfl (fun _ => rfl) (.skip (fun γ ρ B hb hd => ⟨.no rfl (ltB rfl) (hl hd 9 106 rfl) hc36, rfl, rfl, rfl, fun d h => by cases h; exact ltB rfl⟩)) ?_
      refine DSteps.cons (j := 19) rfl (fun _ => rfl) (.skip (fun γ ρ B hb hd => ⟨.no rfl (ltB rfl) (hl hd 9 106 rfl) hc36, rfl, rfl, rfl, fun d h => by cases h; exact ltB rfl⟩)) ?_
      refine dS 20 (fun γ ρ B hb hd => op_pickT lb (.tmp (hl hd 9 106 rfl)) hc36 .cB) ?_
      exact DSteps.nil)
                     (by decide +kernel) (fun _ => rfl) rfl (fun _ => rfl) (fun _ => rfl) rfl (by decide) (by decide) (by decide +kernel) (fun _ d h => by cases h)
                     (ρ' := fun γ => [(5, ov (PTR gb_5 0)), (7, ov (PTR gb_7 0)), (9, ov (PTR gb_41 0)), (116, ov (S rB true))])
                     (X' := fun γ => [cvar gb_5 (rP (rW (MPV go_6)) (rP (rI .i64) (rP (rI .i64) r0))) ((), ((4 : Int), (lost_34, ()))), cmap go_6 (A r_net_pair) (S (rL (rL (rU UInt8)))) (some (x_44)), cvar gb_7 (rP (rW (HDR go_37 0 (List.length L_35) gc_38)) (rP (rI .i64) (rP (rI .i64) r0))) ((), ((4 : Int), (Lost_36, ()))), cown go_37 r_api_Flight L_35 0 gc_38, cvar gb_41 r_api_Flight v_39])
                     (fun γ ρ hb hd => (.cons (hb 5 _ rfl (by decide)) (.cons (hb 7 _ rfl (by decide)) (.cons (hb 9 _ rfl (by decide)) (.cons (hdq hd 19 116 rfl) .nil))))) (fun _ => rfl) (fun γ => ?_)
                 refine JQ.at ⟨[(5, ov (PTR gb_5 0)), (7, ov (PTR gb_7 0)), (9, ov (PTR gb_41 0)), (116, ov (S rB true))], [cvar gb_5 (rP (rW (MPV go_6)) (rP (rI .i64) (rP (rI .i64) r0))) ((), ((4 : Int), (lost_34, ()))), cmap go_6 (A r_net_pair) (S (rL (rL (rU UInt8)))) (some (x_44)), cvar gb_7 (rP (rW (HDR go_37 0 (List.length L_35) gc_38)) (rP (rI .i64) (rP (rI .i64) r0))) ((), ((4 : Int), (Lost_36, ()))), cown go_37 r_api_Flight L_35 0 gc_38, cvar gb_41 r_api_Flight v_39], []⟩ ?_
                 replace hx34 := Option.some.inj hx34
                 first | subst hx34 | clear hx34
                 exact JQ.join () (Imp.norm (js := [0, 0, 0, 0, 0]) rfl (.cons rfl (.cons rfl (.cons rfl (.cons rfl .nil)))))
               · replace hx34 := bnd_inv hx34
                 obtain ⟨v_69, hv_v_69, hx34⟩ := hx34
                 replace hx34 := lt1_inv hx34
                 obtain ⟨v_70, hv_v_70, hx34⟩ := hx34
                 replace hx34 := lt1_inv hx34
                 obtain ⟨v_71, hv_v_71, hx34⟩ := hx34
                 refine JC.anyE (kl := []) (kk := 0) (base := [(5, ov (PTR gb_5 0)), (7, ov (PTR gb_7 0)), (9, ov (PTR gb_41 0)), (11, ov (S (rI .i64) v_42))])
                     (fs := fun γ => [⟨some 97, ov (PTR gb_5 0)⟩, ⟨some 98, ov (S (rI .i64) v_66)⟩, ⟨some 99, ov (PTR gb_7 0)⟩, ⟨some 100, ov (PTR gb_7 0)⟩, ⟨some 101, ov (PTR gb_7 (0 + 0))⟩, ⟨some 102, ov (HDR go_37 0 (List.length L_35) gc_38)⟩, ⟨some 103, ov (S (rI .i64) (List.length L_35 : Int))⟩, ⟨some 104, ov (S (rI .i64) v_67)⟩, ⟨some 105, ov (S rB v_68)⟩, ⟨some 106, ov (S rB v_68)⟩, ⟨some 107, ov (PTR gb_5 0)⟩, ⟨some 108, ov (PTR gb_41 (0 + 0))⟩, ⟨some 109, ov (S (rI .i64) v_39.From)⟩, ⟨some 110, ov (PTR gb_41 (0 + 1))⟩, ⟨some 111, ov (S (rI .i64) v_39.To)⟩, ⟨some 112, ov (S (rI .i64) v_69)⟩, ⟨some 113, ov (S (rI .i64) v_42)⟩, ⟨some 114, ov (S (rI .i64) v_70)⟩, ⟨some 115, ov (S rB v_71)⟩, ⟨some 116, ov (S rB v_71)⟩])
                     (rs := fun γ => [⟨cvar gb_5 (rP (rW (MPV go_6)) (rP (rI .i64) (rP (rI .i64) r0))) ((), ((4 : Int), (lost_34, ()))), none, none, [1, 15]⟩, ⟨cmap go_6 (A r_net_pair) (S (rL (rL (rU UInt8)))) (some (x_44)), none, none, [1, 15]⟩, ⟨cvar gb_7 (rP (rW (HDR go_37 0 (List.length L_35) gc_38)) (rP (rI .i64) (rP (rI .i64) r0))) ((), ((4 : Int), (Lost_36, ()))), none, none, [5]⟩, ⟨cown go_37 r_api_Flight L_35 0 gc_38, none, none, []⟩, ⟨cvar gb_41 r_api_Flight v_39, none, none, [12, 14]⟩])
                     (ds := [97, 98, 99, 100, 101, 102, 103, 104, 105, 106, 107, 108, 109, 110, 111, 112, 113, 114, 115, 116]) (bs := [5, 7, 9, 11]) (afts := [[], [], [], [], [], [], [], [], [], [], [], [], [], [], [], [], [], [], [], []]) (js := [0, 0, 0, 0, 0]) mixed (.cons rfl (.cons rfl (.cons rfl (.cons rfl .nil)))) (fun _ => rfl)
                     (by
      refine dS 1 (fun γ ρ B hb hd => op_move lb (.tmp (hb 5 _ rfl))) ?_
      refine DSteps.cons (j := 2) rfl (fun _ => rfl) (.run (fun γ ρ B hb hd => ⟨.none, OpStep.at ⟨ρ, (cvar gb_5 (rP (rW (MPV go_6)) (rP (rI .i64) (rP (rI .i64) r0))) ((), ((4 : Int), (lost_34, ())))) :: (cmap go_6 (A r_net_pair) (S (rL (rL (rU UInt8)))) (some (x_44))) :: B, _⟩ (setO ⟨ρ, (cvar gb_5 (rP (rW (MPV go_6)) (rP (rI .i64) (rP (rI .i64) r0))) ((), ((4 : Int), (lost_34, ())))) :: (cmap go_6 (A r_net_pair) (S (rL (rL (rU UInt8)))) (some (x_44))) :: B, _⟩ _ _) ((op_call (js := [0, 0]) ld cl16 (sim_net_Net_Len k (4 : Int) lost_34 (x_44) gb_5 go_6 v_66 hv_v_66) .func (.cons (.tmp (hl hd 0 97 rfl)) .nil) rfl).post (fun _ => Imp.pick (js := [0, 0]) rfl rfl))⟩)) ?_
      refine dS 3 (fun γ ρ B hb hd => op_move lb (.tmp (hb 7 _ rfl))) ?_
      refine dS 4 (fun γ ρ B hb hd => op_nilCheck lb (.tmp (hl hd 2 99 rfl)) (fun e v h => by subst h; rfl)) ?_
      refine dS 5 (fun γ ρ B hb hd => op_fieldAddr (off := 0) lb tf43_0 (.tmp (hl hd 3 100 rfl))) ?_
      refine DSteps.cons (j := 6) rfl (fun _ => rfl) (.run (fun γ ρ B hb hd => ⟨.none, OpStep.at ⟨ρ, (cvar gb_7 (rP (rW (HDR go_37 0 (List.length L_35) gc_38)) (rP (rI .i64) (rP (rI .i64) r0))) ((), ((4 : Int), (Lost_36, ())))) :: B, _⟩ (setO ⟨ρ, (cvar gb_7 (rP (rW (HDR go_37 0 (List.length L_35) gc_38)) (rP (rI .i64) (rP (rI .i64) r0))) ((), ((4 : Int), (Lost_36, ())))) :: B, _⟩ _ _) (op_loadW (j := 0) lb tS30 (.tmp (hl hd 4 101 rfl)) rfl (Comp.trans (Comp.self (rP (rW (HDR go_37 0 (List.length L_35) gc_38)) (rP (rI .i64) (rP (rI .i64) r0))) ((), ((4 : Int), (Lost_36, ())))) (Comp.at' (Comp.inF (Comp.self (rW (HDR go_37 0 (List.length L_35) gc_38)) ()) (Nat.le_of_ble_eq_true rfl)) (by rfl : _ = 0)) (Nat.le_of_ble_eq_true rfl)))⟩)) ?_
      refine dS 7 (fun γ ρ B hb hd => op_lenH lb tu30 (.tmp (hl hd 5 102 rfl))) ?_
      refine dS 8 (fun γ ρ B hb hd => op_arI lb (.tmp (hl hd 6 103 rfl)) .cI (congrArg some hv_v_67)) ?_
      refine dS 9 (fun γ ρ B hb hd => op_cmpI lb (.tmp (hl hd 1 98 rfl)) (.tmp (hl hd 7 104 rfl)) (congrArg some hv_v_68)) ?_
      refine dS 10 (fun γ ρ B hb hd => op_move lb (.tmp (hl hd 8 105 rfl))) ?_
      refine DSteps.cons (j := 11) rfl (fun _ => rfl) (.run (fun γ ρ B hb hd => ⟨.yes rfl (ltB rfl) (hl hd 9 106 rfl) hc36, OpStep.at ⟨ρ, B, _⟩ (setO ⟨ρ, B, _⟩ _ _) (op_move lb (.tmp (hb 5 _ rfl)))⟩)) ?_
      refine DSteps.cons (j := 12) rfl (fun _ => rfl) (.run (fun γ ρ B hb hd => ⟨.yes rfl (ltB rfl) (hl hd 9 106 rfl) hc36, OpStep.at ⟨ρ, B, _⟩ (setO ⟨ρ, B, _⟩ _ _) (op_fieldAddr (off := 0) lb tf36_0 (.tmp (hb 9 _ rfl)))⟩)) ?_
      refine DSteps.cons (j := 13) rfl (fun _ => rfl) (.run (fun γ ρ B hb hd => ⟨.yes rfl (ltB rfl) (hl hd 9 106 rfl) hc36, OpStep.at ⟨ρ, (cvar gb_41 r_api_Flight v_39) :: B, _⟩ (setO ⟨ρ, (cvar gb_41 r_api_Flight v_39) :: B, _⟩ _ _) (op_loadS (j := 0) lb tS3 (.tmp (hl hd 11 108 rfl)) rfl (Comp.trans (Comp.self r_api_Flight v_39) (comp_api_Flight_From v_39) (Nat.le_of_ble_eq_true rfl)) rfl rfl)⟩)) ?_
      refine DSteps.cons (j := 14) rfl (fun _ => rfl) (.run (fun γ ρ B hb hd => ⟨.yes rfl (ltB rfl) (hl hd 9 106 rfl) hc36, OpStep.at ⟨ρ, B, _⟩ (setO ⟨ρ, B, _⟩ _ _) (op_fieldAddr (off := 1) lb tf36_1 (.tmp (hb 9 _ rfl)))⟩)) ?_
      refine DSteps.cons (j := 15) rfl (fun _ => rfl) (.run (fun γ ρ B hb hd => ⟨.yes rfl (ltB rfl) (hl hd 9 106 rfl) hc36, OpStep.at ⟨ρ, (cvar gb_41 r_api_Flight v_39) :: B, _⟩ (setO ⟨ρ, (cvar gb_41 r_api_Flight v_39) :: B, _⟩ _ _) (op_loadS (j := 0) lb tS3 (.tmp (hl hd 13 110 rfl)) rfl (Comp.trans (Comp.self r_api_Flight v_39) (comp_api_Flight_To v_39) (Nat.le_of_ble_eq_true rfl)) rfl rfl)⟩)) ?_
      refine DSteps.cons (j := 16) rfl (fun _ => rfl) (.run (fun γ ρ B hb hd => ⟨.yes rfl (ltB rfl) (hl hd 9 106 rfl) hc36, OpStep.at ⟨ρ, (cvar gb_5 (rP (rW (MPV go_6)) (rP (rI .i64) (rP (rI .i64) r0))) ((), ((4 : Int), (lost_34, ())))) :: (cmap go_6 (A r_net_pair) (S (rL (rL (rU UInt8)))) (some (x_44))) :: B, _⟩ (setO ⟨ρ, (cvar gb_5 (rP (rW (MPV go_6)) (rP (rI .i64) (rP (rI .i64) r0))) ((), ((4 : Int), (lost_34, ())))) :: (cmap go_6 (A r_net_pair) (S (rL (rL (rU UInt8)))) (some (x_44))) :: B, _⟩ _ _) ((op_call (js := [0, 0]) ld cl19 (sim_net_Net_Line k v_39.From v_39.To (4 : Int) lost_34 (x_44) gb_5 go_6 v_69 hv_v_69) .func (.cons (.tmp (hl hd 10 107 rfl)) (.cons (.tmp (hl hd 12 109 rfl)) (.cons (.tmp (hl hd 14 111 rfl)) .nil))) rfl).post (fun _ => Imp.pick (js := [0, 0]) rfl rfl))⟩)) ?_
      refine DSteps.cons (j := 17) rfl (fun _ => rfl) (.run (fun γ ρ B hb hd => ⟨.yes rfl (ltB rfl) (hl hd 9 106 rfl) hc36, OpStep.at ⟨ρ, B, _⟩ (setO ⟨ρ, B, _⟩ _ _) (op_move lb (.tmp (hb 11 _ rfl)))⟩)) ?_
      refine DSteps.cons (j := 18) rfl (fun _ => rfl) (.run (fun γ ρ B hb hd => ⟨.yes rfl (ltB rfl) (hl hd 9 106 rfl) hc36, OpStep.at ⟨ρ, B, _⟩ (setO ⟨ρ, B, _⟩ _ _) (op_arI lb (.tmp (hl hd 16 113 rfl)) .cI (congrArg some hv_v_70))⟩)) ?_
      refine DSteps.cons (j := 19) rfl (fun _ => rfl) (.run (fun γ ρ B hb hd => ⟨.yes rfl (ltB rfl) (hl hd 9 106 rfl) hc36, OpStep.at ⟨ρ, B, _⟩ (setO ⟨ρ, B, _⟩ _ _) (op_cmpI lb (.tmp (hl hd 15 112 rfl)) (.tmp (hl hd 17 114 rfl)) (congrArg some hv_v_71))⟩)) ?_
      refine dS 20 (fun γ ρ B hb hd => op_pickF lb (.tmp (hl hd 9 106 rfl)) hc36 (.tmp (hl hd 18 115 rfl))) ?_
      exact DSteps.nil)
                     (by decide +kernel) (fun _ => rfl) rfl (fun _ => rfl) (fun _ => rfl) rfl (by decide) (by decide) (by decide +kernel) (fun _ d h => by cases h)
                     (ρ' := fun γ => [(5, ov (PTR gb_5 0)), (7, ov (PTR gb_7 0)), (9, ov (PTR gb_41 0)), (116, ov (S rB v_71))])
                     (X' := fun γ => [cvar gb_5 (rP (rW (MPV go_6)) (rP (rI .i64) (rP (rI .i64) r0))) ((), ((4 : Int), (lost_34, ()))), cmap go_6 (A r_net_pair) (S (rL (rL (rU UInt8)))) (some (x_44)), cvar gb_7 (rP (rW (HDR go_37 0 (List.length L_35) gc_38)) (rP (rI .i64) (rP (rI .i64) r0))) ((), ((4 : Int), (Lost_36, ()))), cown go_37 r_api_Flight L_35 0 gc_38, cvar gb_41 r_api_Flight v_39])
                     (fun γ ρ hb hd => (.cons (hb 5 _ rfl (by decide)) (.cons (hb 7 _ rfl (by decide)) (.cons (hb 9 _ rfl (by decide)) (.cons (hdq hd 19 116 rfl) .nil))))) (fun _ => rfl) (fun γ => ?_)
                 refine JQ.at ⟨[(5, ov (PTR gb_5 0)), (7, ov (PTR gb_7 0)), (9, ov (PTR gb_41 0)), (116, ov (S rB v_71))], [cvar gb_5 (rP (rW (MPV go_6)) (rP (rI .i64) (rP (rI .i64) r0))) ((), ((4 : Int), (lost_34, ()))), cmap go_6 (A r_net_pair) (S (rL (rL (rU UInt8)))) (some (x_44)), cvar gb_7 (rP (rW (HDR go_37 0 (List.length L_35) gc_38)) (rP (rI .i64) (rP (rI .i64) r0))) ((), ((4 : Int), (Lost_36, ()))), cown go_37 r_api_Flight L_35 0 gc_38, cvar gb_41 r_api_Flight v_39], []⟩ ?_
                 replace hx34 := Option.some.inj hx34
                 first | subst hx34 | clear hx34
                 exact JQ.join () (Imp.norm (js := [0, 0, 0, 0, 0]) rfl (.cons rfl (.cons rfl (.cons rfl (.cons rfl .nil)))))
         · refine JC.region ?_
           refine jc (op_move lb (.tmp rfl)) ?_
           replace hx8 := bnd_inv hx8
           obtain ⟨_, hv_u_45, hx8⟩ := hx8
           refine jx (op_call (js := []) ld cl12 (sim_law12_num k v_40 () hv_u_45) .func (.cons (.tmp rfl) .nil) rfl) (fun _ => ?_)
           replace hx8 := lt1_inv hx8
           obtain ⟨v_46, hv_v_46, hx8⟩ := hx8
           refine jc (op_cmpI lb (.tmp rfl) .cI (congrArg some hv_v_46)) ?_
           refine jc (op_move lb (.tmp rfl)) ?_
           refine JL.cnd (sv := ov (S (rI .i64) v_43)) (Guard.isF (ltB rfl) rfl rfl) rfl (ltB rfl) (fun hq_9 => op_move lb (.tmp rfl)) ?_
           replace hx8 := bnd_inv hx8
           obtain ⟨_, hv_u_47, hx8⟩ := hx8
           refine JL.cnd (sv := ov (S (rI .i64) v_43)) (Guard.isF (ltB rfl) rfl rfl) rfl (ltB rfl) (fun hq_10 => (op_call (js := []) ld cl12 (sim_law12_num k v_43 () (ifT hv_u_47 hq_10)) .func (.cons (HasO.cnd (.tmp rfl) (notT (notF hq_10))) .nil) rfl).post (fun _ => Imp.refl)) ?_
           replace hx8 := lt1_inv hx8
           obtain ⟨v_48, hv_v_48, hx8⟩ := hx8
           refine JL.cnd (sv := ov (S rB v_48)) (Guard.isF (ltB rfl) rfl rfl) rfl (ltB rfl) (fun hq_11 => op_cmpI lb (HasO.cnd (.tmp rfl) (notT (notF hq_11))) .cI (congrArg some hv_v_48)) ?_
           replace hx8 := lt1_inv hx8
           obtain ⟨v_49, hv_v_49, hx8⟩ := hx8
           refine jc (op_pickCS lb (.tmp rfl) (fun hb12 => .cB) (fun hb12 => (HasO.cnd (.tmp rfl) (notT hb12))) hv_v_49) ?_
           refine JL.nil ?_
           replace hx8 := Option.some.inj hx8
           first | subst hx8 | clear hx8
           exact JQ.join () (Imp.norm (js := [0, 0, 0, 0, 0]) rfl (.cons rfl (.cons rfl (.cons rfl (.cons rfl (.cons rfl (.cons rfl (.cons rfl .nil))))))))
       · refine JC.seq ?_
         refine JC.region ?_
         refine jc (op_assign lb .cI) ?_
         refine JL.nil ?_
         refine JQ.then ?_
         refine JC.block ?_
         replace hx4 := bnd_inv hx4
         obtain ⟨tv5, hL5, hq5⟩ := hx4
         refine JC.pre (Imp.nilown r_api_Flight) ?_
         refine JC.pre ?_ (JC.loop (γ := Option Nat × Nat) (stf := fun s q => ⟨[(0, ov (S (rL r_law12_Act) t_1)), (1, ov (S (rI .i64) a_2)), (5, ov (PTR gb_5 0)), (7, ov (PTR gb_7 0)), (8, ov (S (rI .i64) s.2.2.2.2))], [cvar gb_5 (rP (rW (MPV go_6)) (rP (rI .i64) (rP (rI .i64) r0))) ((), ((4 : Int), (s.2.1, ()))), cmap go_6 (A r_net_pair) (S (rL (rL (rU UInt8)))) (some s.1), cvar gb_7 (rP (rW (HDR q.1 0 (List.length s.2.2.1) q.2)) (rP (rI .i64) (rP (rI .i64) r0))) ((), ((4 : Int), (s.2.2.2.1, ()))), cown q.1 r_api_Flight s.2.2.1 0 q.2], []⟩) (q := (none, 0)) hL5 ?_)
         · exact (Imp.norm (js := [0, 0, 0, 0]) rfl (.cons rfl (.cons rfl (.cons rfl (.cons rfl (.cons rfl .nil))))))
         · intro s q x hx hr
           obtain ⟨x_9, lost_10, L_11, Lost_12, x_13⟩ := s
           obtain ⟨go_14, gc_15⟩ := q
           change law12_NetDoubles.b1 k t_1 x_9 lost_10 L_11 Lost_12 x_13 = some x at hx
           unfold law12_NetDoubles.b1 at hx
           refine JC.at ⟨[(0, ov (S (rL r_law12_Act) t_1)), (1, ov (S (rI .i64) a_2)), (5, ov (PTR gb_5 0)), (7, ov (PTR gb_7 0)), (8, ov (S (rI .i64) x_13))], [cvar gb_5 (rP (rW (MPV go_6)) (rP (rI .i64) (rP (rI .i64) r0))) ((), ((4 : Int), (lost_10, ()))), cmap go_6 (A r_net_pair) (S (rL (rL (rU UInt8)))) (some x_9), cvar gb_7 (rP (rW (HDR go_14 0 (List.length L_11) gc_15)) (rP (rI .i64) (rP (rI .i64) r0))) ((), ((4 : Int), (Lost_12, ()))), cown go_14 r_api_Flight L_11 0 gc_15], []⟩ ?_
           refine JC.seq ?_
           refine JC.seq ?_
           refine JC.region ?_
           refine jc (op_move lb (.tmp rfl)) ?_
           refine jc (op_move lb (.tmp rfl)) ?_
           refine jc (op_lenL lb tu22 (.tmp rfl)) ?_
           replace hx := lt1_inv hx
           obtain ⟨v_16, hv_v_16, hx⟩ := hx
           refine jc (op_cmpI lb (.tmp rfl) (.tmp rfl) (congrArg some hv_v_16)) ?_
           refine JL.nil ?_
           refine JQ.then ?_
           replace hx := iteB_inv hx
           rcases hx with ⟨hc6, hx⟩ | ⟨hc6, hx⟩
           · refine JC.condT (.tmp rfl) hc6 ?_
             refine JC.skip ?_
             refine JQ.then ?_
             refine JC.seq ?_
             refine JC.block ?_
             refine JC.seq ?_
             refine JC.region ?_
             refine jc (op_move lb (.tmp rfl)) ?_
             refine jc (op_move lb (.tmp rfl)) ?_
             refine jc (op_move lb (.tmp rfl)) ?_
             refine jc (op_move lb (.tmp rfl)) ?_
             replace hx := bnd_inv hx
             obtain ⟨v_17, hv_v_17, hx⟩ := hx
             refine jc (op_indexAddrLg lb tu22 tz33 (.tmp rfl) (.tmp rfl) hv_v_17) ?_
             refine jc (op_loadPAg lb tA33 (.tmp rfl) rfl) ?_
             replace hx := bnd_inv hx
             obtain ⟨⟨v_18, x_19, x_20, x_21, x_22⟩, hv_v_18, hx⟩ := hx
             refine jx (op_call (js := [0, 0, 0, 0]) ld cl18 (sim_law12_do'2 k v_17 (4 : Int) lost_10 x_9 (4 : Int) Lost_12 L_11 gb_5 go_6 gb_7 go_14 gc_15 (v_18, x_19, x_20, x_21, x_22) hv_v_18) .func (.cons (.tmp rfl) (.cons (.tmp rfl) (.cons (.tmp rfl) .nil))) rfl) (fun q => ?_)
             obtain ⟨go_23, gc_24⟩ := q
             refine JL.sub ⟨[(0, ov (S (rL r_law12_Act) t_1)), (1, ov (S (rI .i64) a_2)), (5, ov (PTR gb_5 0)), (7, ov (PTR gb_7 0)), (8, ov (S (rI .i64) x_13)), (45, ov (S rB v_18))], [cvar gb_5 (rP (rW (MPV go_6)) (rP (rI .i64) (rP (rI .i64) r0))) ((), ((4 : Int), (x_20, ()))), cmap go_6 (A r_net_pair) (S (rL (rL (rU UInt8)))) (some (x_19)), cvar gb_7 (rP (rW (HDR go_23 0 (List.length x_21) gc_24)) (rP (rI .i64) (rP (rI .i64) r0))) ((), ((4 : Int), (x_22, ()))), cown go_23 r_api_Flight x_21 0 gc_24], []⟩ (.cons rfl (.cons rfl (.cons rfl (.cons rfl (.cons rfl (.cons rfl .nil)))))) rfl rfl ?_
             replace hx := lt1_inv hx
             obtain ⟨v_25, hv_v_25, hx⟩ := hx
             refine jc (op_not lb (.tmp rfl) hv_v_25) ?_
             refine JL.nil ?_
             refine JQ.then ?_
             replace hx := iteB_inv hx
             rcases hx with ⟨hc7, hx⟩ | ⟨hc7, hx⟩
             · refine JC.condT (.tmp rfl) hc7 ?_
               refine JC.seq ?_
               refine JC.region ?_
               refine jc (op_assign lb .cB) ?_
               refine JL.nil ?_
               refine JQ.then ?_
               refine JC.ret ?_
               refine JQ.outRB ?_
               refine JQ.outR ?_
               replace hx := Option.some.inj hx
               first | subst hx | clear hx
               have ht := hr _ rfl
               clear hr
               first | subst ht | clear ht
               dsimp only at hq5
               refine JQ.outR ?_
               refine JQ.outRB ?_
               replace hq5 := Option.some.inj hq5
               first | subst hq5 | clear hq5
               dsimp only at hq4
               refine JQ.outR ?_
               replace hq4 := Option.some.inj hq4
               subst hq4
               exact JQ.done (js := []) (ss := [.val (S rB false)]) () (.inl rfl) (.nil rfl) rfl (.cons (.tmp rfl) .nil) rfl rfl rfl
             · refine JC.condF (.tmp rfl) hc7 ?_
               refine JC.skip ?_
               refine JQ.outNB ?_
               refine JQ.then ?_
               refine JC.region ?_
               refine jc (op_move lb (.tmp rfl)) ?_
               replace hx := lt1_inv hx
               obtain ⟨v_26, hv_v_26, hx⟩ := hx
               refine jc (op_arI lb (.tmp rfl) .cI (congrArg some hv_v_26)) ?_
               refine jc (op_assign lb (.tmp rfl)) ?_
               refine JL.nil ?_
               replace hx := Option.some.inj hx
               first | subst hx | clear hx
               exact JQ.next (go_23, gc_24) rfl (Imp.norm (js := [0, 0, 0, 0]) rfl (.cons rfl (.cons rfl (.cons rfl (.cons rfl (.cons rfl .nil))))))
           · refine JC.condF (.tmp rfl) hc6 ?_
             refine JC.exit ?_
             refine JQ.outX ?_
             replace hx := Option.some.inj hx
             first | subst hx | clear hx
             have ht := hr _ rfl
             clear hr
             first | subst ht | clear ht
             dsimp only at hq5
             refine JQ.outX ?_
             refine JQ.here ?_
             replace hq5 := Option.some.inj hq5
             first | subst hq5 | clear hq5
             exact JQ.joinK (x_9, lost_10, L_11, Lost_12) (go_14, gc_15) rfl (Imp.norm (js := [0, 0, 0, 0]) rfl (.cons rfl (.cons rfl (.cons rfl .nil))))
     · refine JC.region ?_
       refine jc (op_move lb (.tmp rfl)) ?_
       refine jc (op_nilP (neg := false) lb tu25 (.tmp rfl) (HasO.const (p := PTO none) fun _ => rfl)) ?_
       refine jc (op_move lb (.tmp rfl)) ?_
       refine JL.run (.yes rfl (ltB rfl) rfl rfl) (op_move lb (.tmp rfl)) ?_
       replace hx3 := bnd_inv hx3
       obtain ⟨_, hv_u_8, hx3⟩ := hx3
       refine JL.runX (.yes rfl (ltB rfl) rfl rfl) (op_call (js := []) ld cl12 (sim_law12_num k (0 : Int) () hv_u_8) .func (.cons (.tmp rfl) .nil) rfl) (fun _ => ?_)
       refine JL.run (.yes rfl (ltB rfl) rfl rfl) (op_cmpI lb (.tmp rfl) .cI (congrArg some (by decide : ((0 : Int) != (0 : Int)) = false))) ?_
       refine jc (op_pickF lb (.tmp rfl) rfl (.tmp rfl)) ?_
       refine JL.nil ?_
       exact JQ.join () (Imp.norm (js := [0, 0, 0]) rfl (.cons rfl (.cons rfl (.cons rfl (.cons rfl (.cons rfl .nil))))))
   · obtain _ := ts2
     dsimp only at hm
     refine jx (op_call (js := []) ld cl11 (sim_net_New_v1 k (4 : Int) () hs2) .func (.cons .cI .nil) rfl) (fun _ => ?_)
     refine jc (op_move lb (.tmp rfl)) ?_
     refine jc (op_extract (i := 0) lb (.tmp rfl) rfl) ?_
     refine jc (op_extract (i := 1) lb (.tmp rfl) rfl) ?_
     refine jc (op_assign lb (.tmp rfl)) ?_
     refine jc (op_assign lb (.tmp rfl)) ?_
     refine JL.nil ?_
     refine JQ.then ?_
     refine JC.seq ?_
     refine JC.region ?_
     refine jc (op_build lb tZ43 zr43 tp43 (.S (off := 1) rfl .cI rfl ((UpdR.snd (UpdR.fst (UpdR.self (by rfl)))).at (by rfl)) .nil) rfl) ?_
     refine JL.sub ⟨[(0, ov (S (rL r_law12_Act) t_1)), (1, ov (S (rI .i64) a_2)), (5, ov (PTO none)), (6, ov (S (rI .i64) (2 : Int))), (24, ov (A (rP (rW (HDR none 0 0 0)) (rP (rI .i64) (rP (rI .i64) r0))) ((), ((4 : Int), ((0 : Int), ())))))], [], []⟩ (.cons rfl (.cons rfl (.cons rfl (.cons rfl (.cons rfl .nil))))) rfl rfl ?_
     refine jx (op_boxA lb (.tmp rfl)) (fun q => ?_)
     obtain ⟨gb_102, hqq⟩ : ∃ z, z = q := ⟨_, rfl⟩
     subst hqq
     refine jc (op_assign lb (.tmp rfl)) ?_
     refine JL.nil ?_
     refine JQ.then ?_
     refine JC.seq ?_
     replace hm := bnd_inv hm
     obtain ⟨_, hx57, hq57⟩ := hm
     refine JC.seqJ (γ := Unit) (stj := fun q => ⟨[(0, ov (S (rL r_law12_Act) t_1)), (1, ov (S (rI .i64) a_2)), (5, ov (PTO none)), (7, ov (PTR gb_102 0)), (32, ov (S rB true))], [cvar gb_102 (rP (rW (HDR none 0 0 0)) (rP (rI .i64) (rP (rI .i64) r0))) ((), ((4 : Int), ((0 : Int), ())))], []⟩) (fun q => ?_) ?_
     · obtain _ := q
       refine JC.at ⟨[(0, ov (S (rL r_law12_Act) t_1)), (1, ov (S (rI .i64) a_2)), (5, ov (PTO none)), (7, ov (PTR gb_102 0)), (32, ov (S rB true))], [cvar gb_102 (rP (rW (HDR none 0 0 0)) (rP (rI .i64) (rP (rI .i64) r0))) ((), ((4 : Int), ((0 : Int), ())))], []⟩ ?_
       refine JC.condT (.tmp rfl) rfl ?_
       refine JC.seq ?_
       refine JC.region ?_
       refine jc (op_assign lb .cB) ?_
       refine JL.nil ?_
       refine JQ.then ?_
       refine JC.ret ?_
       refine JQ.outR ?_
       replace hq57 := Option.some.inj hq57
       subst hq57
       exact JQ.done (js := []) (ss := [.val (S rB false)]) () (.inl rfl) (.nil rfl) rfl (.cons (.tmp rfl) .nil) rfl rfl rfl
     · refine JC.region ?_
       refine jc (op_move lb (.tmp rfl)) ?_
       refine jc (op_nilO (neg := false) (ob := none) lb tu25 (.tmp rfl) (HasO.const (p := PTO none) fun _ => rfl) rfl) ?_
       refine jc (op_move lb (.tmp rfl)) ?_
       refine JL.skip (.no rfl (ltB rfl) rfl rfl) (fun d h => by cases h; exact ltB rfl) ?_
       refine JL.skip (.no rfl (ltB rfl) rfl rfl) (fun d h => by cases h; exact ltB rfl) ?_
       refine JL.skip (.no rfl (ltB rfl) rfl rfl) (fun d h => by cases h; exact ltB rfl) ?_
       refine jc (op_pickT lb (.tmp rfl) rfl .cB) ?_
       refine JL.nil ?_
       exact JQ.join () (Imp.norm (js := [0]) rfl (.cons rfl (.cons rfl (.cons rfl (.cons rfl (.cons rfl .nil))))))

end Go.Proofs.Ytnadeehdnmgebaa
