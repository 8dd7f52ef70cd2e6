/- Walks. -/
import Derived.Test.YtnhiiabdoichlaaT
import Derived.Test.YtnhiiabdoichlaaW12
import Derived.Test.YtnhiiabdoichlaaW22
namespace Go.Proofs.Ytnhiiabdoichlaa
open Go Fw
set_option linter.unusedVariables false
set_option maxRecDepth 100000
set_option maxHeartbeats 4000000

theorem sim_law10_CursorJoins (k : Nat) (t_1 : (Vector UInt64 16)) (a_2 : (Vector UInt64 16)) (a_3 : (Vector UInt64 16)) (r : Bool) (hm : law10_CursorJoins k t_1 a_2 a_3 = some r) : Sim Try.prog 5 [A (rV 16 (rU UInt64)) t_1, A (rV 16 (rU UInt64)) a_2, A (rV 16 (rU UInt64)) a_3] [] (γ := Unit) (fun q => []) (fun q => .one (.val (S rB r))) := by
  unfold law10_CursorJoins at hm
  refine Sim.of Try.func5 rfl rfl (Nat.le_of_ble_eq_true rfl) (fun e0 w0 => ?_)
  refine JC.at ⟨[(0, .one (.val (A (rV 16 (rU UInt64)) t_1))), (1, .one (.val (A (rV 16 (rU UInt64)) a_2))), (2, .one (.val (A (rV 16 (rU UInt64)) a_3)))], [], []⟩ ?_
  refine JC.seq ?_
  refine JC.region ?_
  refine JL.consX rfl (op_boxA (ltB rfl) (.tmp rfl)) (fun q => ?_)
  obtain ⟨gb_4, hqq⟩ : ∃ z, z = q := ⟨_, rfl⟩
  subst hqq
  refine JL.pre (Imp.sub (ρ' := [(1, .one (.val (A (rV 16 (rU UInt64)) a_2))), (2, .one (.val (A (rV 16 (rU UInt64)) a_3))), (3, .one (.val (PTR gb_4 0)))]) (.cons rfl (.cons rfl (.cons rfl .nil)))) ?_
  refine JL.at ⟨[(1, .one (.val (A (rV 16 (rU UInt64)) a_2))), (2, .one (.val (A (rV 16 (rU UInt64)) a_3))), (3, .one (.val (PTR gb_4 0)))], [cvar gb_4 (rV 16 (rU UInt64)) t_1], []⟩ ?_
  refine JL.consX rfl (op_boxA (ltB rfl) (.tmp rfl)) (fun q => ?_)
  obtain ⟨gb_5, hqq⟩ : ∃ z, z = q := ⟨_, rfl⟩
  subst hqq
  refine JL.pre (Imp.sub (ρ' := [(2, .one (.val (A (rV 16 (rU UInt64)) a_3))), (3, .one (.val (PTR gb_4 0))), (4, .one (.val (PTR gb_5 0)))]) (.cons rfl (.cons rfl (.cons rfl .nil)))) ?_
  refine JL.at ⟨[(2, .one (.val (A (rV 16 (rU UInt64)) a_3))), (3, .one (.val (PTR gb_4 0))), (4, .one (.val (PTR gb_5 0)))], [cvar gb_4 (rV 16 (rU UInt64)) t_1, cvar gb_5 (rV 16 (rU UInt64)) a_2], []⟩ ?_
  refine JL.consX rfl (op_boxA (ltB rfl) (.tmp rfl)) (fun q => ?_)
  obtain ⟨gb_6, hqq⟩ : ∃ z, z = q := ⟨_, rfl⟩
  subst hqq
  refine JL.pre (Imp.sub (ρ' := [(3, .one (.val (PTR gb_4 0))), (4, .one (.val (PTR gb_5 0))), (5, .one (.val (PTR gb_6 0)))]) (.cons rfl (.cons rfl (.cons rfl .nil)))) ?_
  refine JL.at ⟨[(3, .one (.val (PTR gb_4 0))), (4, .one (.val (PTR gb_5 0))), (5, .one (.val (PTR gb_6 0)))], [cvar gb_4 (rV 16 (rU UInt64)) t_1, cvar gb_5 (rV 16 (rU UInt64)) a_2, cvar gb_6 (rV 16 (rU UInt64)) a_3], []⟩ ?_
  refine JL.cons rfl (op_assign (ltB rfl) .cB) ?_
  refine JL.nil ?_
  refine JQ.then ?_
  refine JC.seq ?_
  refine JC.region ?_
  refine JL.cons rfl (op_loadA (j := 0) (ltB rfl) tA25 (.tmp rfl) rfl (Comp.self (rV 16 (rU UInt64)) t_1) rfl) ?_
  refine JL.cons rfl (op_loadA (j := 1) (ltB rfl) tA25 (.tmp rfl) rfl (Comp.self (rV 16 (rU UInt64)) a_2) rfl) ?_
  replace hm := bnd_inv hm
  obtain ⟨v_7, hv_v_7, hm⟩ := hm
  refine JL.consX rfl (op_call (js := []) (ltD rfl) cl15 (sim_cursor_Join k t_1 a_2 v_7 hv_v_7) .func (.cons (.tmp rfl) (.cons (.tmp rfl) .nil)) rfl) (fun _ => ?_)
  refine JL.consX rfl (op_alloc (ltB rfl) tZ25 zr25) (fun q => ?_)
  obtain ⟨gb_8, hqq⟩ : ∃ z, z = q := ⟨_, rfl⟩
  subst hqq
  refine JL.pre (Imp.sub (ρ' := [(3, .one (.val (PTR gb_4 0))), (4, .one (.val (PTR gb_5 0))), (5, .one (.val (PTR gb_6 0))), (7, .one (.val (PTR gb_8 0))), (10, .one (.val (A (rV 16 (rU UInt64)) v_7)))]) (.cons rfl (.cons rfl (.cons rfl (.cons rfl (.cons rfl .nil)))))) ?_
  refine JL.at ⟨[(3, .one (.val (PTR gb_4 0))), (4, .one (.val (PTR gb_5 0))), (5, .one (.val (PTR gb_6 0))), (7, .one (.val (PTR gb_8 0))), (10, .one (.val (A (rV 16 (rU UInt64)) v_7)))], [cvar gb_4 (rV 16 (rU UInt64)) t_1, cvar gb_5 (rV 16 (rU UInt64)) a_2, cvar gb_6 (rV 16 (rU UInt64)) a_3, cvar gb_8 (rV 16 (rU UInt64)) (Vector.replicate 16 (0 : UInt64))], []⟩ ?_
  refine JL.cons rfl (op_storeA (j := 3) tA25 (.tmp rfl) (.tmp rfl) rfl (UpdR.self (by rfl)) rfl) ?_
  refine JL.pre (Imp.sub (ρ' := [(3, .one (.val (PTR gb_4 0))), (4, .one (.val (PTR gb_5 0))), (5, .one (.val (PTR gb_6 0))), (7, .one (.val (PTR gb_8 0)))]) (.cons rfl (.cons rfl (.cons rfl (.cons rfl .nil))))) ?_
  refine JL.at ⟨[(3, .one (.val (PTR gb_4 0))), (4, .one (.val (PTR gb_5 0))), (5, .one (.val (PTR gb_6 0))), (7, .one (.val (PTR gb_8 0)))], [cvar gb_4 (rV 16 (rU UInt64)) t_1, cvar gb_5 (rV 16 (rU UInt64)) a_2, cvar gb_6 (rV 16 (rU UInt64)) a_3, cvar gb_8 (rV 16 (rU UInt64)) v_7], []⟩ ?_
  refine JL.nil ?_
  refine JQ.then ?_
  refine JC.seq ?_
  replace hm := bnd_inv hm
  obtain ⟨x_24, hx1, hq1⟩ := hm
  refine JC.seqJ (γ := Unit) (stj := fun q => ⟨[(3, .one (.val (PTR gb_4 0))), (4, .one (.val (PTR gb_5 0))), (5, .one (.val (PTR gb_6 0))), (43, .one (.val (S rB x_24)))], [cvar gb_4 (rV 16 (rU UInt64)) t_1, cvar gb_5 (rV 16 (rU UInt64)) a_2, cvar gb_6 (rV 16 (rU UInt64)) a_3], []⟩) (fun q => ?_) ?_
  · obtain _ := q
    refine JC.at ⟨[(3, .one (.val (PTR gb_4 0))), (4, .one (.val (PTR gb_5 0))), (5, .one (.val (PTR gb_6 0))), (43, .one (.val (S rB x_24)))], [cvar gb_4 (rV 16 (rU UInt64)) t_1, cvar gb_5 (rV 16 (rU UInt64)) a_2, cvar gb_6 (rV 16 (rU UInt64)) a_3], []⟩ ?_
    replace hq1 := iteB_inv hq1
    rcases hq1 with ⟨hc30, hq1⟩ | ⟨hc30, hq1⟩
    · refine JC.condT (.tmp rfl) hc30 ?_
      refine JC.seq ?_
      refine JC.region ?_
      refine JL.cons rfl (op_assign (ltB rfl) .cB) ?_
      refine JL.nil ?_
      refine JQ.then ?_
      refine JC.ret ?_
      refine JQ.outR ?_
      replace hq1 := Option.some.inj hq1
      subst hq1
      exact JQ.done (js := []) (ss := [.val (S rB false)]) () (.inl rfl) (.nil rfl) rfl (.cons (.tmp rfl) .nil) rfl rfl rfl
    · refine JC.condF (.tmp rfl) hc30 ?_
      refine JC.skip ?_
      refine JQ.then ?_
      replace hq1 := bnd_inv hq1
      obtain ⟨x_44, hx31, hq31⟩ := hq1
      refine JC.seqJ (γ := Unit) (stj := fun q => ⟨[(6, .one (.val (S rB x_44)))], [], []⟩) (fun q => ?_) ?_
      · obtain _ := q
        refine JC.at ⟨[(6, .one (.val (S rB x_44)))], [], []⟩ ?_
        refine JC.ret ?_
        replace hq31 := Option.some.inj hq31
        subst hq31
        exact JQ.done (js := []) (ss := [.val (S rB x_44)]) () (.inl rfl) (.nil rfl) rfl (.cons (.tmp rfl) .nil) rfl rfl rfl
      · refine JC.region ?_
        refine JL.cons rfl (op_loadA (j := 0) (ltB rfl) tA25 (.tmp rfl) rfl (Comp.self (rV 16 (rU UInt64)) t_1) rfl) ?_
        refine JL.cons rfl (op_loadA (j := 0) (ltB rfl) tA25 (.tmp rfl) rfl (Comp.self (rV 16 (rU UInt64)) t_1) rfl) ?_
        replace hx31 := bnd_inv hx31
        obtain ⟨v_25, hv_v_25, hx31⟩ := hx31
        refine JL.consX rfl (op_call (js := []) (ltD rfl) cl17 (sim_cursor_Covers k t_1 t_1 v_25 hv_v_25) .func (.cons (.tmp rfl) (.cons (.tmp rfl) .nil)) rfl) (fun _ => ?_)
        refine JL.cons rfl (op_move (ltB rfl) (.tmp rfl)) ?_
        refine JL.cnd (sv := .one (.val (A (rV 16 (rU UInt64)) t_1))) (Guard.isT (ltB rfl) rfl rfl) rfl (ltB rfl) (fun hq_32 => op_loadA (j := 0) (ltB rfl) tA25 (.tmp rfl) rfl (Comp.self (rV 16 (rU UInt64)) t_1) rfl) ?_
        refine JL.cnd (sv := .one (.val (A (rV 16 (rU UInt64)) a_2))) (Guard.isT (ltB rfl) rfl rfl) rfl (ltB rfl) (fun hq_33 => op_loadA (j := 1) (ltB rfl) tA25 (.tmp rfl) rfl (Comp.self (rV 16 (rU UInt64)) a_2) rfl) ?_
        refine JL.pre (Imp.sub (ρ' := [(3, .one (.val (PTR gb_4 0))), (4, .one (.val (PTR gb_5 0))), (5, .one (.val (PTR gb_6 0))), (47, .one (.val (S rB v_25))), (48, bif v_25 then .one (.val (A (rV 16 (rU UInt64)) t_1)) else .one .und), (49, bif v_25 then .one (.val (A (rV 16 (rU UInt64)) a_2)) else .one .und)]) (.cons rfl (.cons rfl (.cons rfl (.cons rfl (.cons rfl (.cons rfl .nil))))))) ?_
        refine JL.at ⟨[(3, .one (.val (PTR gb_4 0))), (4, .one (.val (PTR gb_5 0))), (5, .one (.val (PTR gb_6 0))), (47, .one (.val (S rB v_25))), (48, bif v_25 then .one (.val (A (rV 16 (rU UInt64)) t_1)) else .one .und), (49, bif v_25 then .one (.val (A (rV 16 (rU UInt64)) a_2)) else .one .und)], [cvar gb_4 (rV 16 (rU UInt64)) t_1, cvar gb_5 (rV 16 (rU UInt64)) a_2, cvar gb_6 (rV 16 (rU UInt64)) a_3], []⟩ ?_
        replace hx31 := bnd_inv hx31
        obtain ⟨v_26, hv_v_26, hx31⟩ := hx31
        refine JL.cnd (sv := .one (.val (S rB v_26))) (Guard.isT (ltB rfl) rfl rfl) rfl (ltB rfl) (fun hq_34 => (op_call (js := []) (ltD rfl) cl17 (sim_cursor_Covers k t_1 a_2 v_26 (ifT hv_v_26 hq_34)) .func (.cons (HasO.cnd (.tmp rfl) hq_34) (.cons (HasO.cnd (.tmp rfl) hq_34) .nil)) rfl).post (fun _ => Imp.refl)) ?_
        replace hx31 := lt1_inv hx31
        obtain ⟨v_27, hv_v_27, hx31⟩ := hx31
        refine JL.cnd (sv := .one (.val (S rB v_27))) (Guard.isT (ltB rfl) rfl rfl) rfl (ltB rfl) (fun hq_35 => op_not (ltB rfl) (HasO.cnd (.tmp rfl) hq_35) hv_v_27) ?_
        refine JL.cnd (sv := .one (.val (S rB v_27))) (Guard.isT (ltB rfl) rfl rfl) rfl (ltB rfl) (fun hq_36 => op_move (ltB rfl) (HasO.cnd (.tmp rfl) hq_36)) ?_
        refine JL.cnd (sv := .one (.val (A (rV 16 (rU UInt64)) a_2))) (Guard.cF (q := v_25) (ltB rfl) rfl rfl) rfl (ltB rfl) (fun hq_37 => op_loadA (j := 1) (ltB rfl) tA25 (.tmp rfl) rfl (Comp.self (rV 16 (rU UInt64)) a_2) rfl) ?_
        refine JL.cnd (sv := .one (.val (A (rV 16 (rU UInt64)) t_1))) (Guard.cF (q := v_25) (ltB rfl) rfl rfl) rfl (ltB rfl) (fun hq_38 => op_loadA (j := 0) (ltB rfl) tA25 (.tmp rfl) rfl (Comp.self (rV 16 (rU UInt64)) t_1) rfl) ?_
        replace hx31 := bnd_inv hx31
        obtain ⟨v_28, hv_v_28, hx31⟩ := hx31
        refine JL.cnd (sv := .one (.val (S rB v_28))) (Guard.cF (q := v_25) (ltB rfl) rfl rfl) rfl (ltB rfl) (fun hq_39 => (op_call (js := []) (ltD rfl) cl17 (sim_cursor_Covers k a_2 t_1 v_28 (ifT hv_v_28 hq_39)) .func (.cons (HasO.cnd (.tmp rfl) (andI (andL hq_39) (notT (notF (andR hq_39))))) (.cons (HasO.cnd (.tmp rfl) (andI (andL hq_39) (notT (notF (andR hq_39))))) .nil)) rfl).post (fun _ => Imp.refl)) ?_
        refine JL.pre (Imp.sub (ρ' := [(3, .one (.val (PTR gb_4 0))), (4, .one (.val (PTR gb_5 0))), (5, .one (.val (PTR gb_6 0))), (47, .one (.val (S rB v_25))), (52, bif v_25 then .one (.val (S rB v_27)) else .one .und), (55, bif (v_25 && (!v_27)) then .one (.val (S rB v_28)) else .one .und)]) (.cons rfl (.cons rfl (.cons rfl (.cons rfl (.cons rfl (.cons rfl .nil))))))) ?_
        refine JL.at ⟨[(3, .one (.val (PTR gb_4 0))), (4, .one (.val (PTR gb_5 0))), (5, .one (.val (PTR gb_6 0))), (47, .one (.val (S rB v_25))), (52, bif v_25 then .one (.val (S rB v_27)) else .one .und), (55, bif (v_25 && (!v_27)) then .one (.val (S rB v_28)) else .one .und)], [cvar gb_4 (rV 16 (rU UInt64)) t_1, cvar gb_5 (rV 16 (rU UInt64)) a_2, cvar gb_6 (rV 16 (rU UInt64)) a_3], []⟩ ?_
        replace hx31 := lt1_inv hx31
        obtain ⟨v_29, hv_v_29, hx31⟩ := hx31
        refine JL.cnd (sv := .one (.val (S rB v_29))) (Guard.cF (q := v_25) (ltB rfl) rfl rfl) rfl (ltB rfl) (fun hq_40 => op_not (ltB rfl) (HasO.cnd (.tmp rfl) (andI (andL hq_40) (notT (notF (andR hq_40))))) hv_v_29) ?_
        replace hx31 := lt1_inv hx31
        obtain ⟨v_30, hv_v_30, hx31⟩ := hx31
        refine JL.cnd (sv := .one (.val (S rB v_30))) (Guard.isT (ltB rfl) rfl rfl) rfl (ltB rfl) (fun hq_41 => op_pickCS (ltB rfl) (HasO.cnd (.tmp rfl) hq_41) (fun hb42 => .cB) (fun hb42 => (HasO.cnd (.tmp rfl) (andI hq_41 (notT hb42)))) hv_v_30) ?_
        refine JL.cnd (sv := .one (.val (S rB v_30))) (Guard.isT (ltB rfl) rfl rfl) rfl (ltB rfl) (fun hq_43 => op_move (ltB rfl) (HasO.cnd (.tmp rfl) hq_43)) ?_
        refine JL.cnd (sv := .one (.val (A (rV 16 (rU UInt64)) t_1))) (Guard.cF (q := v_25) (ltB rfl) rfl rfl) rfl (ltB rfl) (fun hq_44 => op_loadA (j := 0) (ltB rfl) tA25 (.tmp rfl) rfl (Comp.self (rV 16 (rU UInt64)) t_1) rfl) ?_
        refine JL.cnd (sv := .one (.val (A (rV 16 (rU UInt64)) a_2))) (Guard.cF (q := v_25) (ltB rfl) rfl rfl) rfl (ltB rfl) (fun hq_45 => op_loadA (j := 1) (ltB rfl) tA25 (.tmp rfl) rfl (Comp.self (rV 16 (rU UInt64)) a_2) rfl) ?_
        replace hx31 := lt1_inv hx31
        obtain ⟨v_31, hv_v_31, hx31⟩ := hx31
        refine JL.cnd (sv := .one (.val (S rB v_31))) (Guard.cF (q := v_25) (ltB rfl) rfl rfl) rfl (ltB rfl) (fun hq_46 => op_eqA (ltB rfl) qa25 (by decide) ng25 (HasO.cnd (.tmp rfl) (andI (andL hq_46) (notT (notF (andR hq_46))))) (HasO.cnd (.tmp rfl) (andI (andL hq_46) (notT (notF (andR hq_46))))) hv_v_31) ?_
        refine JL.pre (Imp.sub (ρ' := [(3, .one (.val (PTR gb_4 0))), (4, .one (.val (PTR gb_5 0))), (5, .one (.val (PTR gb_6 0))), (47, .one (.val (S rB v_25))), (58, bif v_25 then .one (.val (S rB v_30)) else .one .und), (61, bif (v_25 && (!v_30)) then .one (.val (S rB v_31)) else .one .und)]) (.cons rfl (.cons rfl (.cons rfl (.cons rfl (.cons rfl (.cons rfl .nil))))))) ?_
        refine JL.at ⟨[(3, .one (.val (PTR gb_4 0))), (4, .one (.val (PTR gb_5 0))), (5, .one (.val (PTR gb_6 0))), (47, .one (.val (S rB v_25))), (58, bif v_25 then .one (.val (S rB v_30)) else .one .und), (61, bif (v_25 && (!v_30)) then .one (.val (S rB v_31)) else .one .und)], [cvar gb_4 (rV 16 (rU UInt64)) t_1, cvar gb_5 (rV 16 (rU UInt64)) a_2, cvar gb_6 (rV 16 (rU UInt64)) a_3], []⟩ ?_
        replace hx31 := lt1_inv hx31
        obtain ⟨v_32, hv_v_32, hx31⟩ := hx31
        refine JL.cnd (sv := .one (.val (S rB v_32))) (Guard.isT (ltB rfl) rfl rfl) rfl (ltB rfl) (fun hq_47 => op_pickCS (ltB rfl) (HasO.cnd (.tmp rfl) hq_47) (fun hb48 => .cB) (fun hb48 => (HasO.cnd (.tmp rfl) (andI hq_47 (notT hb48)))) hv_v_32) ?_
        replace hx31 := lt1_inv hx31
        obtain ⟨v_33, hv_v_33, hx31⟩ := hx31
        refine JL.cons rfl (op_pickCS (ltB rfl) (.tmp rfl) (fun hb49 => (HasO.cnd (.tmp rfl) hb49)) (fun hb49 => .cB) hv_v_33) ?_
        refine JL.cons rfl (op_move (ltB rfl) (.tmp rfl)) ?_
        refine JL.cnd (sv := .one (.val (A (rV 16 (rU UInt64)) t_1))) (Guard.isT (ltB rfl) rfl rfl) rfl (ltB rfl) (fun hq_50 => op_loadA (j := 0) (ltB rfl) tA25 (.tmp rfl) rfl (Comp.self (rV 16 (rU UInt64)) t_1) rfl) ?_
        refine JL.cnd (sv := .one (.val (A (rV 16 (rU UInt64)) a_2))) (Guard.isT (ltB rfl) rfl rfl) rfl (ltB rfl) (fun hq_51 => op_loadA (j := 1) (ltB rfl) tA25 (.tmp rfl) rfl (Comp.self (rV 16 (rU UInt64)) a_2) rfl) ?_
        replace hx31 := bnd_inv hx31
        obtain ⟨v_34, hv_v_34, hx31⟩ := hx31
        refine JL.cnd (sv := .one (.val (S rB v_34))) (Guard.isT (ltB rfl) rfl rfl) rfl (ltB rfl) (fun hq_52 => (op_call (js := []) (ltD rfl) cl17 (sim_cursor_Covers k t_1 a_2 v_34 (ifT hv_v_34 hq_52)) .func (.cons (HasO.cnd (.tmp rfl) hq_52) (.cons (HasO.cnd (.tmp rfl) hq_52) .nil)) rfl).post (fun _ => Imp.refl)) ?_
        refine JL.pre (Imp.sub (ρ' := [(3, .one (.val (PTR gb_4 0))), (4, .one (.val (PTR gb_5 0))), (5, .one (.val (PTR gb_6 0))), (64, .one (.val (S rB v_33))), (67, bif v_33 then .one (.val (S rB v_34)) else .one .und)]) (.cons rfl (.cons rfl (.cons rfl (.cons rfl (.cons rfl .nil)))))) ?_
        refine JL.at ⟨[(3, .one (.val (PTR gb_4 0))), (4, .one (.val (PTR gb_5 0))), (5, .one (.val (PTR gb_6 0))), (64, .one (.val (S rB v_33))), (67, bif v_33 then .one (.val (S rB v_34)) else .one .und)], [cvar gb_4 (rV 16 (rU UInt64)) t_1, cvar gb_5 (rV 16 (rU UInt64)) a_2, cvar gb_6 (rV 16 (rU UInt64)) a_3], []⟩ ?_
        replace hx31 := lt1_inv hx31
        obtain ⟨v_35, hv_v_35, hx31⟩ := hx31
        refine JL.cnd (sv := .one (.val (S rB v_35))) (Guard.isT (ltB rfl) rfl rfl) rfl (ltB rfl) (fun hq_53 => op_not (ltB rfl) (HasO.cnd (.tmp rfl) hq_53) hv_v_35) ?_
        refine JL.cnd (sv := .one (.val (S rB v_35))) (Guard.isT (ltB rfl) rfl rfl) rfl (ltB rfl) (fun hq_54 => op_move (ltB rfl) (HasO.cnd (.tmp rfl) hq_54)) ?_
        refine JL.cnd (sv := .one (.val (A (rV 16 (rU UInt64)) a_2))) (Guard.cF (q := v_33) (ltB rfl) rfl rfl) rfl (ltB rfl) (fun hq_55 => op_loadA (j := 1) (ltB rfl) tA25 (.tmp rfl) rfl (Comp.self (rV 16 (rU UInt64)) a_2) rfl) ?_
        refine JL.cnd (sv := .one (.val (A (rV 16 (rU UInt64)) a_3))) (Guard.cF (q := v_33) (ltB rfl) rfl rfl) rfl (ltB rfl) (fun hq_56 => op_loadA (j := 2) (ltB rfl) tA25 (.tmp rfl) rfl (Comp.self (rV 16 (rU UInt64)) a_3) rfl) ?_
        replace hx31 := bnd_inv hx31
        obtain ⟨v_36, hv_v_36, hx31⟩ := hx31
        refine JL.cnd (sv := .one (.val (S rB v_36))) (Guard.cF (q := v_33) (ltB rfl) rfl rfl) rfl (ltB rfl) (fun hq_57 => (op_call (js := []) (ltD rfl) cl17 (sim_cursor_Covers k a_2 a_3 v_36 (ifT hv_v_36 hq_57)) .func (.cons (HasO.cnd (.tmp rfl) (andI (andL hq_57) (notT (notF (andR hq_57))))) (.cons (HasO.cnd (.tmp rfl) (andI (andL hq_57) (notT (notF (andR hq_57))))) .nil)) rfl).post (fun _ => Imp.refl)) ?_
        replace hx31 := lt1_inv hx31
        obtain ⟨v_37, hv_v_37, hx31⟩ := hx31
        refine JL.cnd (sv := .one (.val (S rB v_37))) (Guard.cF (q := v_33) (ltB rfl) rfl rfl) rfl (ltB rfl) (fun hq_58 => op_not (ltB rfl) (HasO.cnd (.tmp rfl) (andI (andL hq_58) (notT (notF (andR hq_58))))) hv_v_37) ?_
        refine JL.pre (Imp.norm (ρ' := [(3, .one (.val (PTR gb_4 0))), (5, .one (.val (PTR gb_6 0))), (64, .one (.val (S rB v_33))), (69, bif v_33 then .one (.val (S rB v_35)) else .one .und), (73, bif (v_33 && (!v_35)) then .one (.val (S rB v_37)) else .one .und)]) (js := [0, 1]) rfl (.cons rfl (.cons rfl (.cons rfl (.cons rfl (.cons rfl .nil)))))) ?_
        refine JL.at ⟨[(3, .one (.val (PTR gb_4 0))), (5, .one (.val (PTR gb_6 0))), (64, .one (.val (S rB v_33))), (69, bif v_33 then .one (.val (S rB v_35)) else .one .und), (73, bif (v_33 && (!v_35)) then .one (.val (S rB v_37)) else .one .und)], [cvar gb_4 (rV 16 (rU UInt64)) t_1, cvar gb_6 (rV 16 (rU UInt64)) a_3], []⟩ ?_
        replace hx31 := lt1_inv hx31
        obtain ⟨v_38, hv_v_38, hx31⟩ := hx31
        refine JL.cnd (sv := .one (.val (S rB v_38))) (Guard.isT (ltB rfl) rfl rfl) rfl (ltB rfl) (fun hq_59 => op_pickCS (ltB rfl) (HasO.cnd (.tmp rfl) hq_59) (fun hb60 => .cB) (fun hb60 => (HasO.cnd (.tmp rfl) (andI hq_59 (notT hb60)))) hv_v_38) ?_
        refine JL.cnd (sv := .one (.val (S rB v_38))) (Guard.isT (ltB rfl) rfl rfl) rfl (ltB rfl) (fun hq_61 => op_move (ltB rfl) (HasO.cnd (.tmp rfl) hq_61)) ?_
        refine JL.cnd (sv := .one (.val (A (rV 16 (rU UInt64)) t_1))) (Guard.cF (q := v_33) (ltB rfl) rfl rfl) rfl (ltB rfl) (fun hq_62 => op_loadA (j := 0) (ltB rfl) tA25 (.tmp rfl) rfl (Comp.self (rV 16 (rU UInt64)) t_1) rfl) ?_
        refine JL.cnd (sv := .one (.val (A (rV 16 (rU UInt64)) a_3))) (Guard.cF (q := v_33) (ltB rfl) rfl rfl) rfl (ltB rfl) (fun hq_63 => op_loadA (j := 1) (ltB rfl) tA25 (.tmp rfl) rfl (Comp.self (rV 16 (rU UInt64)) a_3) rfl) ?_
        replace hx31 := bnd_inv hx31
        obtain ⟨v_39, hv_v_39, hx31⟩ := hx31
        refine JL.cnd (sv := .one (.val (S rB v_39))) (Guard.cF (q := v_33) (ltB rfl) rfl rfl) rfl (ltB rfl) (fun hq_64 => (op_call (js := []) (ltD rfl) cl17 (sim_cursor_Covers k t_1 a_3 v_39 (ifT hv_v_39 hq_64)) .func (.cons (HasO.cnd (.tmp rfl) (andI (andL hq_64) (notT (notF (andR hq_64))))) (.cons (HasO.cnd (.tmp rfl) (andI (andL hq_64) (notT (notF (andR hq_64))))) .nil)) rfl).post (fun _ => Imp.refl)) ?_
        replace hx31 := lt1_inv hx31
        obtain ⟨v_40, hv_v_40, hx31⟩ := hx31
        refine JL.cnd (sv := .one (.val (S rB v_40))) (Guard.isT (ltB rfl) rfl rfl) rfl (ltB rfl) (fun hq_65 => op_pickCS (ltB rfl) (HasO.cnd (.tmp rfl) hq_65) (fun hb66 => .cB) (fun hb66 => (HasO.cnd (.tmp rfl) (andI hq_65 (notT hb66)))) hv_v_40) ?_
        refine JL.pre (Imp.norm (ρ' := [(64, .one (.val (S rB v_33))), (79, bif v_33 then .one (.val (S rB v_40)) else .one .und)]) (js := []) rfl (.cons rfl (.cons rfl .nil))) ?_
        refine JL.at ⟨[(64, .one (.val (S rB v_33))), (79, bif v_33 then .one (.val (S rB v_40)) else .one .und)], [], []⟩ ?_
        replace hx31 := lt1_inv hx31
        obtain ⟨v_41, hv_v_41, hx31⟩ := hx31
        refine JL.cons rfl (op_pickCS (ltB rfl) (.tmp rfl) (fun hb67 => (HasO.cnd (.tmp rfl) hb67)) (fun hb67 => .cB) hv_v_41) ?_
        refine JL.cons rfl (op_move (ltB rfl) (.tmp rfl)) ?_
        replace hx31 := bnd_inv hx31
        obtain ⟨v_42, hv_v_42, hx31⟩ := hx31
        refine JL.cnd (sv := .one (.val (S rB v_42))) (Guard.isT (ltB rfl) rfl rfl) rfl (ltB rfl) (fun hq_68 => (op_call (js := []) (ltD rfl) cl6 (sim_law10_known k v_42 (ifT hv_v_42 hq_68)) .func .nil rfl).post (fun _ => Imp.refl)) ?_
        replace hx31 := lt1_inv hx31
        obtain ⟨v_43, hv_v_43, hx31⟩ := hx31
        refine JL.cons rfl (op_pickCS (ltB rfl) (.tmp rfl) (fun hb69 => (HasO.cnd (.tmp rfl) hb69)) (fun hb69 => .cB) hv_v_43) ?_
        refine JL.cons rfl (op_assign (ltB rfl) (.tmp rfl)) ?_
        refine JL.nil ?_
        replace hx31 := Option.some.inj hx31
        first | subst hx31 | clear hx31
        exact JQ.join () (Imp.norm (js := []) rfl (.cons rfl .nil))
  · replace hx1 := bnd_inv hx1
    obtain ⟨v_9, hv_v_9, hx1⟩ := hx1
    replace hx1 := lt1_inv hx1
    obtain ⟨v_10, hv_v_10, hx1⟩ := hx1
    replace hx1 := bnd_inv hx1
    obtain ⟨v_11, hv_v_11, hx1⟩ := hx1
    replace hx1 := lt1_inv hx1
    obtain ⟨v_12, hv_v_12, hx1⟩ := hx1
    replace hx1 := lt1_inv hx1
    obtain ⟨v_13, hv_v_13, hx1⟩ := hx1
    replace hx1 := bnd_inv hx1
    obtain ⟨v_14, hv_v_14, hx1⟩ := hx1
    replace hx1 := lt1_inv hx1
    obtain ⟨v_15, hv_v_15, hx1⟩ := hx1
    replace hx1 := lt1_inv hx1
    obtain ⟨v_16, hv_v_16, hx1⟩ := hx1
    replace hx1 := bnd_inv hx1
    obtain ⟨v_17, hv_v_17, hx1⟩ := hx1
    replace hx1 := bnd_inv hx1
    obtain ⟨v_18, hv_v_18, hx1⟩ := hx1
    replace hx1 := lt1_inv hx1
    obtain ⟨v_19, hv_v_19, hx1⟩ := hx1
    replace hx1 := bnd_inv hx1
    obtain ⟨v_20, hv_v_20, hx1⟩ := hx1
    replace hx1 := lt1_inv hx1
    obtain ⟨v_21, hv_v_21, hx1⟩ := hx1
    replace hx1 := lt1_inv hx1
    obtain ⟨v_22, hv_v_22, hx1⟩ := hx1
    replace hx1 := lt1_inv hx1
    obtain ⟨v_23, hv_v_23, hx1⟩ := hx1
    refine JC.anyE (kl := []) (kk := 0) (base := [(3, .one (.val (PTR gb_4 0))), (4, .one (.val (PTR gb_5 0))), (5, .one (.val (PTR gb_6 0))), (7, .one (.val (PTR gb_8 0)))])
        (fs := fun γ => [⟨some 11, .one (.val (A (rV 16 (rU UInt64)) v_7))⟩, ⟨some 12, .one (.val (A (rV 16 (rU UInt64)) t_1))⟩, ⟨some 13, .one (.val (S rB v_9))⟩, ⟨some 14, .one (.val (S rB v_10))⟩, ⟨some 15, .one (.val (S rB v_10))⟩, ⟨some 16, bif (!v_10) then .one (.val (A (rV 16 (rU UInt64)) v_7)) else .one .und⟩, ⟨some 17, bif (!v_10) then .one (.val (A (rV 16 (rU UInt64)) a_2)) else .one .und⟩, ⟨some 18, bif (!v_10) then .one (.val (S rB v_11)) else .one .und⟩, ⟨some 19, bif (!v_10) then .one (.val (S rB v_12)) else .one .und⟩, ⟨some 20, .one (.val (S rB v_13))⟩, ⟨some 21, .one (.val (S rB v_13))⟩, ⟨some 22, bif (!v_13) then .one (.val (A (rV 16 (rU UInt64)) a_2)) else .one .und⟩, ⟨some 23, bif (!v_13) then .one (.val (A (rV 16 (rU UInt64)) t_1)) else .one .und⟩, ⟨some 24, bif (!v_13) then .one (.val (A (rV 16 (rU UInt64)) v_14)) else .one .und⟩, ⟨some 25, bif (!v_13) then .one (.val (A (rV 16 (rU UInt64)) v_7)) else .one .und⟩, ⟨some 26, bif (!v_13) then .one (.val (S rB v_15)) else .one .und⟩, ⟨some 27, .one (.val (S rB v_16))⟩, ⟨some 28, .one (.val (S rB v_16))⟩, ⟨some 29, bif (!v_16) then .one (.val (A (rV 16 (rU UInt64)) a_3)) else .one .und⟩, ⟨some 30, bif (!v_16) then .one (.val (A (rV 16 (rU UInt64)) t_1)) else .one .und⟩, ⟨some 31, bif (!v_16) then .one (.val (S rB v_17)) else .one .und⟩, ⟨some 32, bif (!v_16) then .one (.val (S rB v_17)) else .one .und⟩, ⟨some 33, bif ((!v_16) && v_17) then .one (.val (A (rV 16 (rU UInt64)) a_3)) else .one .und⟩, ⟨some 34, bif ((!v_16) && v_17) then .one (.val (A (rV 16 (rU UInt64)) a_2)) else .one .und⟩, ⟨some 35, bif ((!v_16) && v_17) then .one (.val (S rB v_18)) else .one .und⟩, ⟨some 36, bif (!v_16) then .one (.val (S rB v_19)) else .one .und⟩, ⟨some 37, bif (!v_16) then .one (.val (S rB v_19)) else .one .und⟩, ⟨some 38, bif ((!v_16) && v_19) then .one (.val (A (rV 16 (rU UInt64)) a_3)) else .one .und⟩, ⟨some 39, bif ((!v_16) && v_19) then .one (.val (A (rV 16 (rU UInt64)) v_7)) else .one .und⟩, ⟨some 40, bif ((!v_16) && v_19) then .one (.val (S rB v_20)) else .one .und⟩, ⟨some 41, bif ((!v_16) && v_19) then .one (.val (S rB v_21)) else .one .und⟩, ⟨some 42, bif (!v_16) then .one (.val (S rB v_22)) else .one .und⟩, ⟨some 43, .one (.val (S rB v_23))⟩])
        (rs := fun γ => [⟨cvar gb_4 (rV 16 (rU UInt64)) t_1, none, none, [1, 12, 19]⟩, ⟨cvar gb_5 (rV 16 (rU UInt64)) a_2, none, none, [6, 11, 23]⟩, ⟨cvar gb_6 (rV 16 (rU UInt64)) a_3, none, none, [18, 22, 27]⟩, ⟨cvar gb_8 (rV 16 (rU UInt64)) v_7, none, none, [0, 5, 14, 28]⟩])
        (ds := [11, 12, 13, 14, 15, 16, 17, 18, 19, 20, 21, 22, 23, 24, 25, 26, 27, 28, 29, 30, 31, 32, 33, 34, 35, 36, 37, 38, 39, 40, 41, 42, 43]) (bs := [3, 4, 5, 7]) (afts := [[], [], [], [], [], [], [], [], [], [], [], [], [], [], [], [], [], [], [], [], [], [], [], [], [], [], [], [], [], [], [], [], []]) (js := [0, 0, 0, 0]) mixed (.cons rfl (.cons rfl (.cons rfl (.cons rfl .nil)))) (fun _ => rfl)
        (by
      refine DSteps.cons (j := 1) rfl (fun _ => rfl) (.run (fun γ ρ B hb hd => ⟨.none, OpStep.at ⟨ρ, (cvar gb_8 (rV 16 (rU UInt64)) v_7) :: B, _⟩ (setO ⟨ρ, (cvar gb_8 (rV 16 (rU UInt64)) v_7) :: B, _⟩ (some 11) (.one (.val (A (rV 16 (rU UInt64)) v_7)))) (op_loadA (j := 0) (ltB rfl) tA25 (.tmp (hb 7 _ rfl)) rfl (Comp.self (rV 16 (rU UInt64)) v_7) rfl)⟩)) ?_
      refine DSteps.cons (j := 2) rfl (fun _ => rfl) (.run (fun γ ρ B hb hd => ⟨.none, OpStep.at ⟨ρ, (cvar gb_4 (rV 16 (rU UInt64)) t_1) :: B, _⟩ (setO ⟨ρ, (cvar gb_4 (rV 16 (rU UInt64)) t_1) :: B, _⟩ (some 12) (.one (.val (A (rV 16 (rU UInt64)) t_1)))) (op_loadA (j := 0) (ltB rfl) tA25 (.tmp (hb 3 _ rfl)) rfl (Comp.self (rV 16 (rU UInt64)) t_1) rfl)⟩)) ?_
      refine DSteps.cons (j := 3) rfl (fun _ => rfl) (.run (fun γ ρ B hb hd => ⟨.none, OpStep.at ⟨ρ, B, _⟩ (setO ⟨ρ, B, _⟩ (some 13) (.one (.val (S rB v_9)))) ((op_call (js := []) (ltD rfl) cl17 (sim_cursor_Covers k v_7 t_1 v_9 hv_v_9) .func (.cons (.tmp (hdl hd 0 11 rfl (by decide +kernel))) (.cons (.tmp (hdl hd 1 12 rfl (by decide +kernel))) .nil)) rfl).post (fun _ => Imp.refl))⟩)) ?_
      refine DSteps.cons (j := 4) rfl (fun _ => rfl) (.run (fun γ ρ B hb hd => ⟨.none, OpStep.at ⟨ρ, B, _⟩ (setO ⟨ρ, B, _⟩ (some 14) (.one (.val (S rB v_10)))) (op_not (ltB rfl) (.tmp (hdl hd 2 13 rfl (by decide +kernel))) hv_v_10)⟩)) ?_
      refine DSteps.cons (j := 5) rfl (fun _ => rfl) (.run (fun γ ρ B hb hd => ⟨.none, OpStep.at ⟨ρ, B, _⟩ (setO ⟨ρ, B, _⟩ (some 15) (.one (.val (S rB v_10)))) (op_move (ltB rfl) (.tmp (hdl hd 3 14 rfl (by decide +kernel))))⟩)) ?_
      refine DSteps.cons (j := 6) rfl (fun _ => rfl) (.cnd (q := (!v_10)) (sv := fun γ => .one (.val (A (rV 16 (rU UInt64)) v_7))) (fun _ => rfl) (fun _ => rfl) (fun d h => by cases h; exact ltB rfl) (fun _ => rfl) (fun γ ρ B hb hd => ⟨(Guard.isF (ltB rfl) rfl (hdl hd 4 15 rfl (by decide +kernel))), fun hq_2 => OpStep.at ⟨ρ, (cvar gb_8 (rV 16 (rU UInt64)) v_7) :: B, _⟩ (setO ⟨ρ, (cvar gb_8 (rV 16 (rU UInt64)) v_7) :: B, _⟩ (some 16) (.one (.val (A (rV 16 (rU UInt64)) v_7)))) (op_loadA (j := 0) (ltB rfl) tA25 (.tmp (hb 7 _ rfl)) rfl (Comp.self (rV 16 (rU UInt64)) v_7) rfl)⟩)) ?_
      refine DSteps.cons (j := 7) rfl (fun _ => rfl) (.cnd (q := (!v_10)) (sv := fun γ => .one (.val (A (rV 16 (rU UInt64)) a_2))) (fun _ => rfl) (fun _ => rfl) (fun d h => by cases h; exact ltB rfl) (fun _ => rfl) (fun γ ρ B hb hd => ⟨(Guard.isF (ltB rfl) rfl (hdl hd 4 15 rfl (by decide +kernel))), fun hq_3 => OpStep.at ⟨ρ, (cvar gb_5 (rV 16 (rU UInt64)) a_2) :: B, _⟩ (setO ⟨ρ, (cvar gb_5 (rV 16 (rU UInt64)) a_2) :: B, _⟩ (some 17) (.one (.val (A (rV 16 (rU UInt64)) a_2)))) (op_loadA (j := 0) (ltB rfl) tA25 (.tmp (hb 4 _ rfl)) rfl (Comp.self (rV 16 (rU UInt64)) a_2) rfl)⟩)) ?_
      refine DSteps.cons (j := 8) rfl (fun _ => rfl) (.cnd (q := (!v_10)) (sv := fun γ => .one (.val (S rB v_11))) (fun _ => rfl) (fun _ => rfl) (fun d h => by cases h; exact ltB rfl) (fun _ => rfl) (fun γ ρ B hb hd => ⟨(Guard.isF (ltB rfl) rfl (hdl hd 4 15 rfl (by decide +kernel))), fun hq_4 => OpStep.at ⟨ρ, B, _⟩ (setO ⟨ρ, B, _⟩ (some 18) (.one (.val (S rB v_11)))) ((op_call (js := []) (ltD rfl) cl17 (sim_cursor_Covers k v_7 a_2 v_11 (ifT hv_v_11 hq_4)) .func (.cons (HasO.cnd (.tmp (hdl hd 5 16 rfl (by decide +kernel))) (notT (notF hq_4))) (.cons (HasO.cnd (.tmp (hdl hd 6 17 rfl (by decide +kernel))) (notT (notF hq_4))) .nil)) rfl).post (fun _ => Imp.refl))⟩)) ?_
      refine DSteps.cons (j := 9) rfl (fun _ => rfl) (.cnd (q := (!v_10)) (sv := fun γ => .one (.val (S rB v_12))) (fun _ => rfl) (fun _ => rfl) (fun d h => by cases h; exact ltB rfl) (fun _ => rfl) (fun γ ρ B hb hd => ⟨(Guard.isF (ltB rfl) rfl (hdl hd 4 15 rfl (by decide +kernel))), fun hq_5 => OpStep.at ⟨ρ, B, _⟩ (setO ⟨ρ, B, _⟩ (some 19) (.one (.val (S rB v_12)))) (op_not (ltB rfl) (HasO.cnd (.tmp (hdl hd 7 18 rfl (by decide +kernel))) (notT (notF hq_5))) hv_v_12)⟩)) ?_
      refine DSteps.cons (j := 10) rfl (fun _ => rfl) (.run (fun γ ρ B hb hd => ⟨.none, OpStep.at ⟨ρ, B, _⟩ (setO ⟨ρ, B, _⟩ (some 20) (.one (.val (S rB v_13)))) (op_pickCS (ltB rfl) (.tmp (hdl hd 4 15 rfl (by decide +kernel))) (fun hb6 => .cB) (fun hb6 => (HasO.cnd (.tmp (hdl hd 8 19 rfl (by decide +kernel))) (notT hb6))) hv_v_13)⟩)) ?_
      refine DSteps.cons (j := 11) rfl (fun _ => rfl) (.run (fun γ ρ B hb hd => ⟨.none, OpStep.at ⟨ρ, B, _⟩ (setO ⟨ρ, B, _⟩ (some 21) (.one (.val (S rB v_13)))) (op_move (ltB rfl) (.tmp (hdl hd 9 20 rfl (by decide +kernel))))⟩)) ?_
      refine DSteps.cons (j := 12) rfl (fun _ => rfl) (.cnd (q := (!v_13)) (sv := fun γ => .one (.val (A (rV 16 (rU UInt64)) a_2))) (fun _ => rfl) (fun _ => rfl) (fun d h => by cases h; exact ltB rfl) (fun _ => rfl) (fun γ ρ B hb hd => ⟨(Guard.isF (ltB rfl) rfl (hdl hd 10 21 rfl (by decide +kernel))), fun hq_7 => OpStep.at ⟨ρ, (cvar gb_5 (rV 16 (rU UInt64)) a_2) :: B, _⟩ (setO ⟨ρ, (cvar gb_5 (rV 16 (rU UInt64)) a_2) :: B, _⟩ (some 22) (.one (.val (A (rV 16 (rU UInt64)) a_2)))) (op_loadA (j := 0) (ltB rfl) tA25 (.tmp (hb 4 _ rfl)) rfl (Comp.self (rV 16 (rU UInt64)) a_2) rfl)⟩)) ?_
      refine DSteps.cons (j := 13) rfl (fun _ => rfl) (.cnd (q := (!v_13)) (sv := fun γ => .one (.val (A (rV 16 (rU UInt64)) t_1))) (fun _ => rfl) (fun _ => rfl) (fun d h => by cases h; exact ltB rfl) (fun _ => rfl) (fun γ ρ B hb hd => ⟨(Guard.isF (ltB rfl) rfl (hdl hd 10 21 rfl (by decide +kernel))), fun hq_8 => OpStep.at ⟨ρ, (cvar gb_4 (rV 16 (rU UInt64)) t_1) :: B, _⟩ (setO ⟨ρ, (cvar gb_4 (rV 16 (rU UInt64)) t_1) :: B, _⟩ (some 23) (.one (.val (A (rV 16 (rU UInt64)) t_1)))) (op_loadA (j := 0) (ltB rfl) tA25 (.tmp (hb 3 _ rfl)) rfl (Comp.self (rV 16 (rU UInt64)) t_1) rfl)⟩)) ?_
      refine DSteps.cons (j := 14) rfl (fun _ => rfl) (.cnd (q := (!v_13)) (sv := fun γ => .one (.val (A (rV 16 (rU UInt64)) v_14))) (fun _ => rfl) (fun _ => rfl) (fun d h => by cases h; exact ltB rfl) (fun _ => rfl) (fun γ ρ B hb hd => ⟨(Guard.isF (ltB rfl) rfl (hdl hd 10 21 rfl (by decide +kernel))), fun hq_9 => OpStep.at ⟨ρ, B, _⟩ (setO ⟨ρ, B, _⟩ (some 24) (.one (.val (A (rV 16 (rU UInt64)) v_14)))) ((op_call (js := []) (ltD rfl) cl15 (sim_cursor_Join k a_2 t_1 v_14 (ifT hv_v_14 hq_9)) .func (.cons (HasO.cnd (.tmp (hdl hd 11 22 rfl (by decide +kernel))) (notT (notF hq_9))) (.cons (HasO.cnd (.tmp (hdl hd 12 23 rfl (by decide +kernel))) (notT (notF hq_9))) .nil)) rfl).post (fun _ => Imp.refl))⟩)) ?_
      refine DSteps.cons (j := 15) rfl (fun _ => rfl) (.cnd (q := (!v_13)) (sv := fun γ => .one (.val (A (rV 16 (rU UInt64)) v_7))) (fun _ => rfl) (fun _ => rfl) (fun d h => by cases h; exact ltB rfl) (fun _ => rfl) (fun γ ρ B hb hd => ⟨(Guard.isF (ltB rfl) rfl (hdl hd 10 21 rfl (by decide +kernel))), fun hq_10 => OpStep.at ⟨ρ, (cvar gb_8 (rV 16 (rU UInt64)) v_7) :: B, _⟩ (setO ⟨ρ, (cvar gb_8 (rV 16 (rU UInt64)) v_7) :: B, _⟩ (some 25) (.one (.val (A (rV 16 (rU UInt64)) v_7)))) (op_loadA (j := 0) (ltB rfl) tA25 (.tmp (hb 7 _ rfl)) rfl (Comp.self (rV 16 (rU UInt64)) v_7) rfl)⟩)) ?_
      refine DSteps.cons (j := 16) rfl (fun _ => rfl) (.cnd (q := (!v_13)) (sv := fun γ => .one (.val (S rB v_15))) (fun _ => rfl) (fun _ => rfl) (fun d h => by cases h; exact ltB rfl) (fun _ => rfl) (fun γ ρ B hb hd => ⟨(Guard.isF (ltB rfl) rfl (hdl hd 10 21 rfl (by decide +kernel))), fun hq_11 => OpStep.at ⟨ρ, B, _⟩ (setO ⟨ρ, B, _⟩ (some 26) (.one (.val (S rB v_15)))) (op_neA (ltB rfl) qa25 (by decide) ng25 (HasO.cnd (.tmp (hdl hd 13 24 rfl (by decide +kernel))) (notT (notF hq_11))) (HasO.cnd (.tmp (hdl hd 14 25 rfl (by decide +kernel))) (notT (notF hq_11))) hv_v_15)⟩)) ?_
      refine DSteps.cons (j := 17) rfl (fun _ => rfl) (.run (fun γ ρ B hb hd => ⟨.none, OpStep.at ⟨ρ, B, _⟩ (setO ⟨ρ, B, _⟩ (some 27) (.one (.val (S rB v_16)))) (op_pickCS (ltB rfl) (.tmp (hdl hd 10 21 rfl (by decide +kernel))) (fun hb12 => .cB) (fun hb12 => (HasO.cnd (.tmp (hdl hd 15 26 rfl (by decide +kernel))) (notT hb12))) hv_v_16)⟩)) ?_
      refine DSteps.cons (j := 18) rfl (fun _ => rfl) (.run (fun γ ρ B hb hd => ⟨.none, OpStep.at ⟨ρ, B, _⟩ (setO ⟨ρ, B, _⟩ (some 28) (.one (.val (S rB v_16)))) (op_move (ltB rfl) (.tmp (hdl hd 16 27 rfl (by decide +kernel))))⟩)) ?_
      refine DSteps.cons (j := 19) rfl (fun _ => rfl) (.cnd (q := (!v_16)) (sv := fun γ => .one (.val (A (rV 16 (rU UInt64)) a_3))) (fun _ => rfl) (fun _ => rfl) (fun d h => by cases h; exact ltB rfl) (fun _ => rfl) (fun γ ρ B hb hd => ⟨(Guard.isF (ltB rfl) rfl (hdl hd 17 28 rfl (by decide +kernel))), fun hq_13 => OpStep.at ⟨ρ, (cvar gb_6 (rV 16 (rU UInt64)) a_3) :: B, _⟩ (setO ⟨ρ, (cvar gb_6 (rV 16 (rU UInt64)) a_3) :: B, _⟩ (some 29) (.one (.val (A (rV 16 (rU UInt64)) a_3)))) (op_loadA (j := 0) (ltB rfl) tA25 (.tmp (hb 5 _ rfl)) rfl (Comp.self (rV 16 (rU UInt64)) a_3) rfl)⟩)) ?_
      refine DSteps.cons (j := 20) rfl (fun _ => rfl) (.cnd (q := (!v_16)) (sv := fun γ => .one (.val (A (rV 16 (rU UInt64)) t_1))) (fun _ => rfl) (fun _ => rfl) (fun d h => by cases h; exact ltB rfl) (fun _ => rfl) (fun γ ρ B hb hd => ⟨(Guard.isF (ltB rfl) rfl (hdl hd 17 28 rfl (by decide +kernel))), fun hq_14 => OpStep.at ⟨ρ, (cvar gb_4 (rV 16 (rU UInt64)) t_1) :: B, _⟩ (setO ⟨ρ, (cvar gb_4 (rV 16 (rU UInt64)) t_1) :: B, _⟩ (some 30) (.one (.val (A (rV 16 (rU UInt64)) t_1)))) (op_loadA (j := 0) (ltB rfl) tA25 (.tmp (hb 3 _ rfl)) rfl (Comp.self (rV 16 (rU UInt64)) t_1) rfl)⟩)) ?_
      refine DSteps.cons (j := 21) rfl (fun _ => rfl) (.cnd (q := (!v_16)) (sv := fun γ => .one (.val (S rB v_17))) (fun _ => rfl) (fun _ => rfl) (fun d h => by cases h; exact ltB rfl) (fun _ => rfl) (fun γ ρ B hb hd => ⟨(Guard.isF (ltB rfl) rfl (hdl hd 17 28 rfl (by decide +kernel))), fun hq_15 => OpStep.at ⟨ρ, B, _⟩ (setO ⟨ρ, B, _⟩ (some 31) (.one (.val (S rB v_17)))) ((op_call (js := []) (ltD rfl) cl17 (sim_cursor_Covers k a_3 t_1 v_17 (ifT hv_v_17 hq_15)) .func (.cons (HasO.cnd (.tmp (hdl hd 18 29 rfl (by decide +kernel))) (notT (notF hq_15))) (.cons (HasO.cnd (.tmp (hdl hd 19 30 rfl (by decide +kernel))) (notT (notF hq_15))) .nil)) rfl).post (fun _ => Imp.refl))⟩)) ?_
      refine DSteps.cons (j := 22) rfl (fun _ => rfl) (.cnd (q := (!v_16)) (sv := fun γ => .one (.val (S rB v_17))) (fun _ => rfl) (fun _ => rfl) (fun d h => by cases h; exact ltB rfl) (fun _ => rfl) (fun γ ρ B hb hd => ⟨(Guard.isF (ltB rfl) rfl (hdl hd 17 28 rfl (by decide +kernel))), fun hq_16 => OpStep.at ⟨ρ, B, _⟩ (setO ⟨ρ, B, _⟩ (some 32) (.one (.val (S rB v_17)))) (op_move (ltB rfl) (HasO.cnd (.tmp (hdl hd 20 31 rfl (by decide +kernel))) (notT (notF hq_16))))⟩)) ?_
      refine DSteps.cons (j := 23) rfl (fun _ => rfl) (.cnd (q := ((!v_16) && v_17)) (sv := fun γ => .one (.val (A (rV 16 (rU UInt64)) a_3))) (fun _ => rfl) (fun _ => rfl) (fun d h => by cases h; exact ltB rfl) (fun _ => rfl) (fun γ ρ B hb hd => ⟨(Guard.cT (q := (!v_16)) (ltB rfl) rfl (hdl hd 21 32 rfl (by decide +kernel))), fun hq_17 => OpStep.at ⟨ρ, (cvar gb_6 (rV 16 (rU UInt64)) a_3) :: B, _⟩ (setO ⟨ρ, (cvar gb_6 (rV 16 (rU UInt64)) a_3) :: B, _⟩ (some 33) (.one (.val (A (rV 16 (rU UInt64)) a_3)))) (op_loadA (j := 0) (ltB rfl) tA25 (.tmp (hb 5 _ rfl)) rfl (Comp.self (rV 16 (rU UInt64)) a_3) rfl)⟩)) ?_
      refine DSteps.cons (j := 24) rfl (fun _ => rfl) (.cnd (q := ((!v_16) && v_17)) (sv := fun γ => .one (.val (A (rV 16 (rU UInt64)) a_2))) (fun _ => rfl) (fun _ => rfl) (fun d h => by cases h; exact ltB rfl) (fun _ => rfl) (fun γ ρ B hb hd => ⟨(Guard.cT (q := (!v_16)) (ltB rfl) rfl (hdl hd 21 32 rfl (by decide +kernel))), fun hq_18 => OpStep.at ⟨ρ, (cvar gb_5 (rV 16 (rU UInt64)) a_2) :: B, _⟩ (setO ⟨ρ, (cvar gb_5 (rV 16 (rU UInt64)) a_2) :: B, _⟩ (some 34) (.one (.val (A (rV 16 (rU UInt64)) a_2)))) (op_loadA (j := 0) (ltB rfl) tA25 (.tmp (hb 4 _ rfl)) rfl (Comp.self (rV 16 (rU UInt64)) a_2) rfl)⟩)) ?_
      refine DSteps.cons (j := 25) rfl (fun _ => rfl) (.cnd (q := ((!v_16) && v_17)) (sv := fun γ => .one (.val (S rB v_18))) (fun _ => rfl) (fun _ => rfl) (fun d h => by cases h; exact ltB rfl) (fun _ => rfl) (fun γ ρ B hb hd => ⟨(Guard.cT (q := (!v_16)) (ltB rfl) rfl (hdl hd 21 32 rfl (by decide +kernel))), fun hq_19 => OpStep.at ⟨ρ, B, _⟩ (setO ⟨ρ, B, _⟩ (some 35) (.one (.val (S rB v_18)))) ((op_call (js := []) (ltD rfl) cl17 (sim_cursor_Covers k a_3 a_2 v_18 (ifT hv_v_18 hq_19)) .func (.cons (HasO.cnd (.tmp (hdl hd 22 33 rfl (by decide +kernel))) (andI (notT (notF (andL hq_19))) (andR hq_19))) (.cons (HasO.cnd (.tmp (hdl hd 23 34 rfl (by decide +kernel))) (andI (notT (notF (andL hq_19))) (andR hq_19))) .nil)) rfl).post (fun _ => Imp.refl))⟩)) ?_
      refine DSteps.cons (j := 26) rfl (fun _ => rfl) (.cnd (q := (!v_16)) (sv := fun γ => .one (.val (S rB v_19))) (fun _ => rfl) (fun _ => rfl) (fun d h => by cases h; exact ltB rfl) (fun _ => rfl) (fun γ ρ B hb hd => ⟨(Guard.isF (ltB rfl) rfl (hdl hd 17 28 rfl (by decide +kernel))), fun hq_20 => OpStep.at ⟨ρ, B, _⟩ (setO ⟨ρ, B, _⟩ (some 36) (.one (.val (S rB v_19)))) (op_pickCS (ltB rfl) (HasO.cnd (.tmp (hdl hd 21 32 rfl (by decide +kernel))) (notT (notF hq_20))) (fun hb21 => (HasO.cnd (.tmp (hdl hd 24 35 rfl (by decide +kernel))) (andI (notT (notF hq_20)) hb21))) (fun hb21 => .cB) hv_v_19)⟩)) ?_
      refine DSteps.cons (j := 27) rfl (fun _ => rfl) (.cnd (q := (!v_16)) (sv := fun γ => .one (.val (S rB v_19))) (fun _ => rfl) (fun _ => rfl) (fun d h => by cases h; exact ltB rfl) (fun _ => rfl) (fun γ ρ B hb hd => ⟨(Guard.isF (ltB rfl) rfl (hdl hd 17 28 rfl (by decide +kernel))), fun hq_22 => OpStep.at ⟨ρ, B, _⟩ (setO ⟨ρ, B, _⟩ (some 37) (.one (.val (S rB v_19)))) (op_move (ltB rfl) (HasO.cnd (.tmp (hdl hd 25 36 rfl (by decide +kernel))) (notT (notF hq_22))))⟩)) ?_
      refine DSteps.cons (j := 28) rfl (fun _ => rfl) (.cnd (q := ((!v_16) && v_19)) (sv := fun γ => .one (.val (A (rV 16 (rU UInt64)) a_3))) (fun _ => rfl) (fun _ => rfl) (fun d h => by cases h; exact ltB rfl) (fun _ => rfl) (fun γ ρ B hb hd => ⟨(Guard.cT (q := (!v_16)) (ltB rfl) rfl (hdl hd 26 37 rfl (by decide +kernel))), fun hq_23 => OpStep.at ⟨ρ, (cvar gb_6 (rV 16 (rU UInt64)) a_3) :: B, _⟩ (setO ⟨ρ, (cvar gb_6 (rV 16 (rU UInt64)) a_3) :: B, _⟩ (some 38) (.one (.val (A (rV 16 (rU UInt64)) a_3)))) (op_loadA (j := 0) (ltB rfl) tA25 (.tmp (hb 5 _ rfl)) rfl (Comp.self (rV 16 (rU UInt64)) a_3) rfl)⟩)) ?_
      refine DSteps.cons (j := 29) rfl (fun _ => rfl) (.cnd (q := ((!v_16) && v_19)) (sv := fun γ => .one (.val (A (rV 16 (rU UInt64)) v_7))) (fun _ => rfl) (fun _ => rfl) (fun d h => by cases h; exact ltB rfl) (fun _ => rfl) (fun γ ρ B hb hd => ⟨(Guard.cT (q := (!v_16)) (ltB rfl) rfl (hdl hd 26 37 rfl (by decide +kernel))), fun hq_24 => OpStep.at ⟨ρ, (cvar gb_8 (rV 16 (rU UInt64)) v_7) :: B, _⟩ (setO ⟨ρ, (cvar gb_8 (rV 16 (rU UInt64)) v_7) :: B, _⟩ (some 39) (.one (.val (A (rV 16 (rU UInt64)) v_7)))) (op_loadA (j := 0) (ltB rfl) tA25 (.tmp (hb 7 _ rfl)) rfl (Comp.self (rV 16 (rU UInt64)) v_7) rfl)⟩)) ?_
      refine DSteps.cons (j := 30) rfl (fun _ => rfl) (.cnd (q := ((!v_16) && v_19)) (sv := fun γ => .one (.val (S rB v_20))) (fun _ => rfl) (fun _ => rfl) (fun d h => by cases h; exact ltB rfl) (fun _ => rfl) (fun γ ρ B hb hd => ⟨(Guard.cT (q := (!v_16)) (ltB rfl) rfl (hdl hd 26 37 rfl (by decide +kernel))), fun hq_25 => OpStep.at ⟨ρ, B, _⟩ (setO ⟨ρ, B, _⟩ (some 40) (.one (.val (S rB v_20)))) ((op_call (js := []) (ltD rfl) cl17 (sim_cursor_Covers k a_3 v_7 v_20 (ifT hv_v_20 hq_25)) .func (.cons (HasO.cnd (.tmp (hdl hd 27 38 rfl (by decide +kernel))) (andI (notT (notF (andL hq_25))) (andR hq_25))) (.cons (HasO.cnd (.tmp (hdl hd 28 39 rfl (by decide +kernel))) (andI (notT (notF (andL hq_25))) (andR hq_25))) .nil)) rfl).post (fun _ => Imp.refl))⟩)) ?_
      refine DSteps.cons (j := 31) rfl (fun _ => rfl) (.cnd (q := ((!v_16) && v_19)) (sv := fun γ => .one (.val (S rB v_21))) (fun _ => rfl) (fun _ => rfl) (fun d h => by cases h; exact ltB rfl) (fun _ => rfl) (fun γ ρ B hb hd => ⟨(Guard.cT (q := (!v_16)) (ltB rfl) rfl (hdl hd 26 37 rfl (by decide +kernel))), fun hq_26 => OpStep.at ⟨ρ, B, _⟩ (setO ⟨ρ, B, _⟩ (some 41) (.one (.val (S rB v_21)))) (op_not (ltB rfl) (HasO.cnd (.tmp (hdl hd 29 40 rfl (by decide +kernel))) (andI (notT (notF (andL hq_26))) (andR hq_26))) hv_v_21)⟩)) ?_
      refine DSteps.cons (j := 32) rfl (fun _ => rfl) (.cnd (q := (!v_16)) (sv := fun γ => .one (.val (S rB v_22))) (fun _ => rfl) (fun _ => rfl) (fun d h => by cases h; exact ltB rfl) (fun _ => rfl) (fun γ ρ B hb hd => ⟨(Guard.isF (ltB rfl) rfl (hdl hd 17 28 rfl (by decide +kernel))), fun hq_27 => OpStep.at ⟨ρ, B, _⟩ (setO ⟨ρ, B, _⟩ (some 42) (.one (.val (S rB v_22)))) (op_pickCS (ltB rfl) (HasO.cnd (.tmp (hdl hd 26 37 rfl (by decide +kernel))) (notT (notF hq_27))) (fun hb28 => (HasO.cnd (.tmp (hdl hd 30 41 rfl (by decide +kernel))) (andI (notT (notF hq_27)) hb28))) (fun hb28 => .cB) hv_v_22)⟩)) ?_
      refine DSteps.cons (j := 33) rfl (fun _ => rfl) (.run (fun γ ρ B hb hd => ⟨.none, OpStep.at ⟨ρ, B, _⟩ (setO ⟨ρ, B, _⟩ (some 43) (.one (.val (S rB v_23)))) (op_pickCS (ltB rfl) (.tmp (hdl hd 17 28 rfl (by decide +kernel))) (fun hb29 => .cB) (fun hb29 => (HasO.cnd (.tmp (hdl hd 31 42 rfl (by decide +kernel))) (notT hb29))) hv_v_23)⟩)) ?_
      exact DSteps.nil)
        (by decide +kernel) (fun _ => rfl) rfl (fun _ => rfl) (fun _ => rfl) rfl (by decide) (by decide) (by decide +kernel) (fun _ d h => by cases h)
        (ρ' := fun γ => [(3, .one (.val (PTR gb_4 0))), (4, .one (.val (PTR gb_5 0))), (5, .one (.val (PTR gb_6 0))), (43, .one (.val (S rB v_23)))])
        (X' := fun γ => [cvar gb_4 (rV 16 (rU UInt64)) t_1, cvar gb_5 (rV 16 (rU UInt64)) a_2, cvar gb_6 (rV 16 (rU UInt64)) a_3, cvar gb_8 (rV 16 (rU UInt64)) v_7])
        (fun γ ρ hb hd => (.cons (hb 3 _ rfl (by decide)) (.cons (hb 4 _ rfl (by decide)) (.cons (hb 5 _ rfl (by decide)) (.cons (hdq hd 32 43 rfl) .nil))))) (fun _ => rfl) (fun γ => ?_)
    refine JQ.at ⟨[(3, .one (.val (PTR gb_4 0))), (4, .one (.val (PTR gb_5 0))), (5, .one (.val (PTR gb_6 0))), (43, .one (.val (S rB v_23)))], [cvar gb_4 (rV 16 (rU UInt64)) t_1, cvar gb_5 (rV 16 (rU UInt64)) a_2, cvar gb_6 (rV 16 (rU UInt64)) a_3, cvar gb_8 (rV 16 (rU UInt64)) v_7], []⟩ ?_
    replace hx1 := Option.some.inj hx1
    first | subst hx1 | clear hx1
    exact JQ.join () (Imp.norm (js := [0, 0, 0]) rfl (.cons rfl (.cons rfl (.cons rfl (.cons rfl .nil)))))

end Go.Proofs.Ytnhiiabdoichlaa
