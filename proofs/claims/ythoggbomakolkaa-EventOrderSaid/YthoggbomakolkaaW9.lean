/- Walks. -/
import Derived.Test.YthoggbomakolkaaT
import Derived.Test.YthoggbomakolkaaW0
import Derived.Test.YthoggbomakolkaaW4
import Derived.Test.YthoggbomakolkaaW8
namespace Go.Proofs.Ythoggbomakolkaa
open Go Fw
set_option linter.unusedVariables false
set_option maxRecDepth 100000
set_option maxHeartbeats 4000000

theorem sim_law09_EventOrder (k : Nat) (t_1 : api_Event) (a_2 : api_Event) (a_3 : api_Event) (r : Bool) (hm : law09_EventOrder k t_1 a_2 a_3 = some r) : Sim Try.prog 5 [A r_api_Event t_1, A r_api_Event a_2, A r_api_Event a_3] [] (γ := Unit) (fun q => []) (fun q => .one (.val (S rB r))) := by
  unfold law09_EventOrder at hm
  refine Sim.of Try.func5 rfl rfl (Nat.le_of_ble_eq_true rfl) (fun e0 w0 => ?_)
  refine JC.at ⟨[(0, .one (.val (A r_api_Event t_1))), (1, .one (.val (A r_api_Event a_2))), (2, .one (.val (A r_api_Event a_3)))], [], []⟩ ?_
  refine JC.seq ?_
  refine JC.region ?_
  refine JL.consX rfl (op_boxA (ltB rfl) (.tmp rfl)) (fun q => ?_)
  obtain ⟨gb_4, hqq⟩ : ∃ z, z = q := ⟨_, rfl⟩
  subst hqq
  refine JL.pre (Imp.sub (ρ' := [(1, .one (.val (A r_api_Event a_2))), (2, .one (.val (A r_api_Event a_3))), (3, .one (.val (PTR gb_4 0)))]) (.cons rfl (.cons rfl (.cons rfl .nil)))) ?_
  refine JL.at ⟨[(1, .one (.val (A r_api_Event a_2))), (2, .one (.val (A r_api_Event a_3))), (3, .one (.val (PTR gb_4 0)))], [cvar gb_4 r_api_Event t_1], []⟩ ?_
  refine JL.consX rfl (op_boxA (ltB rfl) (.tmp rfl)) (fun q => ?_)
  obtain ⟨gb_5, hqq⟩ : ∃ z, z = q := ⟨_, rfl⟩
  subst hqq
  refine JL.pre (Imp.sub (ρ' := [(2, .one (.val (A r_api_Event a_3))), (3, .one (.val (PTR gb_4 0))), (4, .one (.val (PTR gb_5 0)))]) (.cons rfl (.cons rfl (.cons rfl .nil)))) ?_
  refine JL.at ⟨[(2, .one (.val (A r_api_Event a_3))), (3, .one (.val (PTR gb_4 0))), (4, .one (.val (PTR gb_5 0)))], [cvar gb_4 r_api_Event t_1, cvar gb_5 r_api_Event a_2], []⟩ ?_
  refine JL.consX rfl (op_boxA (ltB rfl) (.tmp rfl)) (fun q => ?_)
  obtain ⟨gb_6, hqq⟩ : ∃ z, z = q := ⟨_, rfl⟩
  subst hqq
  refine JL.pre (Imp.sub (ρ' := [(3, .one (.val (PTR gb_4 0))), (4, .one (.val (PTR gb_5 0))), (5, .one (.val (PTR gb_6 0)))]) (.cons rfl (.cons rfl (.cons rfl .nil)))) ?_
  refine JL.at ⟨[(3, .one (.val (PTR gb_4 0))), (4, .one (.val (PTR gb_5 0))), (5, .one (.val (PTR gb_6 0)))], [cvar gb_4 r_api_Event t_1, cvar gb_5 r_api_Event a_2, cvar gb_6 r_api_Event a_3], []⟩ ?_
  refine JL.cons rfl (op_assign (ltB rfl) .cB) ?_
  refine JL.nil ?_
  refine JQ.then ?_
  refine JC.seq ?_
  obtain ⟨x_12, hx1, hq1⟩ := bnd_inv hm
  refine JC.seqJ (γ := Unit) (stj := fun q => ⟨[(3, .one (.val (PTR gb_4 0))), (4, .one (.val (PTR gb_5 0))), (5, .one (.val (PTR gb_6 0))), (16, .one (.val (S rB x_12)))], [cvar gb_4 r_api_Event t_1, cvar gb_5 r_api_Event a_2, cvar gb_6 r_api_Event a_3], []⟩) (fun q => ?_) ?_
  · obtain _ := q
    refine JC.at ⟨[(3, .one (.val (PTR gb_4 0))), (4, .one (.val (PTR gb_5 0))), (5, .one (.val (PTR gb_6 0))), (16, .one (.val (S rB x_12)))], [cvar gb_4 r_api_Event t_1, cvar gb_5 r_api_Event a_2, cvar gb_6 r_api_Event a_3], []⟩ ?_
    rcases iteB_inv hq1 with ⟨hc8, hq1⟩ | ⟨hc8, hq1⟩
    · refine JC.condT (.tmp rfl) hc8 ?_
      refine JC.seq ?_
      refine JC.region ?_
      replace hq1 := bnd_inv hq1
      obtain ⟨v_13, hv_v_13, hq1⟩ := hq1
      refine JL.consX rfl (op_call (js := []) (ltD rfl) cl10 (sim_law09_known k v_13 hv_v_13) .func .nil rfl) (fun _ => ?_)
      refine JL.cons rfl (op_assign (ltB rfl) (.tmp rfl)) ?_
      refine JL.nil ?_
      refine JQ.then ?_
      refine JC.ret ?_
      refine JQ.outR ?_
      replace hq1 := Option.some.inj hq1
      subst hq1
      exact JQ.done (js := []) (ss := [.val (S rB v_13)]) () (.inl rfl) (.nil rfl) rfl (.cons (.tmp rfl) .nil) rfl rfl rfl
    · refine JC.condF (.tmp rfl) hc8 ?_
      refine JC.skip ?_
      refine JQ.then ?_
      refine JC.seq ?_
      obtain ⟨x_22, hx9, hq9⟩ := bnd_inv hq1
      refine JC.seqJ (γ := Unit) (stj := fun q => ⟨[(3, .one (.val (PTR gb_4 0))), (4, .one (.val (PTR gb_5 0))), (41, .one (.val (S rB x_22)))], [cvar gb_4 r_api_Event t_1, cvar gb_5 r_api_Event a_2], []⟩) (fun q => ?_) ?_
      · obtain _ := q
        refine JC.at ⟨[(3, .one (.val (PTR gb_4 0))), (4, .one (.val (PTR gb_5 0))), (41, .one (.val (S rB x_22)))], [cvar gb_4 r_api_Event t_1, cvar gb_5 r_api_Event a_2], []⟩ ?_
        rcases iteB_inv hq9 with ⟨hc21, hq9⟩ | ⟨hc21, hq9⟩
        · refine JC.condT (.tmp rfl) hc21 ?_
          refine JC.seq ?_
          refine JC.region ?_
          refine JL.cons rfl (op_assign (ltB rfl) .cB) ?_
          refine JL.nil ?_
          refine JQ.then ?_
          refine JC.ret ?_
          refine JQ.outR ?_
          replace hq9 := Option.some.inj hq9
          subst hq9
          exact JQ.done (js := []) (ss := [.val (S rB false)]) () (.inl rfl) (.nil rfl) rfl (.cons (.tmp rfl) .nil) rfl rfl rfl
        · refine JC.condF (.tmp rfl) hc21 ?_
          refine JC.skip ?_
          refine JQ.then ?_
          refine JC.seq ?_
          obtain ⟨x_30, hx22, hq22⟩ := bnd_inv hq9
          refine JC.seqJ (γ := Unit) (stj := fun q => ⟨[(69, .one (.val (S rB x_30)))], [], []⟩) (fun q => ?_) ?_
          · obtain _ := q
            refine JC.at ⟨[(69, .one (.val (S rB x_30)))], [], []⟩ ?_
            rcases iteB_inv hq22 with ⟨hc31, hq22⟩ | ⟨hc31, hq22⟩
            · refine JC.condT (.tmp rfl) hc31 ?_
              refine JC.seq ?_
              refine JC.region ?_
              refine JL.cons rfl (op_assign (ltB rfl) .cB) ?_
              refine JL.nil ?_
              refine JQ.then ?_
              refine JC.ret ?_
              refine JQ.outR ?_
              replace hq22 := Option.some.inj hq22
              subst hq22
              exact JQ.done (js := []) (ss := [.val (S rB false)]) () (.inl rfl) (.nil rfl) rfl (.cons (.tmp rfl) .nil) rfl rfl rfl
            · refine JC.condF (.tmp rfl) hc31 ?_
              refine JC.skip ?_
              refine JQ.then ?_
              refine JC.seq ?_
              refine JC.region ?_
              replace hq22 := bnd_inv hq22
              obtain ⟨v_31, hv_v_31, hq22⟩ := hq22
              refine JL.consX rfl (op_call (js := []) (ltD rfl) cl10 (sim_law09_known k v_31 hv_v_31) .func .nil rfl) (fun _ => ?_)
              refine JL.cons rfl (op_assign (ltB rfl) (.tmp rfl)) ?_
              refine JL.nil ?_
              refine JQ.then ?_
              refine JC.ret ?_
              replace hq22 := Option.some.inj hq22
              subst hq22
              exact JQ.done (js := []) (ss := [.val (S rB v_31)]) () (.inl rfl) (.nil rfl) rfl (.cons (.tmp rfl) .nil) rfl rfl rfl
          · replace hx22 := bnd_inv hx22
            obtain ⟨v_23, hv_v_23, hx22⟩ := hx22
            replace hx22 := bnd_inv hx22
            obtain ⟨v_24, hv_v_24, hx22⟩ := hx22
            replace hx22 := lt1_inv hx22
            obtain ⟨v_25, hv_v_25, hx22⟩ := hx22
            rcases iteB_inv hx22 with ⟨hc28, hx22⟩ | ⟨hc28, hx22⟩
            · replace hx22 := bnd_inv hx22
              obtain ⟨v_26, hv_v_26, hx22⟩ := hx22
              replace hx22 := lt1_inv hx22
              obtain ⟨v_27, hv_v_27, hx22⟩ := hx22
              rcases iteB_inv hx22 with ⟨hc30, hx22⟩ | ⟨hc30, hx22⟩
              · replace hx22 := bnd_inv hx22
                obtain ⟨v_28, hv_v_28, hx22⟩ := hx22
                replace hx22 := lt1_inv hx22
                obtain ⟨v_29, hv_v_29, hx22⟩ := hx22
                refine JC.anyE (base := [(3, .one (.val (PTR gb_4 0))), (4, .one (.val (PTR gb_5 0)))])
                    (fs := fun γ => [⟨some 42, .one (.val (A r_api_Event t_1))⟩, ⟨some 43, .one (.val (A r_api_Event a_2))⟩, ⟨some 44, .one (.val (S rB v_23))⟩, ⟨some 45, .one (.val (S rB v_23))⟩, ⟨some 46, bif v_23 then .one (.val (A r_api_Event a_2)) else .one .und⟩, ⟨some 47, bif v_23 then .one (.val (A r_api_Event t_1)) else .one .und⟩, ⟨some 48, bif v_23 then .one (.val (S rB v_24)) else .one .und⟩, ⟨some 49, .one (.val (S rB v_25))⟩, ⟨some 50, .one (.val (S rB v_25))⟩, ⟨some 51, .one (.val (PTR gb_4 (0 + 4)))⟩, ⟨some 52, .one (.val (A (rV 16 (rU UInt64)) t_1.Past))⟩, ⟨some 53, .one (.val (PTR gb_5 (0 + 4)))⟩, ⟨some 54, .one (.val (A (rV 16 (rU UInt64)) a_2.Past))⟩, ⟨some 55, .one (.val (A (rV 16 (rU UInt64)) v_26))⟩, ⟨some 56, .one (.val (PTR gb_4 (0 + 4)))⟩, ⟨some 57, .one (.val (A (rV 16 (rU UInt64)) t_1.Past))⟩, ⟨some 58, .one (.val (S rB v_27))⟩, ⟨some 59, .one (.val (S rB v_27))⟩, ⟨some 60, .one (.val (S rB v_27))⟩, ⟨some 61, .one (.val (PTR gb_5 (0 + 4)))⟩, ⟨some 62, .one (.val (A (rV 16 (rU UInt64)) a_2.Past))⟩, ⟨some 63, .one (.val (PTR gb_4 (0 + 4)))⟩, ⟨some 64, .one (.val (A (rV 16 (rU UInt64)) t_1.Past))⟩, ⟨some 65, .one (.val (A (rV 16 (rU UInt64)) v_28))⟩, ⟨some 66, .one (.val (PTR gb_5 (0 + 4)))⟩, ⟨some 67, .one (.val (A (rV 16 (rU UInt64)) a_2.Past))⟩, ⟨some 68, .one (.val (S rB v_29))⟩, ⟨some 69, .one (.val (S rB v_29))⟩])
                    (rs := fun γ => [⟨cvar gb_4 r_api_Event t_1, none, none, [0, 5, 10, 15, 22]⟩, ⟨cvar gb_5 r_api_Event a_2, none, none, [1, 4, 12, 20, 25]⟩])
                    (ds := [42, 43, 44, 45, 46, 47, 48, 49, 50, 51, 52, 53, 54, 55, 56, 57, 58, 59, 60, 61, 62, 63, 64, 65, 66, 67, 68, 69]) (bs := [3, 4]) (afts := [[], [], [], [], [], [], [], [], [], [], [], [], [], [], [], [], [], [], [], [], [], [], [], [], [], [], [], []]) (js := [0, 0]) mixed (.cons rfl (.cons rfl .nil)) (fun _ => rfl)
                    (by
      refine DSteps.cons (j := 1) rfl (fun _ => rfl) (.run (fun γ ρ B hb hd => ⟨.none, OpStep.at ⟨ρ, (cvar gb_4 r_api_Event t_1) :: B, _⟩ (setO ⟨ρ, (cvar gb_4 r_api_Event t_1) :: B, _⟩ (some 42) (.one (.val (A r_api_Event t_1)))) (op_loadA (j := 0) (ltB rfl) tA38 (.tmp (hb 3 _ rfl)) rfl (Comp.self r_api_Event t_1) rfl)⟩)) ?_
      refine DSteps.cons (j := 2) rfl (fun _ => rfl) (.run (fun γ ρ B hb hd => ⟨.none, OpStep.at ⟨ρ, (cvar gb_5 r_api_Event a_2) :: B, _⟩ (setO ⟨ρ, (cvar gb_5 r_api_Event a_2) :: B, _⟩ (some 43) (.one (.val (A r_api_Event a_2)))) (op_loadA (j := 0) (ltB rfl) tA38 (.tmp (hb 4 _ rfl)) rfl (Comp.self r_api_Event a_2) rfl)⟩)) ?_
      refine DSteps.cons (j := 3) rfl (fun _ => rfl) (.run (fun γ ρ B hb hd => ⟨.none, OpStep.at ⟨ρ, B, _⟩ (setO ⟨ρ, B, _⟩ (some 44) (.one (.val (S rB v_23)))) ((op_call (js := []) (ltD rfl) cl15 (sim_event_Before k t_1 a_2 v_23 hv_v_23) .func (.cons (.tmp (hdl hd 0 42 rfl (by decide +kernel))) (.cons (.tmp (hdl hd 1 43 rfl (by decide +kernel))) .nil)) rfl).post (fun _ => Imp.refl))⟩)) ?_
      refine DSteps.cons (j := 4) rfl (fun _ => rfl) (.run (fun γ ρ B hb hd => ⟨.none, OpStep.at ⟨ρ, B, _⟩ (setO ⟨ρ, B, _⟩ (some 45) (.one (.val (S rB v_23)))) (op_move (ltB rfl) (.tmp (hdl hd 2 44 rfl (by decide +kernel))))⟩)) ?_
      refine DSteps.cons (j := 5) rfl (fun _ => rfl) (.cnd (q := v_23) (sv := fun γ => .one (.val (A r_api_Event a_2))) (fun _ => rfl) (fun _ => rfl) (fun d h => by cases h; exact ltB rfl) (fun _ => rfl) (fun γ ρ B hb hd => ⟨(Guard.isT (ltB rfl) rfl (hdl hd 3 45 rfl (by decide +kernel))), fun hq_23 => OpStep.at ⟨ρ, (cvar gb_5 r_api_Event a_2) :: B, _⟩ (setO ⟨ρ, (cvar gb_5 r_api_Event a_2) :: B, _⟩ (some 46) (.one (.val (A r_api_Event a_2)))) (op_loadA (j := 0) (ltB rfl) tA38 (.tmp (hb 4 _ rfl)) rfl (Comp.self r_api_Event a_2) rfl)⟩)) ?_
      refine DSteps.cons (j := 6) rfl (fun _ => rfl) (.cnd (q := v_23) (sv := fun γ => .one (.val (A r_api_Event t_1))) (fun _ => rfl) (fun _ => rfl) (fun d h => by cases h; exact ltB rfl) (fun _ => rfl) (fun γ ρ B hb hd => ⟨(Guard.isT (ltB rfl) rfl (hdl hd 3 45 rfl (by decide +kernel))), fun hq_24 => OpStep.at ⟨ρ, (cvar gb_4 r_api_Event t_1) :: B, _⟩ (setO ⟨ρ, (cvar gb_4 r_api_Event t_1) :: B, _⟩ (some 47) (.one (.val (A r_api_Event t_1)))) (op_loadA (j := 0) (ltB rfl) tA38 (.tmp (hb 3 _ rfl)) rfl (Comp.self r_api_Event t_1) rfl)⟩)) ?_
      refine DSteps.cons (j := 7) rfl (fun _ => rfl) (.cnd (q := v_23) (sv := fun γ => .one (.val (S rB v_24))) (fun _ => rfl) (fun _ => rfl) (fun d h => by cases h; exact ltB rfl) (fun _ => rfl) (fun γ ρ B hb hd => ⟨(Guard.isT (ltB rfl) rfl (hdl hd 3 45 rfl (by decide +kernel))), fun hq_25 => OpStep.at ⟨ρ, B, _⟩ (setO ⟨ρ, B, _⟩ (some 48) (.one (.val (S rB v_24)))) ((op_call (js := []) (ltD rfl) cl15 (sim_event_Before k a_2 t_1 v_24 (ifT hv_v_24 hq_25)) .func (.cons (HasO.cnd (.tmp (hdl hd 4 46 rfl (by decide +kernel))) hq_25) (.cons (HasO.cnd (.tmp (hdl hd 5 47 rfl (by decide +kernel))) hq_25) .nil)) rfl).post (fun _ => Imp.refl))⟩)) ?_
      refine DSteps.cons (j := 8) rfl (fun _ => rfl) (.run (fun γ ρ B hb hd => ⟨.none, OpStep.at ⟨ρ, B, _⟩ (setO ⟨ρ, B, _⟩ (some 49) (.one (.val (S rB v_25)))) (op_pickCS (ltB rfl) (.tmp (hdl hd 3 45 rfl (by decide +kernel))) (fun hb26 => (HasO.cnd (.tmp (hdl hd 6 48 rfl (by decide +kernel))) hb26)) (fun hb26 => .cB) hv_v_25)⟩)) ?_
      refine DSteps.cons (j := 9) rfl (fun _ => rfl) (.run (fun γ ρ B hb hd => ⟨.none, OpStep.at ⟨ρ, B, _⟩ (setO ⟨ρ, B, _⟩ (some 50) (.one (.val (S rB v_25)))) (op_move (ltB rfl) (.tmp (hdl hd 7 49 rfl (by decide +kernel))))⟩)) ?_
      refine DSteps.cons (j := 10) rfl (fun _ => rfl) (.run (fun γ ρ B hb hd => ⟨.yes rfl (ltB rfl) (hdl hd 8 50 rfl (by decide +kernel)) hc28, OpStep.at ⟨ρ, B, _⟩ (setO ⟨ρ, B, _⟩ (some 51) (.one (.val (PTR gb_4 (0 + 4))))) (op_fieldAddr (off := 4) (ltB rfl) tf38_3 (.tmp (hb 3 _ rfl)))⟩)) ?_
      refine DSteps.cons (j := 11) rfl (fun _ => rfl) (.run (fun γ ρ B hb hd => ⟨.yes rfl (ltB rfl) (hdl hd 8 50 rfl (by decide +kernel)) hc28, OpStep.at ⟨ρ, (cvar gb_4 r_api_Event t_1) :: B, _⟩ (setO ⟨ρ, (cvar gb_4 r_api_Event t_1) :: B, _⟩ (some 52) (.one (.val (A (rV 16 (rU UInt64)) t_1.Past)))) (op_loadA (j := 0) (ltB rfl) tA26 (.tmp (hdl hd 9 51 rfl (by decide +kernel))) rfl (Comp.trans (Comp.self r_api_Event t_1) (comp_api_Event_Past t_1) (by decide)) rfl)⟩)) ?_
      refine DSteps.cons (j := 12) rfl (fun _ => rfl) (.run (fun γ ρ B hb hd => ⟨.yes rfl (ltB rfl) (hdl hd 8 50 rfl (by decide +kernel)) hc28, OpStep.at ⟨ρ, B, _⟩ (setO ⟨ρ, B, _⟩ (some 53) (.one (.val (PTR gb_5 (0 + 4))))) (op_fieldAddr (off := 4) (ltB rfl) tf38_3 (.tmp (hb 4 _ rfl)))⟩)) ?_
      refine DSteps.cons (j := 13) rfl (fun _ => rfl) (.run (fun γ ρ B hb hd => ⟨.yes rfl (ltB rfl) (hdl hd 8 50 rfl (by decide +kernel)) hc28, OpStep.at ⟨ρ, (cvar gb_5 r_api_Event a_2) :: B, _⟩ (setO ⟨ρ, (cvar gb_5 r_api_Event a_2) :: B, _⟩ (some 54) (.one (.val (A (rV 16 (rU UInt64)) a_2.Past)))) (op_loadA (j := 0) (ltB rfl) tA26 (.tmp (hdl hd 11 53 rfl (by decide +kernel))) rfl (Comp.trans (Comp.self r_api_Event a_2) (comp_api_Event_Past a_2) (by decide)) rfl)⟩)) ?_
      refine DSteps.cons (j := 14) rfl (fun _ => rfl) (.run (fun γ ρ B hb hd => ⟨.yes rfl (ltB rfl) (hdl hd 8 50 rfl (by decide +kernel)) hc28, OpStep.at ⟨ρ, B, _⟩ (setO ⟨ρ, B, _⟩ (some 55) (.one (.val (A (rV 16 (rU UInt64)) v_26)))) ((op_call (js := []) (ltD rfl) cl8 (sim_event_Join k t_1.Past a_2.Past v_26 hv_v_26) .func (.cons (.tmp (hdl hd 10 52 rfl (by decide +kernel))) (.cons (.tmp (hdl hd 12 54 rfl (by decide +kernel))) .nil)) rfl).post (fun _ => Imp.refl))⟩)) ?_
      refine DSteps.cons (j := 15) rfl (fun _ => rfl) (.run (fun γ ρ B hb hd => ⟨.yes rfl (ltB rfl) (hdl hd 8 50 rfl (by decide +kernel)) hc28, OpStep.at ⟨ρ, B, _⟩ (setO ⟨ρ, B, _⟩ (some 56) (.one (.val (PTR gb_4 (0 + 4))))) (op_fieldAddr (off := 4) (ltB rfl) tf38_3 (.tmp (hb 3 _ rfl)))⟩)) ?_
      refine DSteps.cons (j := 16) rfl (fun _ => rfl) (.run (fun γ ρ B hb hd => ⟨.yes rfl (ltB rfl) (hdl hd 8 50 rfl (by decide +kernel)) hc28, OpStep.at ⟨ρ, (cvar gb_4 r_api_Event t_1) :: B, _⟩ (setO ⟨ρ, (cvar gb_4 r_api_Event t_1) :: B, _⟩ (some 57) (.one (.val (A (rV 16 (rU UInt64)) t_1.Past)))) (op_loadA (j := 0) (ltB rfl) tA26 (.tmp (hdl hd 14 56 rfl (by decide +kernel))) rfl (Comp.trans (Comp.self r_api_Event t_1) (comp_api_Event_Past t_1) (by decide)) rfl)⟩)) ?_
      refine DSteps.cons (j := 17) rfl (fun _ => rfl) (.run (fun γ ρ B hb hd => ⟨.yes rfl (ltB rfl) (hdl hd 8 50 rfl (by decide +kernel)) hc28, OpStep.at ⟨ρ, B, _⟩ (setO ⟨ρ, B, _⟩ (some 58) (.one (.val (S rB v_27)))) (op_eqA (ltB rfl) qa26 (by decide) ng26 (.tmp (hdl hd 13 55 rfl (by decide +kernel))) (.tmp (hdl hd 15 57 rfl (by decide +kernel))) hv_v_27)⟩)) ?_
      refine DSteps.cons (j := 18) rfl (fun _ => rfl) (.run (fun γ ρ B hb hd => ⟨.none, OpStep.at ⟨ρ, B, _⟩ (setO ⟨ρ, B, _⟩ (some 59) (.one (.val (S rB v_27)))) (op_pickT (ltB rfl) (.tmp (hdl hd 8 50 rfl (by decide +kernel))) hc28 (.tmp (hdl hd 16 58 rfl (by decide +kernel))))⟩)) ?_
      refine DSteps.cons (j := 19) rfl (fun _ => rfl) (.run (fun γ ρ B hb hd => ⟨.none, OpStep.at ⟨ρ, B, _⟩ (setO ⟨ρ, B, _⟩ (some 60) (.one (.val (S rB v_27)))) (op_move (ltB rfl) (.tmp (hdl hd 17 59 rfl (by decide +kernel))))⟩)) ?_
      refine DSteps.cons (j := 20) rfl (fun _ => rfl) (.run (fun γ ρ B hb hd => ⟨.yes rfl (ltB rfl) (hdl hd 18 60 rfl (by decide +kernel)) hc30, OpStep.at ⟨ρ, B, _⟩ (setO ⟨ρ, B, _⟩ (some 61) (.one (.val (PTR gb_5 (0 + 4))))) (op_fieldAddr (off := 4) (ltB rfl) tf38_3 (.tmp (hb 4 _ rfl)))⟩)) ?_
      refine DSteps.cons (j := 21) rfl (fun _ => rfl) (.run (fun γ ρ B hb hd => ⟨.yes rfl (ltB rfl) (hdl hd 18 60 rfl (by decide +kernel)) hc30, OpStep.at ⟨ρ, (cvar gb_5 r_api_Event a_2) :: B, _⟩ (setO ⟨ρ, (cvar gb_5 r_api_Event a_2) :: B, _⟩ (some 62) (.one (.val (A (rV 16 (rU UInt64)) a_2.Past)))) (op_loadA (j := 0) (ltB rfl) tA26 (.tmp (hdl hd 19 61 rfl (by decide +kernel))) rfl (Comp.trans (Comp.self r_api_Event a_2) (comp_api_Event_Past a_2) (by decide)) rfl)⟩)) ?_
      refine DSteps.cons (j := 22) rfl (fun _ => rfl) (.run (fun γ ρ B hb hd => ⟨.yes rfl (ltB rfl) (hdl hd 18 60 rfl (by decide +kernel)) hc30, OpStep.at ⟨ρ, B, _⟩ (setO ⟨ρ, B, _⟩ (some 63) (.one (.val (PTR gb_4 (0 + 4))))) (op_fieldAddr (off := 4) (ltB rfl) tf38_3 (.tmp (hb 3 _ rfl)))⟩)) ?_
      refine DSteps.cons (j := 23) rfl (fun _ => rfl) (.run (fun γ ρ B hb hd => ⟨.yes rfl (ltB rfl) (hdl hd 18 60 rfl (by decide +kernel)) hc30, OpStep.at ⟨ρ, (cvar gb_4 r_api_Event t_1) :: B, _⟩ (setO ⟨ρ, (cvar gb_4 r_api_Event t_1) :: B, _⟩ (some 64) (.one (.val (A (rV 16 (rU UInt64)) t_1.Past)))) (op_loadA (j := 0) (ltB rfl) tA26 (.tmp (hdl hd 21 63 rfl (by decide +kernel))) rfl (Comp.trans (Comp.self r_api_Event t_1) (comp_api_Event_Past t_1) (by decide)) rfl)⟩)) ?_
      refine DSteps.cons (j := 24) rfl (fun _ => rfl) (.run (fun γ ρ B hb hd => ⟨.yes rfl (ltB rfl) (hdl hd 18 60 rfl (by decide +kernel)) hc30, OpStep.at ⟨ρ, B, _⟩ (setO ⟨ρ, B, _⟩ (some 65) (.one (.val (A (rV 16 (rU UInt64)) v_28)))) ((op_call (js := []) (ltD rfl) cl8 (sim_event_Join k a_2.Past t_1.Past v_28 hv_v_28) .func (.cons (.tmp (hdl hd 20 62 rfl (by decide +kernel))) (.cons (.tmp (hdl hd 22 64 rfl (by decide +kernel))) .nil)) rfl).post (fun _ => Imp.refl))⟩)) ?_
      refine DSteps.cons (j := 25) rfl (fun _ => rfl) (.run (fun γ ρ B hb hd => ⟨.yes rfl (ltB rfl) (hdl hd 18 60 rfl (by decide +kernel)) hc30, OpStep.at ⟨ρ, B, _⟩ (setO ⟨ρ, B, _⟩ (some 66) (.one (.val (PTR gb_5 (0 + 4))))) (op_fieldAddr (off := 4) (ltB rfl) tf38_3 (.tmp (hb 4 _ rfl)))⟩)) ?_
      refine DSteps.cons (j := 26) rfl (fun _ => rfl) (.run (fun γ ρ B hb hd => ⟨.yes rfl (ltB rfl) (hdl hd 18 60 rfl (by decide +kernel)) hc30, OpStep.at ⟨ρ, (cvar gb_5 r_api_Event a_2) :: B, _⟩ (setO ⟨ρ, (cvar gb_5 r_api_Event a_2) :: B, _⟩ (some 67) (.one (.val (A (rV 16 (rU UInt64)) a_2.Past)))) (op_loadA (j := 0) (ltB rfl) tA26 (.tmp (hdl hd 24 66 rfl (by decide +kernel))) rfl (Comp.trans (Comp.self r_api_Event a_2) (comp_api_Event_Past a_2) (by decide)) rfl)⟩)) ?_
      refine DSteps.cons (j := 27) rfl (fun _ => rfl) (.run (fun γ ρ B hb hd => ⟨.yes rfl (ltB rfl) (hdl hd 18 60 rfl (by decide +kernel)) hc30, OpStep.at ⟨ρ, B, _⟩ (setO ⟨ρ, B, _⟩ (some 68) (.one (.val (S rB v_29)))) (op_eqA (ltB rfl) qa26 (by decide) ng26 (.tmp (hdl hd 23 65 rfl (by decide +kernel))) (.tmp (hdl hd 25 67 rfl (by decide +kernel))) hv_v_29)⟩)) ?_
      refine DSteps.cons (j := 28) rfl (fun _ => rfl) (.run (fun γ ρ B hb hd => ⟨.none, OpStep.at ⟨ρ, B, _⟩ (setO ⟨ρ, B, _⟩ (some 69) (.one (.val (S rB v_29)))) (op_pickT (ltB rfl) (.tmp (hdl hd 18 60 rfl (by decide +kernel))) hc30 (.tmp (hdl hd 26 68 rfl (by decide +kernel))))⟩)) ?_
      exact DSteps.nil)
                    (by decide +kernel) (fun _ => rfl) rfl (fun _ => rfl) (fun _ => rfl) rfl (by decide) (by decide)
                    (ρ' := fun γ => [(69, .one (.val (S rB v_29)))])
                    (X' := fun γ => [cvar gb_4 r_api_Event t_1, cvar gb_5 r_api_Event a_2])
                    (fun γ ρ hb hd => (.cons (hdq hd 27 69 rfl) .nil)) (fun _ => rfl) (fun γ => ?_)
                refine JQ.at ⟨[(69, .one (.val (S rB v_29)))], [cvar gb_4 r_api_Event t_1, cvar gb_5 r_api_Event a_2], []⟩ ?_
                replace hx22 := Option.some.inj hx22
                subst hx22
                exact JQ.join () (Imp.norm (js := []) rfl (.cons rfl .nil))
              · refine JC.anyE (base := [(3, .one (.val (PTR gb_4 0))), (4, .one (.val (PTR gb_5 0)))])
                    (fs := fun γ => [⟨some 42, .one (.val (A r_api_Event t_1))⟩, ⟨some 43, .one (.val (A r_api_Event a_2))⟩, ⟨some 44, .one (.val (S rB v_23))⟩, ⟨some 45, .one (.val (S rB v_23))⟩, ⟨some 46, bif v_23 then .one (.val (A r_api_Event a_2)) else .one .und⟩, ⟨some 47, bif v_23 then .one (.val (A r_api_Event t_1)) else .one .und⟩, ⟨some 48, bif v_23 then .one (.val (S rB v_24)) else .one .und⟩, ⟨some 49, .one (.val (S rB v_25))⟩, ⟨some 50, .one (.val (S rB v_25))⟩, ⟨some 51, .one (.val (PTR gb_4 (0 + 4)))⟩, ⟨some 52, .one (.val (A (rV 16 (rU UInt64)) t_1.Past))⟩, ⟨some 53, .one (.val (PTR gb_5 (0 + 4)))⟩, ⟨some 54, .one (.val (A (rV 16 (rU UInt64)) a_2.Past))⟩, ⟨some 55, .one (.val (A (rV 16 (rU UInt64)) v_26))⟩, ⟨some 56, .one (.val (PTR gb_4 (0 + 4)))⟩, ⟨some 57, .one (.val (A (rV 16 (rU UInt64)) t_1.Past))⟩, ⟨some 58, .one (.val (S rB v_27))⟩, ⟨some 59, .one (.val (S rB v_27))⟩, ⟨some 60, .one (.val (S rB v_27))⟩, ⟨some 61, .one (.und)⟩, ⟨some 62, .one (.und)⟩, ⟨some 63, .one (.und)⟩, ⟨some 64, .one (.und)⟩, ⟨some 65, .one (.und)⟩, ⟨some 66, .one (.und)⟩, ⟨some 67, .one (.und)⟩, ⟨some 68, .one (.und)⟩, ⟨some 69, .one (.val (S rB false))⟩])
                    (rs := fun γ => [⟨cvar gb_4 r_api_Event t_1, none, none, [0, 5, 10, 15]⟩, ⟨cvar gb_5 r_api_Event a_2, none, none, [1, 4, 12]⟩])
                    (ds := [42, 43, 44, 45, 46, 47, 48, 49, 50, 51, 52, 53, 54, 55, 56, 57, 58, 59, 60, 61, 62, 63, 64, 65, 66, 67, 68, 69]) (bs := [3, 4]) (afts := [[], [], [], [], [], [], [], [], [], [], [], [], [], [], [], [], [], [], [], [], [], [], [], [], [], [], [], []]) (js := [0, 0]) mixed (.cons rfl (.cons rfl .nil)) (fun _ => rfl)
                    (by
      refine DSteps.cons (j := 1) rfl (fun _ => rfl) (.run (fun γ ρ B hb hd => ⟨.none, OpStep.at ⟨ρ, (cvar gb_4 r_api_Event t_1) :: B, _⟩ (setO ⟨ρ, (cvar gb_4 r_api_Event t_1) :: B, _⟩ (some 42) (.one (.val (A r_api_Event t_1)))) (op_loadA (j := 0) (ltB rfl) tA38 (.tmp (hb 3 _ rfl)) rfl (Comp.self r_api_Event t_1) rfl)⟩)) ?_
      refine DSteps.cons (j := 2) rfl (fun _ => rfl) (.run (fun γ ρ B hb hd => ⟨.none, OpStep.at ⟨ρ, (cvar gb_5 r_api_Event a_2) :: B, _⟩ (setO ⟨ρ, (cvar gb_5 r_api_Event a_2) :: B, _⟩ (some 43) (.one (.val (A r_api_Event a_2)))) (op_loadA (j := 0) (ltB rfl) tA38 (.tmp (hb 4 _ rfl)) rfl (Comp.self r_api_Event a_2) rfl)⟩)) ?_
      refine DSteps.cons (j := 3) rfl (fun _ => rfl) (.run (fun γ ρ B hb hd => ⟨.none, OpStep.at ⟨ρ, B, _⟩ (setO ⟨ρ, B, _⟩ (some 44) (.one (.val (S rB v_23)))) ((op_call (js := []) (ltD rfl) cl15 (sim_event_Before k t_1 a_2 v_23 hv_v_23) .func (.cons (.tmp (hdl hd 0 42 rfl (by decide +kernel))) (.cons (.tmp (hdl hd 1 43 rfl (by decide +kernel))) .nil)) rfl).post (fun _ => Imp.refl))⟩)) ?_
      refine DSteps.cons (j := 4) rfl (fun _ => rfl) (.run (fun γ ρ B hb hd => ⟨.none, OpStep.at ⟨ρ, B, _⟩ (setO ⟨ρ, B, _⟩ (some 45) (.one (.val (S rB v_23)))) (op_move (ltB rfl) (.tmp (hdl hd 2 44 rfl (by decide +kernel))))⟩)) ?_
      refine DSteps.cons (j := 5) rfl (fun _ => rfl) (.cnd (q := v_23) (sv := fun γ => .one (.val (A r_api_Event a_2))) (fun _ => rfl) (fun _ => rfl) (fun d h => by cases h; exact ltB rfl) (fun _ => rfl) (fun γ ρ B hb hd => ⟨(Guard.isT (ltB rfl) rfl (hdl hd 3 45 rfl (by decide +kernel))), fun hq_23 => OpStep.at ⟨ρ, (cvar gb_5 r_api_Event a_2) :: B, _⟩ (setO ⟨ρ, (cvar gb_5 r_api_Event a_2) :: B, _⟩ (some 46) (.one (.val (A r_api_Event a_2)))) (op_loadA (j := 0) (ltB rfl) tA38 (.tmp (hb 4 _ rfl)) rfl (Comp.self r_api_Event a_2) rfl)⟩)) ?_
      refine DSteps.cons (j := 6) rfl (fun _ => rfl) (.cnd (q := v_23) (sv := fun γ => .one (.val (A r_api_Event t_1))) (fun _ => rfl) (fun _ => rfl) (fun d h => by cases h; exact ltB rfl) (fun _ => rfl) (fun γ ρ B hb hd => ⟨(Guard.isT (ltB rfl) rfl (hdl hd 3 45 rfl (by decide +kernel))), fun hq_24 => OpStep.at ⟨ρ, (cvar gb_4 r_api_Event t_1) :: B, _⟩ (setO ⟨ρ, (cvar gb_4 r_api_Event t_1) :: B, _⟩ (some 47) (.one (.val (A r_api_Event t_1)))) (op_loadA (j := 0) (ltB rfl) tA38 (.tmp (hb 3 _ rfl)) rfl (Comp.self r_api_Event t_1) rfl)⟩)) ?_
      refine DSteps.cons (j := 7) rfl (fun _ => rfl) (.cnd (q := v_23) (sv := fun γ => .one (.val (S rB v_24))) (fun _ => rfl) (fun _ => rfl) (fun d h => by cases h; exact ltB rfl) (fun _ => rfl) (fun γ ρ B hb hd => ⟨(Guard.isT (ltB rfl) rfl (hdl hd 3 45 rfl (by decide +kernel))), fun hq_25 => OpStep.at ⟨ρ, B, _⟩ (setO ⟨ρ, B, _⟩ (some 48) (.one (.val (S rB v_24)))) ((op_call (js := []) (ltD rfl) cl15 (sim_event_Before k a_2 t_1 v_24 (ifT hv_v_24 hq_25)) .func (.cons (HasO.cnd (.tmp (hdl hd 4 46 rfl (by decide +kernel))) hq_25) (.cons (HasO.cnd (.tmp (hdl hd 5 47 rfl (by decide +kernel))) hq_25) .nil)) rfl).post (fun _ => Imp.refl))⟩)) ?_
      refine DSteps.cons (j := 8) rfl (fun _ => rfl) (.run (fun γ ρ B hb hd => ⟨.none, OpStep.at ⟨ρ, B, _⟩ (setO ⟨ρ, B, _⟩ (some 49) (.one (.val (S rB v_25)))) (op_pickCS (ltB rfl) (.tmp (hdl hd 3 45 rfl (by decide +kernel))) (fun hb26 => (HasO.cnd (.tmp (hdl hd 6 48 rfl (by decide +kernel))) hb26)) (fun hb26 => .cB) hv_v_25)⟩)) ?_
      refine DSteps.cons (j := 9) rfl (fun _ => rfl) (.run (fun γ ρ B hb hd => ⟨.none, OpStep.at ⟨ρ, B, _⟩ (setO ⟨ρ, B, _⟩ (some 50) (.one (.val (S rB v_25)))) (op_move (ltB rfl) (.tmp (hdl hd 7 49 rfl (by decide +kernel))))⟩)) ?_
      refine DSteps.cons (j := 10) rfl (fun _ => rfl) (.run (fun γ ρ B hb hd => ⟨.yes rfl (ltB rfl) (hdl hd 8 50 rfl (by decide +kernel)) hc28, OpStep.at ⟨ρ, B, _⟩ (setO ⟨ρ, B, _⟩ (some 51) (.one (.val (PTR gb_4 (0 + 4))))) (op_fieldAddr (off := 4) (ltB rfl) tf38_3 (.tmp (hb 3 _ rfl)))⟩)) ?_
      refine DSteps.cons (j := 11) rfl (fun _ => rfl) (.run (fun γ ρ B hb hd => ⟨.yes rfl (ltB rfl) (hdl hd 8 50 rfl (by decide +kernel)) hc28, OpStep.at ⟨ρ, (cvar gb_4 r_api_Event t_1) :: B, _⟩ (setO ⟨ρ, (cvar gb_4 r_api_Event t_1) :: B, _⟩ (some 52) (.one (.val (A (rV 16 (rU UInt64)) t_1.Past)))) (op_loadA (j := 0) (ltB rfl) tA26 (.tmp (hdl hd 9 51 rfl (by decide +kernel))) rfl (Comp.trans (Comp.self r_api_Event t_1) (comp_api_Event_Past t_1) (by decide)) rfl)⟩)) ?_
      refine DSteps.cons (j := 12) rfl (fun _ => rfl) (.run (fun γ ρ B hb hd => ⟨.yes rfl (ltB rfl) (hdl hd 8 50 rfl (by decide +kernel)) hc28, OpStep.at ⟨ρ, B, _⟩ (setO ⟨ρ, B, _⟩ (some 53) (.one (.val (PTR gb_5 (0 + 4))))) (op_fieldAddr (off := 4) (ltB rfl) tf38_3 (.tmp (hb 4 _ rfl)))⟩)) ?_
      refine DSteps.cons (j := 13) rfl (fun _ => rfl) (.run (fun γ ρ B hb hd => ⟨.yes rfl (ltB rfl) (hdl hd 8 50 rfl (by decide +kernel)) hc28, OpStep.at ⟨ρ, (cvar gb_5 r_api_Event a_2) :: B, _⟩ (setO ⟨ρ, (cvar gb_5 r_api_Event a_2) :: B, _⟩ (some 54) (.one (.val (A (rV 16 (rU UInt64)) a_2.Past)))) (op_loadA (j := 0) (ltB rfl) tA26 (.tmp (hdl hd 11 53 rfl (by decide +kernel))) rfl (Comp.trans (Comp.self r_api_Event a_2) (comp_api_Event_Past a_2) (by decide)) rfl)⟩)) ?_
      refine DSteps.cons (j := 14) rfl (fun _ => rfl) (.run (fun γ ρ B hb hd => ⟨.yes rfl (ltB rfl) (hdl hd 8 50 rfl (by decide +kernel)) hc28, OpStep.at ⟨ρ, B, _⟩ (setO ⟨ρ, B, _⟩ (some 55) (.one (.val (A (rV 16 (rU UInt64)) v_26)))) ((op_call (js := []) (ltD rfl) cl8 (sim_event_Join k t_1.Past a_2.Past v_26 hv_v_26) .func (.cons (.tmp (hdl hd 10 52 rfl (by decide +kernel))) (.cons (.tmp (hdl hd 12 54 rfl (by decide +kernel))) .nil)) rfl).post (fun _ => Imp.refl))⟩)) ?_
      refine DSteps.cons (j := 15) rfl (fun _ => rfl) (.run (fun γ ρ B hb hd => ⟨.yes rfl (ltB rfl) (hdl hd 8 50 rfl (by decide +kernel)) hc28, OpStep.at ⟨ρ, B, _⟩ (setO ⟨ρ, B, _⟩ (some 56) (.one (.val (PTR gb_4 (0 + 4))))) (op_fieldAddr (off := 4) (ltB rfl) tf38_3 (.tmp (hb 3 _ rfl)))⟩)) ?_
      refine DSteps.cons (j := 16) rfl (fun _ => rfl) (.run (fun γ ρ B hb hd => ⟨.yes rfl (ltB rfl) (hdl hd 8 50 rfl (by decide +kernel)) hc28, OpStep.at ⟨ρ, (cvar gb_4 r_api_Event t_1) :: B, _⟩ (setO ⟨ρ, (cvar gb_4 r_api_Event t_1) :: B, _⟩ (some 57) (.one (.val (A (rV 16 (rU UInt64)) t_1.Past)))) (op_loadA (j := 0) (ltB rfl) tA26 (.tmp (hdl hd 14 56 rfl (by decide +kernel))) rfl (Comp.trans (Comp.self r_api_Event t_1) (comp_api_Event_Past t_1) (by decide)) rfl)⟩)) ?_
      refine DSteps.cons (j := 17) rfl (fun _ => rfl) (.run (fun γ ρ B hb hd => ⟨.yes rfl (ltB rfl) (hdl hd 8 50 rfl (by decide +kernel)) hc28, OpStep.at ⟨ρ, B, _⟩ (setO ⟨ρ, B, _⟩ (some 58) (.one (.val (S rB v_27)))) (op_eqA (ltB rfl) qa26 (by decide) ng26 (.tmp (hdl hd 13 55 rfl (by decide +kernel))) (.tmp (hdl hd 15 57 rfl (by decide +kernel))) hv_v_27)⟩)) ?_
      refine DSteps.cons (j := 18) rfl (fun _ => rfl) (.run (fun γ ρ B hb hd => ⟨.none, OpStep.at ⟨ρ, B, _⟩ (setO ⟨ρ, B, _⟩ (some 59) (.one (.val (S rB v_27)))) (op_pickT (ltB rfl) (.tmp (hdl hd 8 50 rfl (by decide +kernel))) hc28 (.tmp (hdl hd 16 58 rfl (by decide +kernel))))⟩)) ?_
      refine DSteps.cons (j := 19) rfl (fun _ => rfl) (.run (fun γ ρ B hb hd => ⟨.none, OpStep.at ⟨ρ, B, _⟩ (setO ⟨ρ, B, _⟩ (some 60) (.one (.val (S rB v_27)))) (op_move (ltB rfl) (.tmp (hdl hd 17 59 rfl (by decide +kernel))))⟩)) ?_
      refine DSteps.cons (j := 20) rfl (fun _ => rfl) (.skip (fun γ ρ B hb hd => ⟨.no rfl (ltB rfl) (hdl hd 18 60 rfl (by decide +kernel)) hc30, rfl, rfl, rfl, fun d h => by cases h; exact ltB rfl⟩)) ?_
      refine DSteps.cons (j := 21) rfl (fun _ => rfl) (.skip (fun γ ρ B hb hd => ⟨.no rfl (ltB rfl) (hdl hd 18 60 rfl (by decide +kernel)) hc30, rfl, rfl, rfl, fun d h => by cases h; exact ltB rfl⟩)) ?_
      refine DSteps.cons (j := 22) rfl (fun _ => rfl) (.skip (fun γ ρ B hb hd => ⟨.no rfl (ltB rfl) (hdl hd 18 60 rfl (by decide +kernel)) hc30, rfl, rfl, rfl, fun d h => by cases h; exact ltB rfl⟩)) ?_
      refine DSteps.cons (j := 23) rfl (fun _ => rfl) (.skip (fun γ ρ B hb hd => ⟨.no rfl (ltB rfl) (hdl hd 18 60 rfl (by decide +kernel)) hc30, rfl, rfl, rfl, fun d h => by cases h; exact ltB rfl⟩)) ?_
      refine DSteps.cons (j := 24) rfl (fun _ => rfl) (.skip (fun γ ρ B hb hd => ⟨.no rfl (ltB rfl) (hdl hd 18 60 rfl (by decide +kernel)) hc30, rfl, rfl, rfl, fun d h => by cases h; exact ltB rfl⟩)) ?_
      refine DSteps.cons (j := 25) rfl (fun _ => rfl) (.skip (fun γ ρ B hb hd => ⟨.no rfl (ltB rfl) (hdl hd 18 60 rfl (by decide +kernel)) hc30, rfl, rfl, rfl, fun d h => by cases h; exact ltB rfl⟩)) ?_
      refine DSteps.cons (j := 26) rfl (fun _ => rfl) (.skip (fun γ ρ B hb hd => ⟨.no rfl (ltB rfl) (hdl hd 18 60 rfl (by decide +kernel)) hc30, rfl, rfl, rfl, fun d h => by cases h; exact ltB rfl⟩)) ?_
      refine DSteps.cons (j := 27) rfl (fun _ => rfl) (.skip (fun γ ρ B hb hd => ⟨.no rfl (ltB rfl) (hdl hd 18 60 rfl (by decide +kernel)) hc30, rfl, rfl, rfl, fun d h => by cases h; exact ltB rfl⟩)) ?_
      refine DSteps.cons (j := 28) rfl (fun _ => rfl) (.run (fun γ ρ B hb hd => ⟨.none, OpStep.at ⟨ρ, B, _⟩ (setO ⟨ρ, B, _⟩ (some 69) (.one (.val (S rB false)))) (op_pickF (ltB rfl) (.tmp (hdl hd 18 60 rfl (by decide +kernel))) hc30 .cB)⟩)) ?_
      exact DSteps.nil)
                    (by decide +kernel) (fun _ => rfl) rfl (fun _ => rfl) (fun _ => rfl) rfl (by decide) (by decide)
                    (ρ' := fun γ => [(69, .one (.val (S rB false)))])
                    (X' := fun γ => [cvar gb_4 r_api_Event t_1, cvar gb_5 r_api_Event a_2])
                    (fun γ ρ hb hd => (.cons (hdq hd 27 69 rfl) .nil)) (fun _ => rfl) (fun γ => ?_)
                refine JQ.at ⟨[(69, .one (.val (S rB false)))], [cvar gb_4 r_api_Event t_1, cvar gb_5 r_api_Event a_2], []⟩ ?_
                replace hx22 := Option.some.inj hx22
                subst hx22
                exact JQ.join () (Imp.norm (js := []) rfl (.cons rfl .nil))
            · refine JC.anyE (base := [(3, .one (.val (PTR gb_4 0))), (4, .one (.val (PTR gb_5 0)))])
                  (fs := fun γ => [⟨some 42, .one (.val (A r_api_Event t_1))⟩, ⟨some 43, .one (.val (A r_api_Event a_2))⟩, ⟨some 44, .one (.val (S rB v_23))⟩, ⟨some 45, .one (.val (S rB v_23))⟩, ⟨some 46, bif v_23 then .one (.val (A r_api_Event a_2)) else .one .und⟩, ⟨some 47, bif v_23 then .one (.val (A r_api_Event t_1)) else .one .und⟩, ⟨some 48, bif v_23 then .one (.val (S rB v_24)) else .one .und⟩, ⟨some 49, .one (.val (S rB v_25))⟩, ⟨some 50, .one (.val (S rB v_25))⟩, ⟨some 51, .one (.und)⟩, ⟨some 52, .one (.und)⟩, ⟨some 53, .one (.und)⟩, ⟨some 54, .one (.und)⟩, ⟨some 55, .one (.und)⟩, ⟨some 56, .one (.und)⟩, ⟨some 57, .one (.und)⟩, ⟨some 58, .one (.und)⟩, ⟨some 59, .one (.val (S rB false))⟩, ⟨some 60, .one (.val (S rB false))⟩, ⟨some 61, .one (.und)⟩, ⟨some 62, .one (.und)⟩, ⟨some 63, .one (.und)⟩, ⟨some 64, .one (.und)⟩, ⟨some 65, .one (.und)⟩, ⟨some 66, .one (.und)⟩, ⟨some 67, .one (.und)⟩, ⟨some 68, .one (.und)⟩, ⟨some 69, .one (.val (S rB false))⟩])
                  (rs := fun γ => [⟨cvar gb_4 r_api_Event t_1, none, none, [0, 5]⟩, ⟨cvar gb_5 r_api_Event a_2, none, none, [1, 4]⟩])
                  (ds := [42, 43, 44, 45, 46, 47, 48, 49, 50, 51, 52, 53, 54, 55, 56, 57, 58, 59, 60, 61, 62, 63, 64, 65, 66, 67, 68, 69]) (bs := [3, 4]) (afts := [[], [], [], [], [], [], [], [], [], [], [], [], [], [], [], [], [], [], [], [], [], [], [], [], [], [], [], []]) (js := [0, 0]) mixed (.cons rfl (.cons rfl .nil)) (fun _ => rfl)
                  (by
      refine DSteps.cons (j := 1) rfl (fun _ => rfl) (.run (fun γ ρ B hb hd => ⟨.none, OpStep.at ⟨ρ, (cvar gb_4 r_api_Event t_1) :: B, _⟩ (setO ⟨ρ, (cvar gb_4 r_api_Event t_1) :: B, _⟩ (some 42) (.one (.val (A r_api_Event t_1)))) (op_loadA (j := 0) (ltB rfl) tA38 (.tmp (hb 3 _ rfl)) rfl (Comp.self r_api_Event t_1) rfl)⟩)) ?_
      refine DSteps.cons (j := 2) rfl (fun _ => rfl) (.run (fun γ ρ B hb hd => ⟨.none, OpStep.at ⟨ρ, (cvar gb_5 r_api_Event a_2) :: B, _⟩ (setO ⟨ρ, (cvar gb_5 r_api_Event a_2) :: B, _⟩ (some 43) (.one (.val (A r_api_Event a_2)))) (op_loadA (j := 0) (ltB rfl) tA38 (.tmp (hb 4 _ rfl)) rfl (Comp.self r_api_Event a_2) rfl)⟩)) ?_
      refine DSteps.cons (j := 3) rfl (fun _ => rfl) (.run (fun γ ρ B hb hd => ⟨.none, OpStep.at ⟨ρ, B, _⟩ (setO ⟨ρ, B, _⟩ (some 44) (.one (.val (S rB v_23)))) ((op_call (js := []) (ltD rfl) cl15 (sim_event_Before k t_1 a_2 v_23 hv_v_23) .func (.cons (.tmp (hdl hd 0 42 rfl (by decide +kernel))) (.cons (.tmp (hdl hd 1 43 rfl (by decide +kernel))) .nil)) rfl).post (fun _ => Imp.refl))⟩)) ?_
      refine DSteps.cons (j := 4) rfl (fun _ => rfl) (.run (fun γ ρ B hb hd => ⟨.none, OpStep.at ⟨ρ, B, _⟩ (setO ⟨ρ, B, _⟩ (some 45) (.one (.val (S rB v_23)))) (op_move (ltB rfl) (.tmp (hdl hd 2 44 rfl (by decide +kernel))))⟩)) ?_
      refine DSteps.cons (j := 5) rfl (fun _ => rfl) (.cnd (q := v_23) (sv := fun γ => .one (.val (A r_api_Event a_2))) (fun _ => rfl) (fun _ => rfl) (fun d h => by cases h; exact ltB rfl) (fun _ => rfl) (fun γ ρ B hb hd => ⟨(Guard.isT (ltB rfl) rfl (hdl hd 3 45 rfl (by decide +kernel))), fun hq_23 => OpStep.at ⟨ρ, (cvar gb_5 r_api_Event a_2) :: B, _⟩ (setO ⟨ρ, (cvar gb_5 r_api_Event a_2) :: B, _⟩ (some 46) (.one (.val (A r_api_Event a_2)))) (op_loadA (j := 0) (ltB rfl) tA38 (.tmp (hb 4 _ rfl)) rfl (Comp.self r_api_Event a_2) rfl)⟩)) ?_
      refine DSteps.cons (j := 6) rfl (fun _ => rfl) (.cnd (q := v_23) (sv := fun γ => .one (.val (A r_api_Event t_1))) (fun _ => rfl) (fun _ => rfl) (fun d h => by cases h; exact ltB rfl) (fun _ => rfl) (fun γ ρ B hb hd => ⟨(Guard.isT (ltB rfl) rfl (hdl hd 3 45 rfl (by decide +kernel))), fun hq_24 => OpStep.at ⟨ρ, (cvar gb_4 r_api_Event t_1) :: B, _⟩ (setO ⟨ρ, (cvar gb_4 r_api_Event t_1) :: B, _⟩ (some 47) (.one (.val (A r_api_Event t_1)))) (op_loadA (j := 0) (ltB rfl) tA38 (.tmp (hb 3 _ rfl)) rfl (Comp.self r_api_Event t_1) rfl)⟩)) ?_
      refine DSteps.cons (j := 7) rfl (fun _ => rfl) (.cnd (q := v_23) (sv := fun γ => .one (.val (S rB v_24))) (fun _ => rfl) (fun _ => rfl) (fun d h => by cases h; exact ltB rfl) (fun _ => rfl) (fun γ ρ B hb hd => ⟨(Guard.isT (ltB rfl) rfl (hdl hd 3 45 rfl (by decide +kernel))), fun hq_25 => OpStep.at ⟨ρ, B, _⟩ (setO ⟨ρ, B, _⟩ (some 48) (.one (.val (S rB v_24)))) ((op_call (js := []) (ltD rfl) cl15 (sim_event_Before k a_2 t_1 v_24 (ifT hv_v_24 hq_25)) .func (.cons (HasO.cnd (.tmp (hdl hd 4 46 rfl (by decide +kernel))) hq_25) (.cons (HasO.cnd (.tmp (hdl hd 5 47 rfl (by decide +kernel))) hq_25) .nil)) rfl).post (fun _ => Imp.refl))⟩)) ?_
      refine DSteps.cons (j := 8) rfl (fun _ => rfl) (.run (fun γ ρ B hb hd => ⟨.none, OpStep.at ⟨ρ, B, _⟩ (setO ⟨ρ, B, _⟩ (some 49) (.one (.val (S rB v_25)))) (op_pickCS (ltB rfl) (.tmp (hdl hd 3 45 rfl (by decide +kernel))) (fun hb26 => (HasO.cnd (.tmp (hdl hd 6 48 rfl (by decide +kernel))) hb26)) (fun hb26 => .cB) hv_v_25)⟩)) ?_
      refine DSteps.cons (j := 9) rfl (fun _ => rfl) (.run (fun γ ρ B hb hd => ⟨.none, OpStep.at ⟨ρ, B, _⟩ (setO ⟨ρ, B, _⟩ (some 50) (.one (.val (S rB v_25)))) (op_move (ltB rfl) (.tmp (hdl hd 7 49 rfl (by decide +kernel))))⟩)) ?_
      refine DSteps.cons (j := 10) rfl (fun _ => rfl) (.skip (fun γ ρ B hb hd => ⟨.no rfl (ltB rfl) (hdl hd 8 50 rfl (by decide +kernel)) hc28, rfl, rfl, rfl, fun d h => by cases h; exact ltB rfl⟩)) ?_
      refine DSteps.cons (j := 11) rfl (fun _ => rfl) (.skip (fun γ ρ B hb hd => ⟨.no rfl (ltB rfl) (hdl hd 8 50 rfl (by decide +kernel)) hc28, rfl, rfl, rfl, fun d h => by cases h; exact ltB rfl⟩)) ?_
      refine DSteps.cons (j := 12) rfl (fun _ => rfl) (.skip (fun γ ρ B hb hd => ⟨.no rfl (ltB rfl) (hdl hd 8 50 rfl (by decide +kernel)) hc28, rfl, rfl, rfl, fun d h => by cases h; exact ltB rfl⟩)) ?_
      refine DSteps.cons (j := 13) rfl (fun _ => rfl) (.skip (fun γ ρ B hb hd => ⟨.no rfl (ltB rfl) (hdl hd 8 50 rfl (by decide +kernel)) hc28, rfl, rfl, rfl, fun d h => by cases h; exact ltB rfl⟩)) ?_
      refine DSteps.cons (j := 14) rfl (fun _ => rfl) (.skip (fun γ ρ B hb hd => ⟨.no rfl (ltB rfl) (hdl hd 8 50 rfl (by decide +kernel)) hc28, rfl, rfl, rfl, fun d h => by cases h; exact ltB rfl⟩)) ?_
      refine DSteps.cons (j := 15) rfl (fun _ => rfl) (.skip (fun γ ρ B hb hd => ⟨.no rfl (ltB rfl) (hdl hd 8 50 rfl (by decide +kernel)) hc28, rfl, rfl, rfl, fun d h => by cases h; exact ltB rfl⟩)) ?_
      refine DSteps.cons (j := 16) rfl (fun _ => rfl) (.skip (fun γ ρ B hb hd => ⟨.no rfl (ltB rfl) (hdl hd 8 50 rfl (by decide +kernel)) hc28, rfl, rfl, rfl, fun d h => by cases h; exact ltB rfl⟩)) ?_
      refine DSteps.cons (j := 17) rfl (fun _ => rfl) (.skip (fun γ ρ B hb hd => ⟨.no rfl (ltB rfl) (hdl hd 8 50 rfl (by decide +kernel)) hc28, rfl, rfl, rfl, fun d h => by cases h; exact ltB rfl⟩)) ?_
      refine DSteps.cons (j := 18) rfl (fun _ => rfl) (.run (fun γ ρ B hb hd => ⟨.none, OpStep.at ⟨ρ, B, _⟩ (setO ⟨ρ, B, _⟩ (some 59) (.one (.val (S rB false)))) (op_pickF (ltB rfl) (.tmp (hdl hd 8 50 rfl (by decide +kernel))) hc28 .cB)⟩)) ?_
      refine DSteps.cons (j := 19) rfl (fun _ => rfl) (.run (fun γ ρ B hb hd => ⟨.none, OpStep.at ⟨ρ, B, _⟩ (setO ⟨ρ, B, _⟩ (some 60) (.one (.val (S rB false)))) (op_move (ltB rfl) (.tmp (hdl hd 17 59 rfl (by decide +kernel))))⟩)) ?_
      refine DSteps.cons (j := 20) rfl (fun _ => rfl) (.skip (fun γ ρ B hb hd => ⟨.no rfl (ltB rfl) (hdl hd 18 60 rfl (by decide +kernel)) rfl, rfl, rfl, rfl, fun d h => by cases h; exact ltB rfl⟩)) ?_
      refine DSteps.cons (j := 21) rfl (fun _ => rfl) (.skip (fun γ ρ B hb hd => ⟨.no rfl (ltB rfl) (hdl hd 18 60 rfl (by decide +kernel)) rfl, rfl, rfl, rfl, fun d h => by cases h; exact ltB rfl⟩)) ?_
      refine DSteps.cons (j := 22) rfl (fun _ => rfl) (.skip (fun γ ρ B hb hd => ⟨.no rfl (ltB rfl) (hdl hd 18 60 rfl (by decide +kernel)) rfl, rfl, rfl, rfl, fun d h => by cases h; exact ltB rfl⟩)) ?_
      refine DSteps.cons (j := 23) rfl (fun _ => rfl) (.skip (fun γ ρ B hb hd => ⟨.no rfl (ltB rfl) (hdl hd 18 60 rfl (by decide +kernel)) rfl, rfl, rfl, rfl, fun d h => by cases h; exact ltB rfl⟩)) ?_
      refine DSteps.cons (j := 24) rfl (fun _ => rfl) (.skip (fun γ ρ B hb hd => ⟨.no rfl (ltB rfl) (hdl hd 18 60 rfl (by decide +kernel)) rfl, rfl, rfl, rfl, fun d h => by cases h; exact ltB rfl⟩)) ?_
      refine DSteps.cons (j := 25) rfl (fun _ => rfl) (.skip (fun γ ρ B hb hd => ⟨.no rfl (ltB rfl) (hdl hd 18 60 rfl (by decide +kernel)) rfl, rfl, rfl, rfl, fun d h => by cases h; exact ltB rfl⟩)) ?_
      refine DSteps.cons (j := 26) rfl (fun _ => rfl) (.skip (fun γ ρ B hb hd => ⟨.no rfl (ltB rfl) (hdl hd 18 60 rfl (by decide +kernel)) rfl, rfl, rfl, rfl, fun d h => by cases h; exact ltB rfl⟩)) ?_
      refine DSteps.cons (j := 27) rfl (fun _ => rfl) (.skip (fun γ ρ B hb hd => ⟨.no rfl (ltB rfl) (hdl hd 18 60 rfl (by decide +kernel)) rfl, rfl, rfl, rfl, fun d h => by cases h; exact ltB rfl⟩)) ?_
      refine DSteps.cons (j := 28) rfl (fun _ => rfl) (.run (fun γ ρ B hb hd => ⟨.none, OpStep.at ⟨ρ, B, _⟩ (setO ⟨ρ, B, _⟩ (some 69) (.one (.val (S rB false)))) (op_pickF (ltB rfl) (.tmp (hdl hd 18 60 rfl (by decide +kernel))) rfl .cB)⟩)) ?_
      exact DSteps.nil)
                  (by decide +kernel) (fun _ => rfl) rfl (fun _ => rfl) (fun _ => rfl) rfl (by decide) (by decide)
                  (ρ' := fun γ => [(69, .one (.val (S rB false)))])
                  (X' := fun γ => [cvar gb_4 r_api_Event t_1, cvar gb_5 r_api_Event a_2])
                  (fun γ ρ hb hd => (.cons (hdq hd 27 69 rfl) .nil)) (fun _ => rfl) (fun γ => ?_)
              refine JQ.at ⟨[(69, .one (.val (S rB false)))], [cvar gb_4 r_api_Event t_1, cvar gb_5 r_api_Event a_2], []⟩ ?_
              replace hx22 := Option.some.inj hx22
              subst hx22
              exact JQ.join () (Imp.norm (js := []) rfl (.cons rfl .nil))
      · replace hx9 := bnd_inv hx9
        obtain ⟨v_14, hv_v_14, hx9⟩ := hx9
        replace hx9 := bnd_inv hx9
        obtain ⟨v_15, hv_v_15, hx9⟩ := hx9
        replace hx9 := lt1_inv hx9
        obtain ⟨v_16, hv_v_16, hx9⟩ := hx9
        rcases iteB_inv hx9 with ⟨hc15, hx9⟩ | ⟨hc15, hx9⟩
        · replace hx9 := bnd_inv hx9
          obtain ⟨v_17, hv_v_17, hx9⟩ := hx9
          replace hx9 := lt1_inv hx9
          obtain ⟨v_18, hv_v_18, hx9⟩ := hx9
          replace hx9 := bnd_inv hx9
          obtain ⟨v_19, hv_v_19, hx9⟩ := hx9
          replace hx9 := lt1_inv hx9
          obtain ⟨v_20, hv_v_20, hx9⟩ := hx9
          replace hx9 := lt1_inv hx9
          obtain ⟨v_21, hv_v_21, hx9⟩ := hx9
          refine JC.anyE (base := [(3, .one (.val (PTR gb_4 0))), (4, .one (.val (PTR gb_5 0))), (5, .one (.val (PTR gb_6 0)))])
              (fs := fun γ => [⟨some 18, .one (.val (A r_api_Event t_1))⟩, ⟨some 19, .one (.val (A r_api_Event a_2))⟩, ⟨some 20, .one (.val (S rB v_14))⟩, ⟨some 21, .one (.val (S rB v_14))⟩, ⟨some 22, bif v_14 then .one (.val (A r_api_Event a_2)) else .one .und⟩, ⟨some 23, bif v_14 then .one (.val (A r_api_Event a_3)) else .one .und⟩, ⟨some 24, bif v_14 then .one (.val (S rB v_15)) else .one .und⟩, ⟨some 25, .one (.val (S rB v_16))⟩, ⟨some 26, .one (.val (S rB v_16))⟩, ⟨some 27, .one (.val (PTR gb_6 (0 + 4)))⟩, ⟨some 28, .one (.val (A (rV 16 (rU UInt64)) a_3.Past))⟩, ⟨some 29, .one (.val (PTR gb_5 (0 + 4)))⟩, ⟨some 30, .one (.val (A (rV 16 (rU UInt64)) a_2.Past))⟩, ⟨some 31, .one (.val (A (rV 16 (rU UInt64)) v_17))⟩, ⟨some 32, .one (.val (PTR gb_6 (0 + 4)))⟩, ⟨some 33, .one (.val (A (rV 16 (rU UInt64)) a_3.Past))⟩, ⟨some 34, .one (.val (S rB v_18))⟩, ⟨some 35, .one (.val (S rB v_18))⟩, ⟨some 36, .one (.val (S rB v_18))⟩, ⟨some 37, bif v_18 then .one (.val (A r_api_Event t_1)) else .one .und⟩, ⟨some 38, bif v_18 then .one (.val (A r_api_Event a_3)) else .one .und⟩, ⟨some 39, bif v_18 then .one (.val (S rB v_19)) else .one .und⟩, ⟨some 40, bif v_18 then .one (.val (S rB v_20)) else .one .und⟩, ⟨some 41, .one (.val (S rB v_21))⟩])
              (rs := fun γ => [⟨cvar gb_4 r_api_Event t_1, none, none, [0, 19]⟩, ⟨cvar gb_5 r_api_Event a_2, none, none, [1, 4, 12]⟩, ⟨cvar gb_6 r_api_Event a_3, none, none, [5, 10, 15, 20]⟩])
              (ds := [18, 19, 20, 21, 22, 23, 24, 25, 26, 27, 28, 29, 30, 31, 32, 33, 34, 35, 36, 37, 38, 39, 40, 41]) (bs := [3, 4, 5]) (afts := [[], [], [], [], [], [], [], [], [], [], [], [], [], [], [], [], [], [], [], [], [], [], [], []]) (js := [0, 0, 0]) mixed (.cons rfl (.cons rfl (.cons rfl .nil))) (fun _ => rfl)
              (by
      refine DSteps.cons (j := 1) rfl (fun _ => rfl) (.run (fun γ ρ B hb hd => ⟨.none, OpStep.at ⟨ρ, (cvar gb_4 r_api_Event t_1) :: B, _⟩ (setO ⟨ρ, (cvar gb_4 r_api_Event t_1) :: B, _⟩ (some 18) (.one (.val (A r_api_Event t_1)))) (op_loadA (j := 0) (ltB rfl) tA38 (.tmp (hb 3 _ rfl)) rfl (Comp.self r_api_Event t_1) rfl)⟩)) ?_
      refine DSteps.cons (j := 2) rfl (fun _ => rfl) (.run (fun γ ρ B hb hd => ⟨.none, OpStep.at ⟨ρ, (cvar gb_5 r_api_Event a_2) :: B, _⟩ (setO ⟨ρ, (cvar gb_5 r_api_Event a_2) :: B, _⟩ (some 19) (.one (.val (A r_api_Event a_2)))) (op_loadA (j := 0) (ltB rfl) tA38 (.tmp (hb 4 _ rfl)) rfl (Comp.self r_api_Event a_2) rfl)⟩)) ?_
      refine DSteps.cons (j := 3) rfl (fun _ => rfl) (.run (fun γ ρ B hb hd => ⟨.none, OpStep.at ⟨ρ, B, _⟩ (setO ⟨ρ, B, _⟩ (some 20) (.one (.val (S rB v_14)))) ((op_call (js := []) (ltD rfl) cl15 (sim_event_Before k t_1 a_2 v_14 hv_v_14) .func (.cons (.tmp (hdl hd 0 18 rfl (by decide +kernel))) (.cons (.tmp (hdl hd 1 19 rfl (by decide +kernel))) .nil)) rfl).post (fun _ => Imp.refl))⟩)) ?_
      refine DSteps.cons (j := 4) rfl (fun _ => rfl) (.run (fun γ ρ B hb hd => ⟨.none, OpStep.at ⟨ρ, B, _⟩ (setO ⟨ρ, B, _⟩ (some 21) (.one (.val (S rB v_14)))) (op_move (ltB rfl) (.tmp (hdl hd 2 20 rfl (by decide +kernel))))⟩)) ?_
      refine DSteps.cons (j := 5) rfl (fun _ => rfl) (.cnd (q := v_14) (sv := fun γ => .one (.val (A r_api_Event a_2))) (fun _ => rfl) (fun _ => rfl) (fun d h => by cases h; exact ltB rfl) (fun _ => rfl) (fun γ ρ B hb hd => ⟨(Guard.isT (ltB rfl) rfl (hdl hd 3 21 rfl (by decide +kernel))), fun hq_10 => OpStep.at ⟨ρ, (cvar gb_5 r_api_Event a_2) :: B, _⟩ (setO ⟨ρ, (cvar gb_5 r_api_Event a_2) :: B, _⟩ (some 22) (.one (.val (A r_api_Event a_2)))) (op_loadA (j := 0) (ltB rfl) tA38 (.tmp (hb 4 _ rfl)) rfl (Comp.self r_api_Event a_2) rfl)⟩)) ?_
      refine DSteps.cons (j := 6) rfl (fun _ => rfl) (.cnd (q := v_14) (sv := fun γ => .one (.val (A r_api_Event a_3))) (fun _ => rfl) (fun _ => rfl) (fun d h => by cases h; exact ltB rfl) (fun _ => rfl) (fun γ ρ B hb hd => ⟨(Guard.isT (ltB rfl) rfl (hdl hd 3 21 rfl (by decide +kernel))), fun hq_11 => OpStep.at ⟨ρ, (cvar gb_6 r_api_Event a_3) :: B, _⟩ (setO ⟨ρ, (cvar gb_6 r_api_Event a_3) :: B, _⟩ (some 23) (.one (.val (A r_api_Event a_3)))) (op_loadA (j := 0) (ltB rfl) tA38 (.tmp (hb 5 _ rfl)) rfl (Comp.self r_api_Event a_3) rfl)⟩)) ?_
      refine DSteps.cons (j := 7) rfl (fun _ => rfl) (.cnd (q := v_14) (sv := fun γ => .one (.val (S rB v_15))) (fun _ => rfl) (fun _ => rfl) (fun d h => by cases h; exact ltB rfl) (fun _ => rfl) (fun γ ρ B hb hd => ⟨(Guard.isT (ltB rfl) rfl (hdl hd 3 21 rfl (by decide +kernel))), fun hq_12 => OpStep.at ⟨ρ, B, _⟩ (setO ⟨ρ, B, _⟩ (some 24) (.one (.val (S rB v_15)))) ((op_call (js := []) (ltD rfl) cl15 (sim_event_Before k a_2 a_3 v_15 (ifT hv_v_15 hq_12)) .func (.cons (HasO.cnd (.tmp (hdl hd 4 22 rfl (by decide +kernel))) hq_12) (.cons (HasO.cnd (.tmp (hdl hd 5 23 rfl (by decide +kernel))) hq_12) .nil)) rfl).post (fun _ => Imp.refl))⟩)) ?_
      refine DSteps.cons (j := 8) rfl (fun _ => rfl) (.run (fun γ ρ B hb hd => ⟨.none, OpStep.at ⟨ρ, B, _⟩ (setO ⟨ρ, B, _⟩ (some 25) (.one (.val (S rB v_16)))) (op_pickCS (ltB rfl) (.tmp (hdl hd 3 21 rfl (by decide +kernel))) (fun hb13 => (HasO.cnd (.tmp (hdl hd 6 24 rfl (by decide +kernel))) hb13)) (fun hb13 => .cB) hv_v_16)⟩)) ?_
      refine DSteps.cons (j := 9) rfl (fun _ => rfl) (.run (fun γ ρ B hb hd => ⟨.none, OpStep.at ⟨ρ, B, _⟩ (setO ⟨ρ, B, _⟩ (some 26) (.one (.val (S rB v_16)))) (op_move (ltB rfl) (.tmp (hdl hd 7 25 rfl (by decide +kernel))))⟩)) ?_
      refine DSteps.cons (j := 10) rfl (fun _ => rfl) (.run (fun γ ρ B hb hd => ⟨.yes rfl (ltB rfl) (hdl hd 8 26 rfl (by decide +kernel)) hc15, OpStep.at ⟨ρ, B, _⟩ (setO ⟨ρ, B, _⟩ (some 27) (.one (.val (PTR gb_6 (0 + 4))))) (op_fieldAddr (off := 4) (ltB rfl) tf38_3 (.tmp (hb 5 _ rfl)))⟩)) ?_
      refine DSteps.cons (j := 11) rfl (fun _ => rfl) (.run (fun γ ρ B hb hd => ⟨.yes rfl (ltB rfl) (hdl hd 8 26 rfl (by decide +kernel)) hc15, OpStep.at ⟨ρ, (cvar gb_6 r_api_Event a_3) :: B, _⟩ (setO ⟨ρ, (cvar gb_6 r_api_Event a_3) :: B, _⟩ (some 28) (.one (.val (A (rV 16 (rU UInt64)) a_3.Past)))) (op_loadA (j := 0) (ltB rfl) tA26 (.tmp (hdl hd 9 27 rfl (by decide +kernel))) rfl (Comp.trans (Comp.self r_api_Event a_3) (comp_api_Event_Past a_3) (by decide)) rfl)⟩)) ?_
      refine DSteps.cons (j := 12) rfl (fun _ => rfl) (.run (fun γ ρ B hb hd => ⟨.yes rfl (ltB rfl) (hdl hd 8 26 rfl (by decide +kernel)) hc15, OpStep.at ⟨ρ, B, _⟩ (setO ⟨ρ, B, _⟩ (some 29) (.one (.val (PTR gb_5 (0 + 4))))) (op_fieldAddr (off := 4) (ltB rfl) tf38_3 (.tmp (hb 4 _ rfl)))⟩)) ?_
      refine DSteps.cons (j := 13) rfl (fun _ => rfl) (.run (fun γ ρ B hb hd => ⟨.yes rfl (ltB rfl) (hdl hd 8 26 rfl (by decide +kernel)) hc15, OpStep.at ⟨ρ, (cvar gb_5 r_api_Event a_2) :: B, _⟩ (setO ⟨ρ, (cvar gb_5 r_api_Event a_2) :: B, _⟩ (some 30) (.one (.val (A (rV 16 (rU UInt64)) a_2.Past)))) (op_loadA (j := 0) (ltB rfl) tA26 (.tmp (hdl hd 11 29 rfl (by decide +kernel))) rfl (Comp.trans (Comp.self r_api_Event a_2) (comp_api_Event_Past a_2) (by decide)) rfl)⟩)) ?_
      refine DSteps.cons (j := 14) rfl (fun _ => rfl) (.run (fun γ ρ B hb hd => ⟨.yes rfl (ltB rfl) (hdl hd 8 26 rfl (by decide +kernel)) hc15, OpStep.at ⟨ρ, B, _⟩ (setO ⟨ρ, B, _⟩ (some 31) (.one (.val (A (rV 16 (rU UInt64)) v_17)))) ((op_call (js := []) (ltD rfl) cl8 (sim_event_Join k a_3.Past a_2.Past v_17 hv_v_17) .func (.cons (.tmp (hdl hd 10 28 rfl (by decide +kernel))) (.cons (.tmp (hdl hd 12 30 rfl (by decide +kernel))) .nil)) rfl).post (fun _ => Imp.refl))⟩)) ?_
      refine DSteps.cons (j := 15) rfl (fun _ => rfl) (.run (fun γ ρ B hb hd => ⟨.yes rfl (ltB rfl) (hdl hd 8 26 rfl (by decide +kernel)) hc15, OpStep.at ⟨ρ, B, _⟩ (setO ⟨ρ, B, _⟩ (some 32) (.one (.val (PTR gb_6 (0 + 4))))) (op_fieldAddr (off := 4) (ltB rfl) tf38_3 (.tmp (hb 5 _ rfl)))⟩)) ?_
      refine DSteps.cons (j := 16) rfl (fun _ => rfl) (.run (fun γ ρ B hb hd => ⟨.yes rfl (ltB rfl) (hdl hd 8 26 rfl (by decide +kernel)) hc15, OpStep.at ⟨ρ, (cvar gb_6 r_api_Event a_3) :: B, _⟩ (setO ⟨ρ, (cvar gb_6 r_api_Event a_3) :: B, _⟩ (some 33) (.one (.val (A (rV 16 (rU UInt64)) a_3.Past)))) (op_loadA (j := 0) (ltB rfl) tA26 (.tmp (hdl hd 14 32 rfl (by decide +kernel))) rfl (Comp.trans (Comp.self r_api_Event a_3) (comp_api_Event_Past a_3) (by decide)) rfl)⟩)) ?_
      refine DSteps.cons (j := 17) rfl (fun _ => rfl) (.run (fun γ ρ B hb hd => ⟨.yes rfl (ltB rfl) (hdl hd 8 26 rfl (by decide +kernel)) hc15, OpStep.at ⟨ρ, B, _⟩ (setO ⟨ρ, B, _⟩ (some 34) (.one (.val (S rB v_18)))) (op_eqA (ltB rfl) qa26 (by decide) ng26 (.tmp (hdl hd 13 31 rfl (by decide +kernel))) (.tmp (hdl hd 15 33 rfl (by decide +kernel))) hv_v_18)⟩)) ?_
      refine DSteps.cons (j := 18) rfl (fun _ => rfl) (.run (fun γ ρ B hb hd => ⟨.none, OpStep.at ⟨ρ, B, _⟩ (setO ⟨ρ, B, _⟩ (some 35) (.one (.val (S rB v_18)))) (op_pickT (ltB rfl) (.tmp (hdl hd 8 26 rfl (by decide +kernel))) hc15 (.tmp (hdl hd 16 34 rfl (by decide +kernel))))⟩)) ?_
      refine DSteps.cons (j := 19) rfl (fun _ => rfl) (.run (fun γ ρ B hb hd => ⟨.none, OpStep.at ⟨ρ, B, _⟩ (setO ⟨ρ, B, _⟩ (some 36) (.one (.val (S rB v_18)))) (op_move (ltB rfl) (.tmp (hdl hd 17 35 rfl (by decide +kernel))))⟩)) ?_
      refine DSteps.cons (j := 20) rfl (fun _ => rfl) (.cnd (q := v_18) (sv := fun γ => .one (.val (A r_api_Event t_1))) (fun _ => rfl) (fun _ => rfl) (fun d h => by cases h; exact ltB rfl) (fun _ => rfl) (fun γ ρ B hb hd => ⟨(Guard.isT (ltB rfl) rfl (hdl hd 18 36 rfl (by decide +kernel))), fun hq_16 => OpStep.at ⟨ρ, (cvar gb_4 r_api_Event t_1) :: B, _⟩ (setO ⟨ρ, (cvar gb_4 r_api_Event t_1) :: B, _⟩ (some 37) (.one (.val (A r_api_Event t_1)))) (op_loadA (j := 0) (ltB rfl) tA38 (.tmp (hb 3 _ rfl)) rfl (Comp.self r_api_Event t_1) rfl)⟩)) ?_
      refine DSteps.cons (j := 21) rfl (fun _ => rfl) (.cnd (q := v_18) (sv := fun γ => .one (.val (A r_api_Event a_3))) (fun _ => rfl) (fun _ => rfl) (fun d h => by cases h; exact ltB rfl) (fun _ => rfl) (fun γ ρ B hb hd => ⟨(Guard.isT (ltB rfl) rfl (hdl hd 18 36 rfl (by decide +kernel))), fun hq_17 => OpStep.at ⟨ρ, (cvar gb_6 r_api_Event a_3) :: B, _⟩ (setO ⟨ρ, (cvar gb_6 r_api_Event a_3) :: B, _⟩ (some 38) (.one (.val (A r_api_Event a_3)))) (op_loadA (j := 0) (ltB rfl) tA38 (.tmp (hb 5 _ rfl)) rfl (Comp.self r_api_Event a_3) rfl)⟩)) ?_
      refine DSteps.cons (j := 22) rfl (fun _ => rfl) (.cnd (q := v_18) (sv := fun γ => .one (.val (S rB v_19))) (fun _ => rfl) (fun _ => rfl) (fun d h => by cases h; exact ltB rfl) (fun _ => rfl) (fun γ ρ B hb hd => ⟨(Guard.isT (ltB rfl) rfl (hdl hd 18 36 rfl (by decide +kernel))), fun hq_18 => OpStep.at ⟨ρ, B, _⟩ (setO ⟨ρ, B, _⟩ (some 39) (.one (.val (S rB v_19)))) ((op_call (js := []) (ltD rfl) cl15 (sim_event_Before k t_1 a_3 v_19 (ifT hv_v_19 hq_18)) .func (.cons (HasO.cnd (.tmp (hdl hd 19 37 rfl (by decide +kernel))) hq_18) (.cons (HasO.cnd (.tmp (hdl hd 20 38 rfl (by decide +kernel))) hq_18) .nil)) rfl).post (fun _ => Imp.refl))⟩)) ?_
      refine DSteps.cons (j := 23) rfl (fun _ => rfl) (.cnd (q := v_18) (sv := fun γ => .one (.val (S rB v_20))) (fun _ => rfl) (fun _ => rfl) (fun d h => by cases h; exact ltB rfl) (fun _ => rfl) (fun γ ρ B hb hd => ⟨(Guard.isT (ltB rfl) rfl (hdl hd 18 36 rfl (by decide +kernel))), fun hq_19 => OpStep.at ⟨ρ, B, _⟩ (setO ⟨ρ, B, _⟩ (some 40) (.one (.val (S rB v_20)))) (op_not (ltB rfl) (HasO.cnd (.tmp (hdl hd 21 39 rfl (by decide +kernel))) hq_19) hv_v_20)⟩)) ?_
      refine DSteps.cons (j := 24) rfl (fun _ => rfl) (.run (fun γ ρ B hb hd => ⟨.none, OpStep.at ⟨ρ, B, _⟩ (setO ⟨ρ, B, _⟩ (some 41) (.one (.val (S rB v_21)))) (op_pickCS (ltB rfl) (.tmp (hdl hd 18 36 rfl (by decide +kernel))) (fun hb20 => (HasO.cnd (.tmp (hdl hd 22 40 rfl (by decide +kernel))) hb20)) (fun hb20 => .cB) hv_v_21)⟩)) ?_
      exact DSteps.nil)
              (by decide +kernel) (fun _ => rfl) rfl (fun _ => rfl) (fun _ => rfl) rfl (by decide) (by decide)
              (ρ' := fun γ => [(3, .one (.val (PTR gb_4 0))), (4, .one (.val (PTR gb_5 0))), (41, .one (.val (S rB v_21)))])
              (X' := fun γ => [cvar gb_4 r_api_Event t_1, cvar gb_5 r_api_Event a_2, cvar gb_6 r_api_Event a_3])
              (fun γ ρ hb hd => (.cons (hb 3 _ rfl) (.cons (hb 4 _ rfl) (.cons (hdq hd 23 41 rfl) .nil)))) (fun _ => rfl) (fun γ => ?_)
          refine JQ.at ⟨[(3, .one (.val (PTR gb_4 0))), (4, .one (.val (PTR gb_5 0))), (41, .one (.val (S rB v_21)))], [cvar gb_4 r_api_Event t_1, cvar gb_5 r_api_Event a_2, cvar gb_6 r_api_Event a_3], []⟩ ?_
          replace hx9 := Option.some.inj hx9
          subst hx9
          exact JQ.join () (Imp.norm (js := [0, 0]) rfl (.cons rfl (.cons rfl (.cons rfl .nil))))
        · refine JC.anyE (base := [(3, .one (.val (PTR gb_4 0))), (4, .one (.val (PTR gb_5 0))), (5, .one (.val (PTR gb_6 0)))])
              (fs := fun γ => [⟨some 18, .one (.val (A r_api_Event t_1))⟩, ⟨some 19, .one (.val (A r_api_Event a_2))⟩, ⟨some 20, .one (.val (S rB v_14))⟩, ⟨some 21, .one (.val (S rB v_14))⟩, ⟨some 22, bif v_14 then .one (.val (A r_api_Event a_2)) else .one .und⟩, ⟨some 23, bif v_14 then .one (.val (A r_api_Event a_3)) else .one .und⟩, ⟨some 24, bif v_14 then .one (.val (S rB v_15)) else .one .und⟩, ⟨some 25, .one (.val (S rB v_16))⟩, ⟨some 26, .one (.val (S rB v_16))⟩, ⟨some 27, .one (.und)⟩, ⟨some 28, .one (.und)⟩, ⟨some 29, .one (.und)⟩, ⟨some 30, .one (.und)⟩, ⟨some 31, .one (.und)⟩, ⟨some 32, .one (.und)⟩, ⟨some 33, .one (.und)⟩, ⟨some 34, .one (.und)⟩, ⟨some 35, .one (.val (S rB false))⟩, ⟨some 36, .one (.val (S rB false))⟩, ⟨some 37, .one (.und)⟩, ⟨some 38, .one (.und)⟩, ⟨some 39, .one (.und)⟩, ⟨some 40, .one (.und)⟩, ⟨some 41, .one (.val (S rB false))⟩])
              (rs := fun γ => [⟨cvar gb_4 r_api_Event t_1, none, none, [0]⟩, ⟨cvar gb_5 r_api_Event a_2, none, none, [1, 4]⟩, ⟨cvar gb_6 r_api_Event a_3, none, none, [5]⟩])
              (ds := [18, 19, 20, 21, 22, 23, 24, 25, 26, 27, 28, 29, 30, 31, 32, 33, 34, 35, 36, 37, 38, 39, 40, 41]) (bs := [3, 4, 5]) (afts := [[], [], [], [], [], [], [], [], [], [], [], [], [], [], [], [], [], [], [], [], [], [], [], []]) (js := [0, 0, 0]) mixed (.cons rfl (.cons rfl (.cons rfl .nil))) (fun _ => rfl)
              (by
      refine DSteps.cons (j := 1) rfl (fun _ => rfl) (.run (fun γ ρ B hb hd => ⟨.none, OpStep.at ⟨ρ, (cvar gb_4 r_api_Event t_1) :: B, _⟩ (setO ⟨ρ, (cvar gb_4 r_api_Event t_1) :: B, _⟩ (some 18) (.one (.val (A r_api_Event t_1)))) (op_loadA (j := 0) (ltB rfl) tA38 (.tmp (hb 3 _ rfl)) rfl (Comp.self r_api_Event t_1) rfl)⟩)) ?_
      refine DSteps.cons (j := 2) rfl (fun _ => rfl) (.run (fun γ ρ B hb hd => ⟨.none, OpStep.at ⟨ρ, (cvar gb_5 r_api_Event a_2) :: B, _⟩ (setO ⟨ρ, (cvar gb_5 r_api_Event a_2) :: B, _⟩ (some 19) (.one (.val (A r_api_Event a_2)))) (op_loadA (j := 0) (ltB rfl) tA38 (.tmp (hb 4 _ rfl)) rfl (Comp.self r_api_Event a_2) rfl)⟩)) ?_
      refine DSteps.cons (j := 3) rfl (fun _ => rfl) (.run (fun γ ρ B hb hd => ⟨.none, OpStep.at ⟨ρ, B, _⟩ (setO ⟨ρ, B, _⟩ (some 20) (.one (.val (S rB v_14)))) ((op_call (js := []) (ltD rfl) cl15 (sim_event_Before k t_1 a_2 v_14 hv_v_14) .func (.cons (.tmp (hdl hd 0 18 rfl (by decide +kernel))) (.cons (.tmp (hdl hd 1 19 rfl (by decide +kernel))) .nil)) rfl).post (fun _ => Imp.refl))⟩)) ?_
      refine DSteps.cons (j := 4) rfl (fun _ => rfl) (.run (fun γ ρ B hb hd => ⟨.none, OpStep.at ⟨ρ, B, _⟩ (setO ⟨ρ, B, _⟩ (some 21) (.one (.val (S rB v_14)))) (op_move (ltB rfl) (.tmp (hdl hd 2 20 rfl (by decide +kernel))))⟩)) ?_
      refine DSteps.cons (j := 5) rfl (fun _ => rfl) (.cnd (q := v_14) (sv := fun γ => .one (.val (A r_api_Event a_2))) (fun _ => rfl) (fun _ => rfl) (fun d h => by cases h; exact ltB rfl) (fun _ => rfl) (fun γ ρ B hb hd => ⟨(Guard.isT (ltB rfl) rfl (hdl hd 3 21 rfl (by decide +kernel))), fun hq_10 => OpStep.at ⟨ρ, (cvar gb_5 r_api_Event a_2) :: B, _⟩ (setO ⟨ρ, (cvar gb_5 r_api_Event a_2) :: B, _⟩ (some 22) (.one (.val (A r_api_Event a_2)))) (op_loadA (j := 0) (ltB rfl) tA38 (.tmp (hb 4 _ rfl)) rfl (Comp.self r_api_Event a_2) rfl)⟩)) ?_
      refine DSteps.cons (j := 6) rfl (fun _ => rfl) (.cnd (q := v_14) (sv := fun γ => .one (.val (A r_api_Event a_3))) (fun _ => rfl) (fun _ => rfl) (fun d h => by cases h; exact ltB rfl) (fun _ => rfl) (fun γ ρ B hb hd => ⟨(Guard.isT (ltB rfl) rfl (hdl hd 3 21 rfl (by decide +kernel))), fun hq_11 => OpStep.at ⟨ρ, (cvar gb_6 r_api_Event a_3) :: B, _⟩ (setO ⟨ρ, (cvar gb_6 r_api_Event a_3) :: B, _⟩ (some 23) (.one (.val (A r_api_Event a_3)))) (op_loadA (j := 0) (ltB rfl) tA38 (.tmp (hb 5 _ rfl)) rfl (Comp.self r_api_Event a_3) rfl)⟩)) ?_
      refine DSteps.cons (j := 7) rfl (fun _ => rfl) (.cnd (q := v_14) (sv := fun γ => .one (.val (S rB v_15))) (fun _ => rfl) (fun _ => rfl) (fun d h => by cases h; exact ltB rfl) (fun _ => rfl) (fun γ ρ B hb hd => ⟨(Guard.isT (ltB rfl) rfl (hdl hd 3 21 rfl (by decide +kernel))), fun hq_12 => OpStep.at ⟨ρ, B, _⟩ (setO ⟨ρ, B, _⟩ (some 24) (.one (.val (S rB v_15)))) ((op_call (js := []) (ltD rfl) cl15 (sim_event_Before k a_2 a_3 v_15 (ifT hv_v_15 hq_12)) .func (.cons (HasO.cnd (.tmp (hdl hd 4 22 rfl (by decide +kernel))) hq_12) (.cons (HasO.cnd (.tmp (hdl hd 5 23 rfl (by decide +kernel))) hq_12) .nil)) rfl).post (fun _ => Imp.refl))⟩)) ?_
      refine DSteps.cons (j := 8) rfl (fun _ => rfl) (.run (fun γ ρ B hb hd => ⟨.none, OpStep.at ⟨ρ, B, _⟩ (setO ⟨ρ, B, _⟩ (some 25) (.one (.val (S rB v_16)))) (op_pickCS (ltB rfl) (.tmp (hdl hd 3 21 rfl (by decide +kernel))) (fun hb13 => (HasO.cnd (.tmp (hdl hd 6 24 rfl (by decide +kernel))) hb13)) (fun hb13 => .cB) hv_v_16)⟩)) ?_
      refine DSteps.cons (j := 9) rfl (fun _ => rfl) (.run (fun γ ρ B hb hd => ⟨.none, OpStep.at ⟨ρ, B, _⟩ (setO ⟨ρ, B, _⟩ (some 26) (.one (.val (S rB v_16)))) (op_move (ltB rfl) (.tmp (hdl hd 7 25 rfl (by decide +kernel))))⟩)) ?_
      refine DSteps.cons (j := 10) rfl (fun _ => rfl) (.skip (fun γ ρ B hb hd => ⟨.no rfl (ltB rfl) (hdl hd 8 26 rfl (by decide +kernel)) hc15, rfl, rfl, rfl, fun d h => by cases h; exact ltB rfl⟩)) ?_
      refine DSteps.cons (j := 11) rfl (fun _ => rfl) (.skip (fun γ ρ B hb hd => ⟨.no rfl (ltB rfl) (hdl hd 8 26 rfl (by decide +kernel)) hc15, rfl, rfl, rfl, fun d h => by cases h; exact ltB rfl⟩)) ?_
      refine DSteps.cons (j := 12) rfl (fun _ => rfl) (.skip (fun γ ρ B hb hd => ⟨.no rfl (ltB rfl) (hdl hd 8 26 rfl (by decide +kernel)) hc15, rfl, rfl, rfl, fun d h => by cases h; exact ltB rfl⟩)) ?_
      refine DSteps.cons (j := 13) rfl (fun _ => rfl) (.skip (fun γ ρ B hb hd => ⟨.no rfl (ltB rfl) (hdl hd 8 26 rfl (by decide +kernel)) hc15, rfl, rfl, rfl, fun d h => by cases h; exact ltB rfl⟩)) ?_
      refine DSteps.cons (j := 14) rfl (fun _ => rfl) (.skip (fun γ ρ B hb hd => ⟨.no rfl (ltB rfl) (hdl hd 8 26 rfl (by decide +kernel)) hc15, rfl, rfl, rfl, fun d h => by cases h; exact ltB rfl⟩)) ?_
      refine DSteps.cons (j := 15) rfl (fun _ => rfl) (.skip (fun γ ρ B hb hd => ⟨.no rfl (ltB rfl) (hdl hd 8 26 rfl (by decide +kernel)) hc15, rfl, rfl, rfl, fun d h => by cases h; exact ltB rfl⟩)) ?_
      refine DSteps.cons (j := 16) rfl (fun _ => rfl) (.skip (fun γ ρ B hb hd => ⟨.no rfl (ltB rfl) (hdl hd 8 26 rfl (by decide +kernel)) hc15, rfl, rfl, rfl, fun d h => by cases h; exact ltB rfl⟩)) ?_
      refine DSteps.cons (j := 17) rfl (fun _ => rfl) (.skip (fun γ ρ B hb hd => ⟨.no rfl (ltB rfl) (hdl hd 8 26 rfl (by decide +kernel)) hc15, rfl, rfl, rfl, fun d h => by cases h; exact ltB rfl⟩)) ?_
      refine DSteps.cons (j := 18) rfl (fun _ => rfl) (.run (fun γ ρ B hb hd => ⟨.none, OpStep.at ⟨ρ, B, _⟩ (setO ⟨ρ, B, _⟩ (some 35) (.one (.val (S rB false)))) (op_pickF (ltB rfl) (.tmp (hdl hd 8 26 rfl (by decide +kernel))) hc15 .cB)⟩)) ?_
      refine DSteps.cons (j := 19) rfl (fun _ => rfl) (.run (fun γ ρ B hb hd => ⟨.none, OpStep.at ⟨ρ, B, _⟩ (setO ⟨ρ, B, _⟩ (some 36) (.one (.val (S rB false)))) (op_move (ltB rfl) (.tmp (hdl hd 17 35 rfl (by decide +kernel))))⟩)) ?_
      refine DSteps.cons (j := 20) rfl (fun _ => rfl) (.skip (fun γ ρ B hb hd => ⟨.no rfl (ltB rfl) (hdl hd 18 36 rfl (by decide +kernel)) rfl, rfl, rfl, rfl, fun d h => by cases h; exact ltB rfl⟩)) ?_
      refine DSteps.cons (j := 21) rfl (fun _ => rfl) (.skip (fun γ ρ B hb hd => ⟨.no rfl (ltB rfl) (hdl hd 18 36 rfl (by decide +kernel)) rfl, rfl, rfl, rfl, fun d h => by cases h; exact ltB rfl⟩)) ?_
      refine DSteps.cons (j := 22) rfl (fun _ => rfl) (.skip (fun γ ρ B hb hd => ⟨.no rfl (ltB rfl) (hdl hd 18 36 rfl (by decide +kernel)) rfl, rfl, rfl, rfl, fun d h => by cases h; exact ltB rfl⟩)) ?_
      refine DSteps.cons (j := 23) rfl (fun _ => rfl) (.skip (fun γ ρ B hb hd => ⟨.no rfl (ltB rfl) (hdl hd 18 36 rfl (by decide +kernel)) rfl, rfl, rfl, rfl, fun d h => by cases h; exact ltB rfl⟩)) ?_
      refine DSteps.cons (j := 24) rfl (fun _ => rfl) (.run (fun γ ρ B hb hd => ⟨.none, OpStep.at ⟨ρ, B, _⟩ (setO ⟨ρ, B, _⟩ (some 41) (.one (.val (S rB false)))) (op_pickF (ltB rfl) (.tmp (hdl hd 18 36 rfl (by decide +kernel))) rfl .cB)⟩)) ?_
      exact DSteps.nil)
              (by decide +kernel) (fun _ => rfl) rfl (fun _ => rfl) (fun _ => rfl) rfl (by decide) (by decide)
              (ρ' := fun γ => [(3, .one (.val (PTR gb_4 0))), (4, .one (.val (PTR gb_5 0))), (41, .one (.val (S rB false)))])
              (X' := fun γ => [cvar gb_4 r_api_Event t_1, cvar gb_5 r_api_Event a_2, cvar gb_6 r_api_Event a_3])
              (fun γ ρ hb hd => (.cons (hb 3 _ rfl) (.cons (hb 4 _ rfl) (.cons (hdq hd 23 41 rfl) .nil)))) (fun _ => rfl) (fun γ => ?_)
          refine JQ.at ⟨[(3, .one (.val (PTR gb_4 0))), (4, .one (.val (PTR gb_5 0))), (41, .one (.val (S rB false)))], [cvar gb_4 r_api_Event t_1, cvar gb_5 r_api_Event a_2, cvar gb_6 r_api_Event a_3], []⟩ ?_
          replace hx9 := Option.some.inj hx9
          subst hx9
          exact JQ.join () (Imp.norm (js := [0, 0]) rfl (.cons rfl (.cons rfl (.cons rfl .nil))))
  · refine JC.region ?_
    refine JL.cons rfl (op_loadA (j := 0) (ltB rfl) tA38 (.tmp rfl) rfl (Comp.self r_api_Event t_1) rfl) ?_
    replace hx1 := bnd_inv hx1
    obtain ⟨v_7, hv_v_7, hx1⟩ := hx1
    refine JL.consX rfl (op_call (js := []) (ltD rfl) cl14 (sim_ref09_Much k t_1 v_7 hv_v_7) .func (.cons (.tmp rfl) .nil) rfl) (fun _ => ?_)
    refine JL.cons rfl (op_move (ltB rfl) (.tmp rfl)) ?_
    refine JL.cnd (sv := .one (.val (A r_api_Event a_2))) (Guard.isF (ltB rfl) rfl rfl) rfl (ltB rfl) (fun hq_2 => op_loadA (j := 1) (ltB rfl) tA38 (.tmp rfl) rfl (Comp.self r_api_Event a_2) rfl) ?_
    replace hx1 := bnd_inv hx1
    obtain ⟨v_8, hv_v_8, hx1⟩ := hx1
    refine JL.cnd (sv := .one (.val (S rB v_8))) (Guard.isF (ltB rfl) rfl rfl) rfl (ltB rfl) (fun hq_3 => (op_call (js := []) (ltD rfl) cl14 (sim_ref09_Much k a_2 v_8 (ifT hv_v_8 hq_3)) .func (.cons (HasO.cnd (.tmp rfl) (notT (notF hq_3))) .nil) rfl).post (fun _ => Imp.refl)) ?_
    refine JL.pre (Imp.sub (ρ' := [(3, .one (.val (PTR gb_4 0))), (4, .one (.val (PTR gb_5 0))), (5, .one (.val (PTR gb_6 0))), (9, .one (.val (S rB v_7))), (11, bif (!v_7) then .one (.val (S rB v_8)) else .one .und)]) (.cons rfl (.cons rfl (.cons rfl (.cons rfl (.cons rfl .nil)))))) ?_
    refine JL.at ⟨[(3, .one (.val (PTR gb_4 0))), (4, .one (.val (PTR gb_5 0))), (5, .one (.val (PTR gb_6 0))), (9, .one (.val (S rB v_7))), (11, bif (!v_7) then .one (.val (S rB v_8)) else .one .und)], [cvar gb_4 r_api_Event t_1, cvar gb_5 r_api_Event a_2, cvar gb_6 r_api_Event a_3], []⟩ ?_
    replace hx1 := lt1_inv hx1
    obtain ⟨v_9, hv_v_9, hx1⟩ := hx1
    refine JL.cons rfl (op_pickCS (ltB rfl) (.tmp rfl) (fun hb4 => .cB) (fun hb4 => (HasO.cnd (.tmp rfl) (notT hb4))) hv_v_9) ?_
    refine JL.cons rfl (op_move (ltB rfl) (.tmp rfl)) ?_
    refine JL.cnd (sv := .one (.val (A r_api_Event a_3))) (Guard.isF (ltB rfl) rfl rfl) rfl (ltB rfl) (fun hq_5 => op_loadA (j := 2) (ltB rfl) tA38 (.tmp rfl) rfl (Comp.self r_api_Event a_3) rfl) ?_
    replace hx1 := bnd_inv hx1
    obtain ⟨v_10, hv_v_10, hx1⟩ := hx1
    refine JL.cnd (sv := .one (.val (S rB v_10))) (Guard.isF (ltB rfl) rfl rfl) rfl (ltB rfl) (fun hq_6 => (op_call (js := []) (ltD rfl) cl14 (sim_ref09_Much k a_3 v_10 (ifT hv_v_10 hq_6)) .func (.cons (HasO.cnd (.tmp rfl) (notT (notF hq_6))) .nil) rfl).post (fun _ => Imp.refl)) ?_
    replace hx1 := lt1_inv hx1
    obtain ⟨v_11, hv_v_11, hx1⟩ := hx1
    refine JL.cons rfl (op_pickCS (ltB rfl) (.tmp rfl) (fun hb7 => .cB) (fun hb7 => (HasO.cnd (.tmp rfl) (notT hb7))) hv_v_11) ?_
    refine JL.nil ?_
    replace hx1 := Option.some.inj hx1
    subst hx1
    exact JQ.join () (Imp.norm (js := [0, 0, 0]) rfl (.cons rfl (.cons rfl (.cons rfl (.cons rfl .nil)))))

end Go.Proofs.Ythoggbomakolkaa
