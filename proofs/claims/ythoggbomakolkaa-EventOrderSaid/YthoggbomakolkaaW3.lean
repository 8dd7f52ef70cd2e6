/- Walks. -/
import Derived.Test.YthoggbomakolkaaT
import Derived.Test.YthoggbomakolkaaW0
import Derived.Test.YthoggbomakolkaaW2
namespace Go.Proofs.Ythoggbomakolkaa
open Go Fw
set_option linter.unusedVariables false
set_option maxRecDepth 100000
set_option maxHeartbeats 4000000

theorem sim_event_Ready (k : Nat) (e_1 : api_Event) (had_2 : (Vector UInt64 16)) (r : Bool) (hm : event_Ready k e_1 had_2 = some r) : Sim Try.prog 13 [A r_api_Event e_1, A (rV 16 (rU UInt64)) had_2] [] (γ := Unit) (fun q => []) (fun q => .one (.val (S rB r))) := by
  unfold event_Ready at hm
  refine Sim.of Try.func13 rfl rfl (Nat.le_of_ble_eq_true rfl) (fun e0 w0 => ?_)
  refine JC.at ⟨[(0, .one (.val (A r_api_Event e_1))), (1, .one (.val (A (rV 16 (rU UInt64)) had_2)))], [], []⟩ ?_
  refine JC.seq ?_
  refine JC.region ?_
  refine JL.consX rfl (op_boxA (ltB rfl) (.tmp rfl)) (fun q => ?_)
  obtain ⟨gb_3, hqq⟩ : ∃ z, z = q := ⟨_, rfl⟩
  subst hqq
  refine JL.pre (Imp.sub (ρ' := [(1, .one (.val (A (rV 16 (rU UInt64)) had_2))), (2, .one (.val (PTR gb_3 0)))]) (.cons rfl (.cons rfl .nil))) ?_
  refine JL.at ⟨[(1, .one (.val (A (rV 16 (rU UInt64)) had_2))), (2, .one (.val (PTR gb_3 0)))], [cvar gb_3 r_api_Event e_1], []⟩ ?_
  refine JL.consX rfl (op_boxA (ltB rfl) (.tmp rfl)) (fun q => ?_)
  obtain ⟨gb_4, hqq⟩ : ∃ z, z = q := ⟨_, rfl⟩
  subst hqq
  refine JL.pre (Imp.sub (ρ' := [(2, .one (.val (PTR gb_3 0))), (3, .one (.val (PTR gb_4 0)))]) (.cons rfl (.cons rfl .nil))) ?_
  refine JL.at ⟨[(2, .one (.val (PTR gb_3 0))), (3, .one (.val (PTR gb_4 0)))], [cvar gb_3 r_api_Event e_1, cvar gb_4 (rV 16 (rU UInt64)) had_2], []⟩ ?_
  refine JL.cons rfl (op_assign (ltB rfl) .cB) ?_
  refine JL.nil ?_
  refine JQ.then ?_
  obtain ⟨x_13, hx1, hq1⟩ := bnd_inv hm
  refine JC.seqJ (γ := Unit) (stj := fun q => ⟨[(4, .one (.val (S rB x_13)))], [], []⟩) (fun q => ?_) ?_
  · obtain _ := q
    refine JC.at ⟨[(4, .one (.val (S rB x_13)))], [], []⟩ ?_
    refine JC.ret ?_
    replace hq1 := Option.some.inj hq1
    subst hq1
    exact JQ.done (js := []) (ss := [.val (S rB x_13)]) () (.inl rfl) (.nil rfl) rfl (.cons (.tmp rfl) .nil) rfl rfl rfl
  · replace hx1 := bnd_inv hx1
    obtain ⟨v_5, hv_v_5, hx1⟩ := hx1
    rcases iteB_inv hx1 with ⟨hc4, hx1⟩ | ⟨hc4, hx1⟩
    · replace hx1 := bnd_inv hx1
      obtain ⟨v_6, hv_v_6, hx1⟩ := hx1
      replace hx1 := lt1_inv hx1
      obtain ⟨v_7, hv_v_7, hx1⟩ := hx1
      rcases iteB_inv hx1 with ⟨hc6, hx1⟩ | ⟨hc6, hx1⟩
      · replace hx1 := lt1_inv hx1
        obtain ⟨v_8, hv_v_8, hx1⟩ := hx1
        replace hx1 := bnd_inv hx1
        obtain ⟨i_9, hv_i_9, hx1⟩ := hx1
        replace hx1 := lt1_inv hx1
        obtain ⟨v_10, hv_v_10, hx1⟩ := hx1
        replace hx1 := lt1_inv hx1
        obtain ⟨v_11, hv_v_11, hx1⟩ := hx1
        replace hx1 := lt1_inv hx1
        obtain ⟨v_12, hv_v_12, hx1⟩ := hx1
        refine JC.anyE (base := [(2, .one (.val (PTR gb_3 0))), (3, .one (.val (PTR gb_4 0)))])
            (fs := fun γ => [⟨some 5, .one (.val (A r_api_Event e_1))⟩, ⟨some 6, .one (.val (S rB v_5))⟩, ⟨some 7, .one (.val (S rB v_5))⟩, ⟨some 8, bif v_5 then .one (.val (A (rV 16 (rU UInt64)) had_2)) else .one .und⟩, ⟨some 9, .one (.val (PTR gb_3 (0 + 4)))⟩, ⟨some 10, .one (.val (A (rV 16 (rU UInt64)) e_1.Past))⟩, ⟨some 11, .one (.val (A (rV 16 (rU UInt64)) v_6))⟩, ⟨some 12, .one (.val (A (rV 16 (rU UInt64)) had_2))⟩, ⟨some 13, .one (.val (S rB v_7))⟩, ⟨some 14, .one (.val (S rB v_7))⟩, ⟨some 15, .one (.val (S rB v_7))⟩, ⟨some 16, .one (.val (PTR gb_3 (0 + 0)))⟩, ⟨some 17, .one (.val (PTR gb_3 ((0 + 0) + 0)))⟩, ⟨some 18, .one (.val (S (rI .i64) e_1.ID.Region))⟩, ⟨some 19, .one (.val (S (rI .i64) v_8))⟩, ⟨some 20, .one (.val (PTR gb_4 (0 + i_9.1 * 1)))⟩, ⟨some 21, .one (.val (S (rU UInt64) v_10))⟩, ⟨some 22, .one (.val (PTR gb_3 (0 + 0)))⟩, ⟨some 23, .one (.val (PTR gb_3 ((0 + 0) + 1)))⟩, ⟨some 24, .one (.val (S (rU UInt64) e_1.ID.Count))⟩, ⟨some 25, .one (.val (S (rU UInt64) v_11))⟩, ⟨some 26, .one (.val (S rB v_12))⟩, ⟨some 27, .one (.val (S rB v_12))⟩, ⟨some 4, .one (.val (S rB v_12))⟩])
            (rs := fun γ => [⟨cvar gb_3 r_api_Event e_1, none, none, [0, 5, 13, 19]⟩, ⟨cvar gb_4 (rV 16 (rU UInt64)) had_2, none, none, [3, 7, 16]⟩])
            (ds := [5, 6, 7, 8, 9, 10, 11, 12, 13, 14, 15, 16, 17, 18, 19, 20, 21, 22, 23, 24, 25, 26, 27, 4]) (bs := [2, 3]) (afts := [[], [], [], [], [], [], [], [], [], [], [], [], [], [], [], [], [], [], [], [], [], [], [], []]) (js := [0, 0]) mixed (.cons rfl (.cons rfl .nil)) (fun _ => rfl)
            (by
      refine DSteps.cons (j := 1) rfl (fun _ => rfl) (.run (fun γ ρ B hb hd => ⟨.none, OpStep.at ⟨ρ, (cvar gb_3 r_api_Event e_1) :: B, _⟩ (setO ⟨ρ, (cvar gb_3 r_api_Event e_1) :: B, _⟩ (some 5) (.one (.val (A r_api_Event e_1)))) (op_loadA (j := 0) (ltB rfl) tA38 (.tmp (hb 2 _ rfl)) rfl (Comp.self r_api_Event e_1) rfl)⟩)) ?_
      refine DSteps.cons (j := 2) rfl (fun _ => rfl) (.run (fun γ ρ B hb hd => ⟨.none, OpStep.at ⟨ρ, B, _⟩ (setO ⟨ρ, B, _⟩ (some 6) (.one (.val (S rB v_5)))) ((op_call (js := []) (ltD rfl) cl17 (sim_event_May k e_1 v_5 hv_v_5) .func (.cons (.tmp (hdl hd 0 5 rfl (by decide +kernel))) .nil) rfl).post (fun _ => Imp.refl))⟩)) ?_
      refine DSteps.cons (j := 3) rfl (fun _ => rfl) (.run (fun γ ρ B hb hd => ⟨.none, OpStep.at ⟨ρ, B, _⟩ (setO ⟨ρ, B, _⟩ (some 7) (.one (.val (S rB v_5)))) (op_move (ltB rfl) (.tmp (hdl hd 1 6 rfl (by decide +kernel))))⟩)) ?_
      refine DSteps.cons (j := 4) rfl (fun _ => rfl) (.cnd (q := v_5) (sv := fun γ => .one (.val (A (rV 16 (rU UInt64)) had_2))) (fun _ => rfl) (fun _ => rfl) (fun d h => by cases h; exact ltB rfl) (fun _ => rfl) (fun γ ρ B hb hd => ⟨(Guard.isT (ltB rfl) rfl (hdl hd 2 7 rfl (by decide +kernel))), fun hq_2 => OpStep.at ⟨ρ, (cvar gb_4 (rV 16 (rU UInt64)) had_2) :: B, _⟩ (setO ⟨ρ, (cvar gb_4 (rV 16 (rU UInt64)) had_2) :: B, _⟩ (some 8) (.one (.val (A (rV 16 (rU UInt64)) had_2)))) (op_loadA (j := 0) (ltB rfl) tA26 (.tmp (hb 3 _ rfl)) rfl (Comp.self (rV 16 (rU UInt64)) had_2) rfl)⟩)) ?_
      refine DSteps.cons (j := 5) rfl (fun _ => rfl) (.run (fun γ ρ B hb hd => ⟨.yes rfl (ltB rfl) (hdl hd 2 7 rfl (by decide +kernel)) hc4, OpStep.at ⟨ρ, B, _⟩ (setO ⟨ρ, B, _⟩ (some 9) (.one (.val (PTR gb_3 (0 + 4))))) (op_fieldAddr (off := 4) (ltB rfl) tf38_3 (.tmp (hb 2 _ rfl)))⟩)) ?_
      refine DSteps.cons (j := 6) rfl (fun _ => rfl) (.run (fun γ ρ B hb hd => ⟨.yes rfl (ltB rfl) (hdl hd 2 7 rfl (by decide +kernel)) hc4, OpStep.at ⟨ρ, (cvar gb_3 r_api_Event e_1) :: B, _⟩ (setO ⟨ρ, (cvar gb_3 r_api_Event e_1) :: B, _⟩ (some 10) (.one (.val (A (rV 16 (rU UInt64)) e_1.Past)))) (op_loadA (j := 0) (ltB rfl) tA26 (.tmp (hdl hd 4 9 rfl (by decide +kernel))) rfl (Comp.trans (Comp.self r_api_Event e_1) (comp_api_Event_Past e_1) (by decide)) rfl)⟩)) ?_
      refine DSteps.cons (j := 7) rfl (fun _ => rfl) (.run (fun γ ρ B hb hd => ⟨.yes rfl (ltB rfl) (hdl hd 2 7 rfl (by decide +kernel)) hc4, OpStep.at ⟨ρ, B, _⟩ (setO ⟨ρ, B, _⟩ (some 11) (.one (.val (A (rV 16 (rU UInt64)) v_6)))) ((op_call (js := []) (ltD rfl) cl8 (sim_event_Join k had_2 e_1.Past v_6 hv_v_6) .func (.cons (HasO.cnd (.tmp (hdl hd 3 8 rfl (by decide +kernel))) hc4) (.cons (.tmp (hdl hd 5 10 rfl (by decide +kernel))) .nil)) rfl).post (fun _ => Imp.refl))⟩)) ?_
      refine DSteps.cons (j := 8) rfl (fun _ => rfl) (.run (fun γ ρ B hb hd => ⟨.yes rfl (ltB rfl) (hdl hd 2 7 rfl (by decide +kernel)) hc4, OpStep.at ⟨ρ, (cvar gb_4 (rV 16 (rU UInt64)) had_2) :: B, _⟩ (setO ⟨ρ, (cvar gb_4 (rV 16 (rU UInt64)) had_2) :: B, _⟩ (some 12) (.one (.val (A (rV 16 (rU UInt64)) had_2)))) (op_loadA (j := 0) (ltB rfl) tA26 (.tmp (hb 3 _ rfl)) rfl (Comp.self (rV 16 (rU UInt64)) had_2) rfl)⟩)) ?_
      refine DSteps.cons (j := 9) rfl (fun _ => rfl) (.run (fun γ ρ B hb hd => ⟨.yes rfl (ltB rfl) (hdl hd 2 7 rfl (by decide +kernel)) hc4, OpStep.at ⟨ρ, B, _⟩ (setO ⟨ρ, B, _⟩ (some 13) (.one (.val (S rB v_7)))) (op_eqA (ltB rfl) qa26 (by decide) ng26 (.tmp (hdl hd 6 11 rfl (by decide +kernel))) (.tmp (hdl hd 7 12 rfl (by decide +kernel))) hv_v_7)⟩)) ?_
      refine DSteps.cons (j := 10) rfl (fun _ => rfl) (.run (fun γ ρ B hb hd => ⟨.none, OpStep.at ⟨ρ, B, _⟩ (setO ⟨ρ, B, _⟩ (some 14) (.one (.val (S rB v_7)))) (op_pickT (ltB rfl) (.tmp (hdl hd 2 7 rfl (by decide +kernel))) hc4 (.tmp (hdl hd 8 13 rfl (by decide +kernel))))⟩)) ?_
      refine DSteps.cons (j := 11) rfl (fun _ => rfl) (.run (fun γ ρ B hb hd => ⟨.none, OpStep.at ⟨ρ, B, _⟩ (setO ⟨ρ, B, _⟩ (some 15) (.one (.val (S rB v_7)))) (op_move (ltB rfl) (.tmp (hdl hd 9 14 rfl (by decide +kernel))))⟩)) ?_
      refine DSteps.cons (j := 12) rfl (fun _ => rfl) (.run (fun γ ρ B hb hd => ⟨.yes rfl (ltB rfl) (hdl hd 10 15 rfl (by decide +kernel)) hc6, OpStep.at ⟨ρ, B, _⟩ (setO ⟨ρ, B, _⟩ (some 16) (.one (.val (PTR gb_3 (0 + 0))))) (op_fieldAddr (off := 0) (ltB rfl) tf38_0 (.tmp (hb 2 _ rfl)))⟩)) ?_
      refine DSteps.cons (j := 13) rfl (fun _ => rfl) (.run (fun γ ρ B hb hd => ⟨.yes rfl (ltB rfl) (hdl hd 10 15 rfl (by decide +kernel)) hc6, OpStep.at ⟨ρ, B, _⟩ (setO ⟨ρ, B, _⟩ (some 17) (.one (.val (PTR gb_3 ((0 + 0) + 0))))) (op_fieldAddr (off := 0) (ltB rfl) tf24_0 (.tmp (hdl hd 11 16 rfl (by decide +kernel))))⟩)) ?_
      refine DSteps.cons (j := 14) rfl (fun _ => rfl) (.run (fun γ ρ B hb hd => ⟨.yes rfl (ltB rfl) (hdl hd 10 15 rfl (by decide +kernel)) hc6, OpStep.at ⟨ρ, (cvar gb_3 r_api_Event e_1) :: B, _⟩ (setO ⟨ρ, (cvar gb_3 r_api_Event e_1) :: B, _⟩ (some 18) (.one (.val (S (rI .i64) e_1.ID.Region)))) (op_loadS (j := 0) (ltB rfl) tS3 (.tmp (hdl hd 12 17 rfl (by decide +kernel))) rfl (Comp.trans (Comp.trans (Comp.self r_api_Event e_1) (comp_api_Event_ID e_1) (by decide)) (comp_api_Dot_Region e_1.ID) (by decide)) rfl rfl)⟩)) ?_
      refine DSteps.cons (j := 15) rfl (fun _ => rfl) (.run (fun γ ρ B hb hd => ⟨.yes rfl (ltB rfl) (hdl hd 10 15 rfl (by decide +kernel)) hc6, OpStep.at ⟨ρ, B, _⟩ (setO ⟨ρ, B, _⟩ (some 19) (.one (.val (S (rI .i64) v_8)))) (op_arI (ltB rfl) (.tmp (hdl hd 13 18 rfl (by decide +kernel))) .cI (congrArg some hv_v_8))⟩)) ?_
      refine DSteps.cons (j := 16) rfl (fun _ => rfl) (.run (fun γ ρ B hb hd => ⟨.yes rfl (ltB rfl) (hdl hd 10 15 rfl (by decide +kernel)) hc6, OpStep.at ⟨ρ, B, _⟩ (setO ⟨ρ, B, _⟩ (some 20) (.one (.val (PTR gb_4 (0 + i_9.1 * 1))))) (op_indexAddrIF (ltB rfl) tr26 (.tmp (hb 3 _ rfl)) (.tmp (hdl hd 14 19 rfl (by decide +kernel))) hv_i_9)⟩)) ?_
      refine DSteps.cons (j := 17) rfl (fun _ => rfl) (.run (fun γ ρ B hb hd => ⟨.yes rfl (ltB rfl) (hdl hd 10 15 rfl (by decide +kernel)) hc6, OpStep.at ⟨ρ, (cvar gb_4 (rV 16 (rU UInt64)) had_2) :: B, _⟩ (setO ⟨ρ, (cvar gb_4 (rV 16 (rU UInt64)) had_2) :: B, _⟩ (some 21) (.one (.val (S (rU UInt64) v_10)))) (op_loadS (j := 0) (ltB rfl) tS22 (.tmp (hdl hd 15 20 rfl (by decide +kernel))) rfl (Comp.at (Comp.self (rV 16 (rU UInt64)) had_2) i_9.2 rfl) rfl hv_v_10)⟩)) ?_
      refine DSteps.cons (j := 18) rfl (fun _ => rfl) (.run (fun γ ρ B hb hd => ⟨.yes rfl (ltB rfl) (hdl hd 10 15 rfl (by decide +kernel)) hc6, OpStep.at ⟨ρ, B, _⟩ (setO ⟨ρ, B, _⟩ (some 22) (.one (.val (PTR gb_3 (0 + 0))))) (op_fieldAddr (off := 0) (ltB rfl) tf38_0 (.tmp (hb 2 _ rfl)))⟩)) ?_
      refine DSteps.cons (j := 19) rfl (fun _ => rfl) (.run (fun γ ρ B hb hd => ⟨.yes rfl (ltB rfl) (hdl hd 10 15 rfl (by decide +kernel)) hc6, OpStep.at ⟨ρ, B, _⟩ (setO ⟨ρ, B, _⟩ (some 23) (.one (.val (PTR gb_3 ((0 + 0) + 1))))) (op_fieldAddr (off := 1) (ltB rfl) tf24_1 (.tmp (hdl hd 17 22 rfl (by decide +kernel))))⟩)) ?_
      refine DSteps.cons (j := 20) rfl (fun _ => rfl) (.run (fun γ ρ B hb hd => ⟨.yes rfl (ltB rfl) (hdl hd 10 15 rfl (by decide +kernel)) hc6, OpStep.at ⟨ρ, (cvar gb_3 r_api_Event e_1) :: B, _⟩ (setO ⟨ρ, (cvar gb_3 r_api_Event e_1) :: B, _⟩ (some 24) (.one (.val (S (rU UInt64) e_1.ID.Count)))) (op_loadS (j := 0) (ltB rfl) tS22 (.tmp (hdl hd 18 23 rfl (by decide +kernel))) rfl (Comp.trans (Comp.trans (Comp.self r_api_Event e_1) (comp_api_Event_ID e_1) (by decide)) (comp_api_Dot_Count e_1.ID) (by decide)) rfl rfl)⟩)) ?_
      refine DSteps.cons (j := 21) rfl (fun _ => rfl) (.run (fun γ ρ B hb hd => ⟨.yes rfl (ltB rfl) (hdl hd 10 15 rfl (by decide +kernel)) hc6, OpStep.at ⟨ρ, B, _⟩ (setO ⟨ρ, B, _⟩ (some 25) (.one (.val (S (rU UInt64) v_11)))) (op_arU (ltB rfl) (.tmp (hdl hd 19 24 rfl (by decide +kernel))) (HasO.cU (x := (1 : UInt64)) rfl (by decide)) (congrArg some hv_v_11))⟩)) ?_
      refine DSteps.cons (j := 22) rfl (fun _ => rfl) (.run (fun γ ρ B hb hd => ⟨.yes rfl (ltB rfl) (hdl hd 10 15 rfl (by decide +kernel)) hc6, OpStep.at ⟨ρ, B, _⟩ (setO ⟨ρ, B, _⟩ (some 26) (.one (.val (S rB v_12)))) (op_cmpU (ltB rfl) (.tmp (hdl hd 16 21 rfl (by decide +kernel))) (.tmp (hdl hd 20 25 rfl (by decide +kernel))) (congrArg some hv_v_12))⟩)) ?_
      refine DSteps.cons (j := 23) rfl (fun _ => rfl) (.run (fun γ ρ B hb hd => ⟨.none, OpStep.at ⟨ρ, B, _⟩ (setO ⟨ρ, B, _⟩ (some 27) (.one (.val (S rB v_12)))) (op_pickT (ltB rfl) (.tmp (hdl hd 10 15 rfl (by decide +kernel))) hc6 (.tmp (hdl hd 21 26 rfl (by decide +kernel))))⟩)) ?_
      refine DSteps.cons (j := 24) rfl (fun _ => rfl) (.run (fun γ ρ B hb hd => ⟨.none, OpStep.at ⟨ρ, B, _⟩ (setO ⟨ρ, B, _⟩ (some 4) (.one (.val (S rB v_12)))) (op_assign (ltB rfl) (.tmp (hdl hd 22 27 rfl (by decide +kernel))))⟩)) ?_
      exact DSteps.nil)
            (by decide +kernel) (fun _ => rfl) rfl (fun _ => rfl) (fun _ => rfl) rfl (by decide) (by decide)
            (ρ' := fun γ => [(4, .one (.val (S rB v_12)))])
            (X' := fun γ => [cvar gb_3 r_api_Event e_1, cvar gb_4 (rV 16 (rU UInt64)) had_2])
            (fun γ ρ hb hd => (.cons (hdq hd 23 4 rfl) .nil)) (fun _ => rfl) (fun γ => ?_)
        refine JQ.at ⟨[(4, .one (.val (S rB v_12)))], [cvar gb_3 r_api_Event e_1, cvar gb_4 (rV 16 (rU UInt64)) had_2], []⟩ ?_
        replace hx1 := Option.some.inj hx1
        subst hx1
        exact JQ.join () (Imp.norm (js := []) rfl (.cons rfl .nil))
      · refine JC.anyE (base := [(2, .one (.val (PTR gb_3 0))), (3, .one (.val (PTR gb_4 0)))])
            (fs := fun γ => [⟨some 5, .one (.val (A r_api_Event e_1))⟩, ⟨some 6, .one (.val (S rB v_5))⟩, ⟨some 7, .one (.val (S rB v_5))⟩, ⟨some 8, bif v_5 then .one (.val (A (rV 16 (rU UInt64)) had_2)) else .one .und⟩, ⟨some 9, .one (.val (PTR gb_3 (0 + 4)))⟩, ⟨some 10, .one (.val (A (rV 16 (rU UInt64)) e_1.Past))⟩, ⟨some 11, .one (.val (A (rV 16 (rU UInt64)) v_6))⟩, ⟨some 12, .one (.val (A (rV 16 (rU UInt64)) had_2))⟩, ⟨some 13, .one (.val (S rB v_7))⟩, ⟨some 14, .one (.val (S rB v_7))⟩, ⟨some 15, .one (.val (S rB v_7))⟩, ⟨some 16, .one (.und)⟩, ⟨some 17, .one (.und)⟩, ⟨some 18, .one (.und)⟩, ⟨some 19, .one (.und)⟩, ⟨some 20, .one (.und)⟩, ⟨some 21, .one (.und)⟩, ⟨some 22, .one (.und)⟩, ⟨some 23, .one (.und)⟩, ⟨some 24, .one (.und)⟩, ⟨some 25, .one (.und)⟩, ⟨some 26, .one (.und)⟩, ⟨some 27, .one (.val (S rB false))⟩, ⟨some 4, .one (.val (S rB false))⟩])
            (rs := fun γ => [⟨cvar gb_3 r_api_Event e_1, none, none, [0, 5]⟩, ⟨cvar gb_4 (rV 16 (rU UInt64)) had_2, none, none, [3, 7]⟩])
            (ds := [5, 6, 7, 8, 9, 10, 11, 12, 13, 14, 15, 16, 17, 18, 19, 20, 21, 22, 23, 24, 25, 26, 27, 4]) (bs := [2, 3]) (afts := [[], [], [], [], [], [], [], [], [], [], [], [], [], [], [], [], [], [], [], [], [], [], [], []]) (js := [0, 0]) mixed (.cons rfl (.cons rfl .nil)) (fun _ => rfl)
            (by
      refine DSteps.cons (j := 1) rfl (fun _ => rfl) (.run (fun γ ρ B hb hd => ⟨.none, OpStep.at ⟨ρ, (cvar gb_3 r_api_Event e_1) :: B, _⟩ (setO ⟨ρ, (cvar gb_3 r_api_Event e_1) :: B, _⟩ (some 5) (.one (.val (A r_api_Event e_1)))) (op_loadA (j := 0) (ltB rfl) tA38 (.tmp (hb 2 _ rfl)) rfl (Comp.self r_api_Event e_1) rfl)⟩)) ?_
      refine DSteps.cons (j := 2) rfl (fun _ => rfl) (.run (fun γ ρ B hb hd => ⟨.none, OpStep.at ⟨ρ, B, _⟩ (setO ⟨ρ, B, _⟩ (some 6) (.one (.val (S rB v_5)))) ((op_call (js := []) (ltD rfl) cl17 (sim_event_May k e_1 v_5 hv_v_5) .func (.cons (.tmp (hdl hd 0 5 rfl (by decide +kernel))) .nil) rfl).post (fun _ => Imp.refl))⟩)) ?_
      refine DSteps.cons (j := 3) rfl (fun _ => rfl) (.run (fun γ ρ B hb hd => ⟨.none, OpStep.at ⟨ρ, B, _⟩ (setO ⟨ρ, B, _⟩ (some 7) (.one (.val (S rB v_5)))) (op_move (ltB rfl) (.tmp (hdl hd 1 6 rfl (by decide +kernel))))⟩)) ?_
      refine DSteps.cons (j := 4) rfl (fun _ => rfl) (.cnd (q := v_5) (sv := fun γ => .one (.val (A (rV 16 (rU UInt64)) had_2))) (fun _ => rfl) (fun _ => rfl) (fun d h => by cases h; exact ltB rfl) (fun _ => rfl) (fun γ ρ B hb hd => ⟨(Guard.isT (ltB rfl) rfl (hdl hd 2 7 rfl (by decide +kernel))), fun hq_2 => OpStep.at ⟨ρ, (cvar gb_4 (rV 16 (rU UInt64)) had_2) :: B, _⟩ (setO ⟨ρ, (cvar gb_4 (rV 16 (rU UInt64)) had_2) :: B, _⟩ (some 8) (.one (.val (A (rV 16 (rU UInt64)) had_2)))) (op_loadA (j := 0) (ltB rfl) tA26 (.tmp (hb 3 _ rfl)) rfl (Comp.self (rV 16 (rU UInt64)) had_2) rfl)⟩)) ?_
      refine DSteps.cons (j := 5) rfl (fun _ => rfl) (.run (fun γ ρ B hb hd => ⟨.yes rfl (ltB rfl) (hdl hd 2 7 rfl (by decide +kernel)) hc4, OpStep.at ⟨ρ, B, _⟩ (setO ⟨ρ, B, _⟩ (some 9) (.one (.val (PTR gb_3 (0 + 4))))) (op_fieldAddr (off := 4) (ltB rfl) tf38_3 (.tmp (hb 2 _ rfl)))⟩)) ?_
      refine DSteps.cons (j := 6) rfl (fun _ => rfl) (.run (fun γ ρ B hb hd => ⟨.yes rfl (ltB rfl) (hdl hd 2 7 rfl (by decide +kernel)) hc4, OpStep.at ⟨ρ, (cvar gb_3 r_api_Event e_1) :: B, _⟩ (setO ⟨ρ, (cvar gb_3 r_api_Event e_1) :: B, _⟩ (some 10) (.one (.val (A (rV 16 (rU UInt64)) e_1.Past)))) (op_loadA (j := 0) (ltB rfl) tA26 (.tmp (hdl hd 4 9 rfl (by decide +kernel))) rfl (Comp.trans (Comp.self r_api_Event e_1) (comp_api_Event_Past e_1) (by decide)) rfl)⟩)) ?_
      refine DSteps.cons (j := 7) rfl (fun _ => rfl) (.run (fun γ ρ B hb hd => ⟨.yes rfl (ltB rfl) (hdl hd 2 7 rfl (by decide +kernel)) hc4, OpStep.at ⟨ρ, B, _⟩ (setO ⟨ρ, B, _⟩ (some 11) (.one (.val (A (rV 16 (rU UInt64)) v_6)))) ((op_call (js := []) (ltD rfl) cl8 (sim_event_Join k had_2 e_1.Past v_6 hv_v_6) .func (.cons (HasO.cnd (.tmp (hdl hd 3 8 rfl (by decide +kernel))) hc4) (.cons (.tmp (hdl hd 5 10 rfl (by decide +kernel))) .nil)) rfl).post (fun _ => Imp.refl))⟩)) ?_
      refine DSteps.cons (j := 8) rfl (fun _ => rfl) (.run (fun γ ρ B hb hd => ⟨.yes rfl (ltB rfl) (hdl hd 2 7 rfl (by decide +kernel)) hc4, OpStep.at ⟨ρ, (cvar gb_4 (rV 16 (rU UInt64)) had_2) :: B, _⟩ (setO ⟨ρ, (cvar gb_4 (rV 16 (rU UInt64)) had_2) :: B, _⟩ (some 12) (.one (.val (A (rV 16 (rU UInt64)) had_2)))) (op_loadA (j := 0) (ltB rfl) tA26 (.tmp (hb 3 _ rfl)) rfl (Comp.self (rV 16 (rU UInt64)) had_2) rfl)⟩)) ?_
      refine DSteps.cons (j := 9) rfl (fun _ => rfl) (.run (fun γ ρ B hb hd => ⟨.yes rfl (ltB rfl) (hdl hd 2 7 rfl (by decide +kernel)) hc4, OpStep.at ⟨ρ, B, _⟩ (setO ⟨ρ, B, _⟩ (some 13) (.one (.val (S rB v_7)))) (op_eqA (ltB rfl) qa26 (by decide) ng26 (.tmp (hdl hd 6 11 rfl (by decide +kernel))) (.tmp (hdl hd 7 12 rfl (by decide +kernel))) hv_v_7)⟩)) ?_
      refine DSteps.cons (j := 10) rfl (fun _ => rfl) (.run (fun γ ρ B hb hd => ⟨.none, OpStep.at ⟨ρ, B, _⟩ (setO ⟨ρ, B, _⟩ (some 14) (.one (.val (S rB v_7)))) (op_pickT (ltB rfl) (.tmp (hdl hd 2 7 rfl (by decide +kernel))) hc4 (.tmp (hdl hd 8 13 rfl (by decide +kernel))))⟩)) ?_
      refine DSteps.cons (j := 11) rfl (fun _ => rfl) (.run (fun γ ρ B hb hd => ⟨.none, OpStep.at ⟨ρ, B, _⟩ (setO ⟨ρ, B, _⟩ (some 15) (.one (.val (S rB v_7)))) (op_move (ltB rfl) (.tmp (hdl hd 9 14 rfl (by decide +kernel))))⟩)) ?_
      refine DSteps.cons (j := 12) rfl (fun _ => rfl) (.skip (fun γ ρ B hb hd => ⟨.no rfl (ltB rfl) (hdl hd 10 15 rfl (by decide +kernel)) hc6, rfl, rfl, rfl, fun d h => by cases h; exact ltB rfl⟩)) ?_
      refine DSteps.cons (j := 13) rfl (fun _ => rfl) (.skip (fun γ ρ B hb hd => ⟨.no rfl (ltB rfl) (hdl hd 10 15 rfl (by decide +kernel)) hc6, rfl, rfl, rfl, fun d h => by cases h; exact ltB rfl⟩)) ?_
      refine DSteps.cons (j := 14) rfl (fun _ => rfl) (.skip (fun γ ρ B hb hd => ⟨.no rfl (ltB rfl) (hdl hd 10 15 rfl (by decide +kernel)) hc6, rfl, rfl, rfl, fun d h => by cases h; exact ltB rfl⟩)) ?_
      refine DSteps.cons (j := 15) rfl (fun _ => rfl) (.skip (fun γ ρ B hb hd => ⟨.no rfl (ltB rfl) (hdl hd 10 15 rfl (by decide +kernel)) hc6, rfl, rfl, rfl, fun d h => by cases h; exact ltB rfl⟩)) ?_
      refine DSteps.cons (j := 16) rfl (fun _ => rfl) (.skip (fun γ ρ B hb hd => ⟨.no rfl (ltB rfl) (hdl hd 10 15 rfl (by decide +kernel)) hc6, rfl, rfl, rfl, fun d h => by cases h; exact ltB rfl⟩)) ?_
      refine DSteps.cons (j := 17) rfl (fun _ => rfl) (.skip (fun γ ρ B hb hd => ⟨.no rfl (ltB rfl) (hdl hd 10 15 rfl (by decide +kernel)) hc6, rfl, rfl, rfl, fun d h => by cases h; exact ltB rfl⟩)) ?_
      refine DSteps.cons (j := 18) rfl (fun _ => rfl) (.skip (fun γ ρ B hb hd => ⟨.no rfl (ltB rfl) (hdl hd 10 15 rfl (by decide +kernel)) hc6, rfl, rfl, rfl, fun d h => by cases h; exact ltB rfl⟩)) ?_
      refine DSteps.cons (j := 19) rfl (fun _ => rfl) (.skip (fun γ ρ B hb hd => ⟨.no rfl (ltB rfl) (hdl hd 10 15 rfl (by decide +kernel)) hc6, rfl, rfl, rfl, fun d h => by cases h; exact ltB rfl⟩)) ?_
      refine DSteps.cons (j := 20) rfl (fun _ => rfl) (.skip (fun γ ρ B hb hd => ⟨.no rfl (ltB rfl) (hdl hd 10 15 rfl (by decide +kernel)) hc6, rfl, rfl, rfl, fun d h => by cases h; exact ltB rfl⟩)) ?_
      refine DSteps.cons (j := 21) rfl (fun _ => rfl) (.skip (fun γ ρ B hb hd => ⟨.no rfl (ltB rfl) (hdl hd 10 15 rfl (by decide +kernel)) hc6, rfl, rfl, rfl, fun d h => by cases h; exact ltB rfl⟩)) ?_
      refine DSteps.cons (j := 22) rfl (fun _ => rfl) (.skip (fun γ ρ B hb hd => ⟨.no rfl (ltB rfl) (hdl hd 10 15 rfl (by decide +kernel)) hc6, rfl, rfl, rfl, fun d h => by cases h; exact ltB rfl⟩)) ?_
      refine DSteps.cons (j := 23) rfl (fun _ => rfl) (.run (fun γ ρ B hb hd => ⟨.none, OpStep.at ⟨ρ, B, _⟩ (setO ⟨ρ, B, _⟩ (some 27) (.one (.val (S rB false)))) (op_pickF (ltB rfl) (.tmp (hdl hd 10 15 rfl (by decide +kernel))) hc6 .cB)⟩)) ?_
      refine DSteps.cons (j := 24) rfl (fun _ => rfl) (.run (fun γ ρ B hb hd => ⟨.none, OpStep.at ⟨ρ, B, _⟩ (setO ⟨ρ, B, _⟩ (some 4) (.one (.val (S rB false)))) (op_assign (ltB rfl) (.tmp (hdl hd 22 27 rfl (by decide +kernel))))⟩)) ?_
      exact DSteps.nil)
            (by decide +kernel) (fun _ => rfl) rfl (fun _ => rfl) (fun _ => rfl) rfl (by decide) (by decide)
            (ρ' := fun γ => [(4, .one (.val (S rB false)))])
            (X' := fun γ => [cvar gb_3 r_api_Event e_1, cvar gb_4 (rV 16 (rU UInt64)) had_2])
            (fun γ ρ hb hd => (.cons (hdq hd 23 4 rfl) .nil)) (fun _ => rfl) (fun γ => ?_)
        refine JQ.at ⟨[(4, .one (.val (S rB false)))], [cvar gb_3 r_api_Event e_1, cvar gb_4 (rV 16 (rU UInt64)) had_2], []⟩ ?_
        replace hx1 := Option.some.inj hx1
        subst hx1
        exact JQ.join () (Imp.norm (js := []) rfl (.cons rfl .nil))
    · refine JC.anyE (base := [(2, .one (.val (PTR gb_3 0))), (3, .one (.val (PTR gb_4 0)))])
          (fs := fun γ => [⟨some 5, .one (.val (A r_api_Event e_1))⟩, ⟨some 6, .one (.val (S rB v_5))⟩, ⟨some 7, .one (.val (S rB v_5))⟩, ⟨some 8, bif v_5 then .one (.val (A (rV 16 (rU UInt64)) had_2)) else .one .und⟩, ⟨some 9, .one (.und)⟩, ⟨some 10, .one (.und)⟩, ⟨some 11, .one (.und)⟩, ⟨some 12, .one (.und)⟩, ⟨some 13, .one (.und)⟩, ⟨some 14, .one (.val (S rB false))⟩, ⟨some 15, .one (.val (S rB false))⟩, ⟨some 16, .one (.und)⟩, ⟨some 17, .one (.und)⟩, ⟨some 18, .one (.und)⟩, ⟨some 19, .one (.und)⟩, ⟨some 20, .one (.und)⟩, ⟨some 21, .one (.und)⟩, ⟨some 22, .one (.und)⟩, ⟨some 23, .one (.und)⟩, ⟨some 24, .one (.und)⟩, ⟨some 25, .one (.und)⟩, ⟨some 26, .one (.und)⟩, ⟨some 27, .one (.val (S rB false))⟩, ⟨some 4, .one (.val (S rB false))⟩])
          (rs := fun γ => [⟨cvar gb_3 r_api_Event e_1, none, none, [0]⟩, ⟨cvar gb_4 (rV 16 (rU UInt64)) had_2, none, none, [3]⟩])
          (ds := [5, 6, 7, 8, 9, 10, 11, 12, 13, 14, 15, 16, 17, 18, 19, 20, 21, 22, 23, 24, 25, 26, 27, 4]) (bs := [2, 3]) (afts := [[], [], [], [], [], [], [], [], [], [], [], [], [], [], [], [], [], [], [], [], [], [], [], []]) (js := [0, 0]) mixed (.cons rfl (.cons rfl .nil)) (fun _ => rfl)
          (by
      refine DSteps.cons (j := 1) rfl (fun _ => rfl) (.run (fun γ ρ B hb hd => ⟨.none, OpStep.at ⟨ρ, (cvar gb_3 r_api_Event e_1) :: B, _⟩ (setO ⟨ρ, (cvar gb_3 r_api_Event e_1) :: B, _⟩ (some 5) (.one (.val (A r_api_Event e_1)))) (op_loadA (j := 0) (ltB rfl) tA38 (.tmp (hb 2 _ rfl)) rfl (Comp.self r_api_Event e_1) rfl)⟩)) ?_
      refine DSteps.cons (j := 2) rfl (fun _ => rfl) (.run (fun γ ρ B hb hd => ⟨.none, OpStep.at ⟨ρ, B, _⟩ (setO ⟨ρ, B, _⟩ (some 6) (.one (.val (S rB v_5)))) ((op_call (js := []) (ltD rfl) cl17 (sim_event_May k e_1 v_5 hv_v_5) .func (.cons (.tmp (hdl hd 0 5 rfl (by decide +kernel))) .nil) rfl).post (fun _ => Imp.refl))⟩)) ?_
      refine DSteps.cons (j := 3) rfl (fun _ => rfl) (.run (fun γ ρ B hb hd => ⟨.none, OpStep.at ⟨ρ, B, _⟩ (setO ⟨ρ, B, _⟩ (some 7) (.one (.val (S rB v_5)))) (op_move (ltB rfl) (.tmp (hdl hd 1 6 rfl (by decide +kernel))))⟩)) ?_
      refine DSteps.cons (j := 4) rfl (fun _ => rfl) (.cnd (q := v_5) (sv := fun γ => .one (.val (A (rV 16 (rU UInt64)) had_2))) (fun _ => rfl) (fun _ => rfl) (fun d h => by cases h; exact ltB rfl) (fun _ => rfl) (fun γ ρ B hb hd => ⟨(Guard.isT (ltB rfl) rfl (hdl hd 2 7 rfl (by decide +kernel))), fun hq_2 => OpStep.at ⟨ρ, (cvar gb_4 (rV 16 (rU UInt64)) had_2) :: B, _⟩ (setO ⟨ρ, (cvar gb_4 (rV 16 (rU UInt64)) had_2) :: B, _⟩ (some 8) (.one (.val (A (rV 16 (rU UInt64)) had_2)))) (op_loadA (j := 0) (ltB rfl) tA26 (.tmp (hb 3 _ rfl)) rfl (Comp.self (rV 16 (rU UInt64)) had_2) rfl)⟩)) ?_
      refine DSteps.cons (j := 5) rfl (fun _ => rfl) (.skip (fun γ ρ B hb hd => ⟨.no rfl (ltB rfl) (hdl hd 2 7 rfl (by decide +kernel)) hc4, rfl, rfl, rfl, fun d h => by cases h; exact ltB rfl⟩)) ?_
      refine DSteps.cons (j := 6) rfl (fun _ => rfl) (.skip (fun γ ρ B hb hd => ⟨.no rfl (ltB rfl) (hdl hd 2 7 rfl (by decide +kernel)) hc4, rfl, rfl, rfl, fun d h => by cases h; exact ltB rfl⟩)) ?_
      refine DSteps.cons (j := 7) rfl (fun _ => rfl) (.skip (fun γ ρ B hb hd => ⟨.no rfl (ltB rfl) (hdl hd 2 7 rfl (by decide +kernel)) hc4, rfl, rfl, rfl, fun d h => by cases h; exact ltB rfl⟩)) ?_
      refine DSteps.cons (j := 8) rfl (fun _ => rfl) (.skip (fun γ ρ B hb hd => ⟨.no rfl (ltB rfl) (hdl hd 2 7 rfl (by decide +kernel)) hc4, rfl, rfl, rfl, fun d h => by cases h; exact ltB rfl⟩)) ?_
      refine DSteps.cons (j := 9) rfl (fun _ => rfl) (.skip (fun γ ρ B hb hd => ⟨.no rfl (ltB rfl) (hdl hd 2 7 rfl (by decide +kernel)) hc4, rfl, rfl, rfl, fun d h => by cases h; exact ltB rfl⟩)) ?_
      refine DSteps.cons (j := 10) rfl (fun _ => rfl) (.run (fun γ ρ B hb hd => ⟨.none, OpStep.at ⟨ρ, B, _⟩ (setO ⟨ρ, B, _⟩ (some 14) (.one (.val (S rB false)))) (op_pickF (ltB rfl) (.tmp (hdl hd 2 7 rfl (by decide +kernel))) hc4 .cB)⟩)) ?_
      refine DSteps.cons (j := 11) rfl (fun _ => rfl) (.run (fun γ ρ B hb hd => ⟨.none, OpStep.at ⟨ρ, B, _⟩ (setO ⟨ρ, B, _⟩ (some 15) (.one (.val (S rB false)))) (op_move (ltB rfl) (.tmp (hdl hd 9 14 rfl (by decide +kernel))))⟩)) ?_
      refine DSteps.cons (j := 12) rfl (fun _ => rfl) (.skip (fun γ ρ B hb hd => ⟨.no rfl (ltB rfl) (hdl hd 10 15 rfl (by decide +kernel)) rfl, rfl, rfl, rfl, fun d h => by cases h; exact ltB rfl⟩)) ?_
      refine DSteps.cons (j := 13) rfl (fun _ => rfl) (.skip (fun γ ρ B hb hd => ⟨.no rfl (ltB rfl) (hdl hd 10 15 rfl (by decide +kernel)) rfl, rfl, rfl, rfl, fun d h => by cases h; exact ltB rfl⟩)) ?_
      refine DSteps.cons (j := 14) rfl (fun _ => rfl) (.skip (fun γ ρ B hb hd => ⟨.no rfl (ltB rfl) (hdl hd 10 15 rfl (by decide +kernel)) rfl, rfl, rfl, rfl, fun d h => by cases h; exact ltB rfl⟩)) ?_
      refine DSteps.cons (j := 15) rfl (fun _ => rfl) (.skip (fun γ ρ B hb hd => ⟨.no rfl (ltB rfl) (hdl hd 10 15 rfl (by decide +kernel)) rfl, rfl, rfl, rfl, fun d h => by cases h; exact ltB rfl⟩)) ?_
      refine DSteps.cons (j := 16) rfl (fun _ => rfl) (.skip (fun γ ρ B hb hd => ⟨.no rfl (ltB rfl) (hdl hd 10 15 rfl (by decide +kernel)) rfl, rfl, rfl, rfl, fun d h => by cases h; exact ltB rfl⟩)) ?_
      refine DSteps.cons (j := 17) rfl (fun _ => rfl) (.skip (fun γ ρ B hb hd => ⟨.no rfl (ltB rfl) (hdl hd 10 15 rfl (by decide +kernel)) rfl, rfl, rfl, rfl, fun d h => by cases h; exact ltB rfl⟩)) ?_
      refine DSteps.cons (j := 18) rfl (fun _ => rfl) (.skip (fun γ ρ B hb hd => ⟨.no rfl (ltB rfl) (hdl hd 10 15 rfl (by decide +kernel)) rfl, rfl, rfl, rfl, fun d h => by cases h; exact ltB rfl⟩)) ?_
      refine DSteps.cons (j := 19) rfl (fun _ => rfl) (.skip (fun γ ρ B hb hd => ⟨.no rfl (ltB rfl) (hdl hd 10 15 rfl (by decide +kernel)) rfl, rfl, rfl, rfl, fun d h => by cases h; exact ltB rfl⟩)) ?_
      refine DSteps.cons (j := 20) rfl (fun _ => rfl) (.skip (fun γ ρ B hb hd => ⟨.no rfl (ltB rfl) (hdl hd 10 15 rfl (by decide +kernel)) rfl, rfl, rfl, rfl, fun d h => by cases h; exact ltB rfl⟩)) ?_
      refine DSteps.cons (j := 21) rfl (fun _ => rfl) (.skip (fun γ ρ B hb hd => ⟨.no rfl (ltB rfl) (hdl hd 10 15 rfl (by decide +kernel)) rfl, rfl, rfl, rfl, fun d h => by cases h; exact ltB rfl⟩)) ?_
      refine DSteps.cons (j := 22) rfl (fun _ => rfl) (.skip (fun γ ρ B hb hd => ⟨.no rfl (ltB rfl) (hdl hd 10 15 rfl (by decide +kernel)) rfl, rfl, rfl, rfl, fun d h => by cases h; exact ltB rfl⟩)) ?_
      refine DSteps.cons (j := 23) rfl (fun _ => rfl) (.run (fun γ ρ B hb hd => ⟨.none, OpStep.at ⟨ρ, B, _⟩ (setO ⟨ρ, B, _⟩ (some 27) (.one (.val (S rB false)))) (op_pickF (ltB rfl) (.tmp (hdl hd 10 15 rfl (by decide +kernel))) rfl .cB)⟩)) ?_
      refine DSteps.cons (j := 24) rfl (fun _ => rfl) (.run (fun γ ρ B hb hd => ⟨.none, OpStep.at ⟨ρ, B, _⟩ (setO ⟨ρ, B, _⟩ (some 4) (.one (.val (S rB false)))) (op_assign (ltB rfl) (.tmp (hdl hd 22 27 rfl (by decide +kernel))))⟩)) ?_
      exact DSteps.nil)
          (by decide +kernel) (fun _ => rfl) rfl (fun _ => rfl) (fun _ => rfl) rfl (by decide) (by decide)
          (ρ' := fun γ => [(4, .one (.val (S rB false)))])
          (X' := fun γ => [cvar gb_3 r_api_Event e_1, cvar gb_4 (rV 16 (rU UInt64)) had_2])
          (fun γ ρ hb hd => (.cons (hdq hd 23 4 rfl) .nil)) (fun _ => rfl) (fun γ => ?_)
      refine JQ.at ⟨[(4, .one (.val (S rB false)))], [cvar gb_3 r_api_Event e_1, cvar gb_4 (rV 16 (rU UInt64)) had_2], []⟩ ?_
      replace hx1 := Option.some.inj hx1
      subst hx1
      exact JQ.join () (Imp.norm (js := []) rfl (.cons rfl .nil))

end Go.Proofs.Ythoggbomakolkaa
