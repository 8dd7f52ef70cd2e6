/- Walks. -/
import Derived.Test.YthoggbomakolkaaT
namespace Go.Proofs.Ythoggbomakolkaa
open Go Fw
set_option linter.unusedVariables false
set_option maxRecDepth 100000
set_option maxHeartbeats 4000000

theorem sim_event_MayDot (k : Nat) (d_1 : api_Dot) (r : Bool) (hm : event_MayDot k d_1 = some r) : Sim Try.prog 27 [A r_api_Dot d_1] [] (γ := Unit) (fun q => []) (fun q => .one (.val (S rB r))) := by
  unfold event_MayDot at hm
  refine Sim.of Try.func27 rfl rfl (Nat.le_of_ble_eq_true rfl) (fun e0 w0 => ?_)
  refine JC.at ⟨[(0, .one (.val (A r_api_Dot d_1)))], [], []⟩ ?_
  refine JC.seq ?_
  refine JC.region ?_
  refine JL.consX rfl (op_boxA (ltB rfl) (.tmp rfl)) (fun q => ?_)
  obtain ⟨gb_2, hqq⟩ : ∃ z, z = q := ⟨_, rfl⟩
  subst hqq
  refine JL.pre (Imp.sub (ρ' := [(1, .one (.val (PTR gb_2 0)))]) (.cons rfl .nil)) ?_
  refine JL.at ⟨[(1, .one (.val (PTR gb_2 0)))], [cvar gb_2 r_api_Dot d_1], []⟩ ?_
  refine JL.cons rfl (op_assign (ltB rfl) .cB) ?_
  refine JL.nil ?_
  refine JQ.then ?_
  obtain ⟨x_7, hx1, hq1⟩ := bnd_inv hm
  refine JC.seqJ (γ := Unit) (stj := fun q => ⟨[(2, .one (.val (S rB x_7)))], [], []⟩) (fun q => ?_) ?_
  · obtain _ := q
    refine JC.at ⟨[(2, .one (.val (S rB x_7)))], [], []⟩ ?_
    refine JC.ret ?_
    replace hq1 := Option.some.inj hq1
    subst hq1
    exact JQ.done (js := []) (ss := [.val (S rB x_7)]) () (.inl rfl) (.nil rfl) rfl (.cons (.tmp rfl) .nil) rfl rfl rfl
  · refine JC.region ?_
    refine JL.cons rfl (op_fieldAddr (off := 0) (ltB rfl) tf24_0 (.tmp rfl)) ?_
    refine JL.cons rfl (op_loadS (j := 0) (ltB rfl) tS3 (.tmp rfl) rfl (Comp.trans (Comp.self r_api_Dot d_1) (comp_api_Dot_Region d_1) (by decide)) rfl rfl) ?_
    replace hx1 := lt1_inv hx1
    obtain ⟨v_3, hv_v_3, hx1⟩ := hx1
    refine JL.cons rfl (op_cmpI (ltB rfl) (.tmp rfl) .cI (congrArg some hv_v_3)) ?_
    refine JL.cons rfl (op_move (ltB rfl) (.tmp rfl)) ?_
    rcases iteB_inv hx1 with ⟨hc3, hx1⟩ | ⟨hc3, hx1⟩
    · refine JL.run (.yes rfl (ltB rfl) rfl hc3) (op_fieldAddr (off := 0) (ltB rfl) tf24_0 (.tmp rfl)) ?_
      refine JL.pre (Imp.sub (ρ' := [(1, .one (.val (PTR gb_2 0))), (2, .one (.val (S rB false))), (6, .one (.val (S rB v_3))), (7, .one (.val (PTR gb_2 (0 + 0))))]) (.cons rfl (.cons rfl (.cons rfl (.cons rfl .nil))))) ?_
      refine JL.at ⟨[(1, .one (.val (PTR gb_2 0))), (2, .one (.val (S rB false))), (6, .one (.val (S rB v_3))), (7, .one (.val (PTR gb_2 (0 + 0))))], [cvar gb_2 r_api_Dot d_1], []⟩ ?_
      refine JL.run (.yes rfl (ltB rfl) rfl hc3) (op_loadS (j := 0) (ltB rfl) tS3 (.tmp rfl) rfl (Comp.trans (Comp.self r_api_Dot d_1) (comp_api_Dot_Region d_1) (by decide)) rfl rfl) ?_
      replace hx1 := lt1_inv hx1
      obtain ⟨v_4, hv_v_4, hx1⟩ := hx1
      refine JL.run (.yes rfl (ltB rfl) rfl hc3) (op_cmpI (ltB rfl) (.tmp rfl) .cI (congrArg some hv_v_4)) ?_
      refine JL.cons rfl (op_pickT (ltB rfl) (.tmp rfl) hc3 (.tmp rfl)) ?_
      refine JL.cons rfl (op_move (ltB rfl) (.tmp rfl)) ?_
      rcases iteB_inv hx1 with ⟨hc5, hx1⟩ | ⟨hc5, hx1⟩
      · refine JL.run (.yes rfl (ltB rfl) rfl hc5) (op_fieldAddr (off := 1) (ltB rfl) tf24_1 (.tmp rfl)) ?_
        refine JL.run (.yes rfl (ltB rfl) rfl hc5) (op_loadS (j := 0) (ltB rfl) tS22 (.tmp rfl) rfl (Comp.trans (Comp.self r_api_Dot d_1) (comp_api_Dot_Count d_1) (by decide)) rfl rfl) ?_
        refine JL.pre (Imp.sub (ρ' := [(1, .one (.val (PTR gb_2 0))), (2, .one (.val (S rB false))), (11, .one (.val (S rB v_4))), (13, .one (.val (S (rU UInt64) d_1.Count)))]) (.cons rfl (.cons rfl (.cons rfl (.cons rfl .nil))))) ?_
        refine JL.at ⟨[(1, .one (.val (PTR gb_2 0))), (2, .one (.val (S rB false))), (11, .one (.val (S rB v_4))), (13, .one (.val (S (rU UInt64) d_1.Count)))], [cvar gb_2 r_api_Dot d_1], []⟩ ?_
        replace hx1 := lt1_inv hx1
        obtain ⟨v_5, hv_v_5, hx1⟩ := hx1
        refine JL.run (.yes rfl (ltB rfl) rfl hc5) (op_cmpU (ltB rfl) (.tmp rfl) (HasO.cU (x := (1 : UInt64)) rfl (by decide)) (congrArg some hv_v_5)) ?_
        refine JL.cons rfl (op_pickT (ltB rfl) (.tmp rfl) hc5 (.tmp rfl)) ?_
        refine JL.cons rfl (op_move (ltB rfl) (.tmp rfl)) ?_
        rcases iteB_inv hx1 with ⟨hc7, hx1⟩ | ⟨hc7, hx1⟩
        · refine JL.run (.yes rfl (ltB rfl) rfl hc7) (op_fieldAddr (off := 1) (ltB rfl) tf24_1 (.tmp rfl)) ?_
          refine JL.run (.yes rfl (ltB rfl) rfl hc7) (op_loadS (j := 0) (ltB rfl) tS22 (.tmp rfl) rfl (Comp.trans (Comp.self r_api_Dot d_1) (comp_api_Dot_Count d_1) (by decide)) rfl rfl) ?_
          replace hx1 := lt1_inv hx1
          obtain ⟨v_6, hv_v_6, hx1⟩ := hx1
          refine JL.run (.yes rfl (ltB rfl) rfl hc7) (op_cmpU (ltB rfl) (.tmp rfl) (HasO.cU (x := (4611686018427387904 : UInt64)) rfl (by decide)) (congrArg some hv_v_6)) ?_
          refine JL.pre (Imp.norm (ρ' := [(2, .one (.val (S rB false))), (16, .one (.val (S rB v_5))), (19, .one (.val (S rB v_6)))]) (js := []) rfl (.cons rfl (.cons rfl (.cons rfl .nil)))) ?_
          refine JL.at ⟨[(2, .one (.val (S rB false))), (16, .one (.val (S rB v_5))), (19, .one (.val (S rB v_6)))], [], []⟩ ?_
          refine JL.cons rfl (op_pickT (ltB rfl) (.tmp rfl) hc7 (.tmp rfl)) ?_
          refine JL.cons rfl (op_assign (ltB rfl) (.tmp rfl)) ?_
          refine JL.nil ?_
          replace hx1 := Option.some.inj hx1
          subst hx1
          exact JQ.join () (Imp.norm (js := []) rfl (.cons rfl .nil))
        · refine JL.skip (.no rfl (ltB rfl) rfl hc7) (fun d h => by cases h; exact ltB rfl) ?_
          refine JL.skip (.no rfl (ltB rfl) rfl hc7) (fun d h => by cases h; exact ltB rfl) ?_
          refine JL.skip (.no rfl (ltB rfl) rfl hc7) (fun d h => by cases h; exact ltB rfl) ?_
          refine JL.cons rfl (op_pickF (ltB rfl) (.tmp rfl) hc7 .cB) ?_
          refine JL.cons rfl (op_assign (ltB rfl) (.tmp rfl)) ?_
          refine JL.nil ?_
          replace hx1 := Option.some.inj hx1
          subst hx1
          exact JQ.join () (Imp.norm (js := []) rfl (.cons rfl .nil))
      · refine JL.skip (.no rfl (ltB rfl) rfl hc5) (fun d h => by cases h; exact ltB rfl) ?_
        refine JL.skip (.no rfl (ltB rfl) rfl hc5) (fun d h => by cases h; exact ltB rfl) ?_
        refine JL.skip (.no rfl (ltB rfl) rfl hc5) (fun d h => by cases h; exact ltB rfl) ?_
        refine JL.cons rfl (op_pickF (ltB rfl) (.tmp rfl) hc5 .cB) ?_
        refine JL.cons rfl (op_move (ltB rfl) (.tmp rfl)) ?_
        refine JL.pre (Imp.sub (ρ' := [(1, .one (.val (PTR gb_2 0))), (2, .one (.val (S rB false))), (16, .one (.val (S rB false)))]) (.cons rfl (.cons rfl (.cons rfl .nil)))) ?_
        refine JL.at ⟨[(1, .one (.val (PTR gb_2 0))), (2, .one (.val (S rB false))), (16, .one (.val (S rB false)))], [cvar gb_2 r_api_Dot d_1], []⟩ ?_
        refine JL.skip (.no rfl (ltB rfl) rfl rfl) (fun d h => by cases h; exact ltB rfl) ?_
        refine JL.skip (.no rfl (ltB rfl) rfl rfl) (fun d h => by cases h; exact ltB rfl) ?_
        refine JL.skip (.no rfl (ltB rfl) rfl rfl) (fun d h => by cases h; exact ltB rfl) ?_
        refine JL.cons rfl (op_pickF (ltB rfl) (.tmp rfl) rfl .cB) ?_
        refine JL.cons rfl (op_assign (ltB rfl) (.tmp rfl)) ?_
        refine JL.nil ?_
        replace hx1 := Option.some.inj hx1
        subst hx1
        exact JQ.join () (Imp.norm (js := []) rfl (.cons rfl .nil))
    · refine JL.skip (.no rfl (ltB rfl) rfl hc3) (fun d h => by cases h; exact ltB rfl) ?_
      refine JL.skip (.no rfl (ltB rfl) rfl hc3) (fun d h => by cases h; exact ltB rfl) ?_
      refine JL.skip (.no rfl (ltB rfl) rfl hc3) (fun d h => by cases h; exact ltB rfl) ?_
      refine JL.cons rfl (op_pickF (ltB rfl) (.tmp rfl) hc3 .cB) ?_
      refine JL.pre (Imp.sub (ρ' := [(1, .one (.val (PTR gb_2 0))), (2, .one (.val (S rB false))), (10, .one (.val (S rB false)))]) (.cons rfl (.cons rfl (.cons rfl .nil)))) ?_
      refine JL.at ⟨[(1, .one (.val (PTR gb_2 0))), (2, .one (.val (S rB false))), (10, .one (.val (S rB false)))], [cvar gb_2 r_api_Dot d_1], []⟩ ?_
      refine JL.cons rfl (op_move (ltB rfl) (.tmp rfl)) ?_
      refine JL.skip (.no rfl (ltB rfl) rfl rfl) (fun d h => by cases h; exact ltB rfl) ?_
      refine JL.skip (.no rfl (ltB rfl) rfl rfl) (fun d h => by cases h; exact ltB rfl) ?_
      refine JL.skip (.no rfl (ltB rfl) rfl rfl) (fun d h => by cases h; exact ltB rfl) ?_
      refine JL.cons rfl (op_pickF (ltB rfl) (.tmp rfl) rfl .cB) ?_
      refine JL.cons rfl (op_move (ltB rfl) (.tmp rfl)) ?_
      refine JL.skip (.no rfl (ltB rfl) rfl rfl) (fun d h => by cases h; exact ltB rfl) ?_
      refine JL.skip (.no rfl (ltB rfl) rfl rfl) (fun d h => by cases h; exact ltB rfl) ?_
      refine JL.skip (.no rfl (ltB rfl) rfl rfl) (fun d h => by cases h; exact ltB rfl) ?_
      refine JL.cons rfl (op_pickF (ltB rfl) (.tmp rfl) rfl .cB) ?_
      refine JL.cons rfl (op_assign (ltB rfl) (.tmp rfl)) ?_
      refine JL.nil ?_
      replace hx1 := Option.some.inj hx1
      subst hx1
      exact JQ.join () (Imp.norm (js := []) rfl (.cons rfl .nil))

theorem sim_event_Under (k : Nat) (v_1 : (Vector UInt64 16)) (d_2 : api_Dot) (r : Bool) (hm : event_Under k v_1 d_2 = some r) : Sim Try.prog 9 [A (rV 16 (rU UInt64)) v_1, A r_api_Dot d_2] [] (γ := Unit) (fun q => []) (fun q => .one (.val (S rB r))) := by
  unfold event_Under at hm
  refine Sim.of Try.func9 rfl rfl (Nat.le_of_ble_eq_true rfl) (fun e0 w0 => ?_)
  refine JC.at ⟨[(0, .one (.val (A (rV 16 (rU UInt64)) v_1))), (1, .one (.val (A r_api_Dot d_2)))], [], []⟩ ?_
  refine JC.seq ?_
  refine JC.region ?_
  refine JL.consX rfl (op_boxA (ltB rfl) (.tmp rfl)) (fun q => ?_)
  obtain ⟨gb_3, hqq⟩ : ∃ z, z = q := ⟨_, rfl⟩
  subst hqq
  refine JL.pre (Imp.sub (ρ' := [(1, .one (.val (A r_api_Dot d_2))), (2, .one (.val (PTR gb_3 0)))]) (.cons rfl (.cons rfl .nil))) ?_
  refine JL.at ⟨[(1, .one (.val (A r_api_Dot d_2))), (2, .one (.val (PTR gb_3 0)))], [cvar gb_3 (rV 16 (rU UInt64)) v_1], []⟩ ?_
  refine JL.consX rfl (op_boxA (ltB rfl) (.tmp rfl)) (fun q => ?_)
  obtain ⟨gb_4, hqq⟩ : ∃ z, z = q := ⟨_, rfl⟩
  subst hqq
  refine JL.pre (Imp.sub (ρ' := [(2, .one (.val (PTR gb_3 0))), (3, .one (.val (PTR gb_4 0)))]) (.cons rfl (.cons rfl .nil))) ?_
  refine JL.at ⟨[(2, .one (.val (PTR gb_3 0))), (3, .one (.val (PTR gb_4 0)))], [cvar gb_3 (rV 16 (rU UInt64)) v_1, cvar gb_4 r_api_Dot d_2], []⟩ ?_
  refine JL.cons rfl (op_assign (ltB rfl) .cB) ?_
  refine JL.nil ?_
  refine JQ.then ?_
  obtain ⟨x_10, hx1, hq1⟩ := bnd_inv hm
  refine JC.seqJ (γ := Unit) (stj := fun q => ⟨[(4, .one (.val (S rB x_10)))], [], []⟩) (fun q => ?_) ?_
  · obtain _ := q
    refine JC.at ⟨[(4, .one (.val (S rB x_10)))], [], []⟩ ?_
    refine JC.ret ?_
    replace hq1 := Option.some.inj hq1
    subst hq1
    exact JQ.done (js := []) (ss := [.val (S rB x_10)]) () (.inl rfl) (.nil rfl) rfl (.cons (.tmp rfl) .nil) rfl rfl rfl
  · replace hx1 := bnd_inv hx1
    obtain ⟨v_5, hv_v_5, hx1⟩ := hx1
    rcases iteB_inv hx1 with ⟨hc3, hx1⟩ | ⟨hc3, hx1⟩
    · replace hx1 := lt1_inv hx1
      obtain ⟨v_6, hv_v_6, hx1⟩ := hx1
      replace hx1 := bnd_inv hx1
      obtain ⟨i_7, hv_i_7, hx1⟩ := hx1
      replace hx1 := lt1_inv hx1
      obtain ⟨v_8, hv_v_8, hx1⟩ := hx1
      replace hx1 := lt1_inv hx1
      obtain ⟨v_9, hv_v_9, hx1⟩ := hx1
      refine JC.anyE (base := [(2, .one (.val (PTR gb_3 0))), (3, .one (.val (PTR gb_4 0)))])
          (fs := fun γ => [⟨some 5, .one (.val (A r_api_Dot d_2))⟩, ⟨some 6, .one (.val (S rB v_5))⟩, ⟨some 7, .one (.val (S rB v_5))⟩, ⟨some 8, .one (.val (PTR gb_4 (0 + 0)))⟩, ⟨some 9, .one (.val (S (rI .i64) d_2.Region))⟩, ⟨some 10, .one (.val (S (rI .i64) v_6))⟩, ⟨some 11, .one (.val (PTR gb_3 (0 + i_7.1 * 1)))⟩, ⟨some 12, .one (.val (S (rU UInt64) v_8))⟩, ⟨some 13, .one (.val (PTR gb_4 (0 + 1)))⟩, ⟨some 14, .one (.val (S (rU UInt64) d_2.Count))⟩, ⟨some 15, .one (.val (S rB v_9))⟩, ⟨some 16, .one (.val (S rB v_9))⟩, ⟨some 4, .one (.val (S rB v_9))⟩])
          (rs := fun γ => [⟨cvar gb_3 (rV 16 (rU UInt64)) v_1, none, none, [7]⟩, ⟨cvar gb_4 r_api_Dot d_2, none, none, [0, 4, 9]⟩])
          (ds := [5, 6, 7, 8, 9, 10, 11, 12, 13, 14, 15, 16, 4]) (bs := [2, 3]) (afts := [[], [], [], [], [], [], [], [], [], [], [], [], []]) (js := [0, 0]) mixed (.cons rfl (.cons rfl .nil)) (fun _ => rfl)
          (by
      refine DSteps.cons (j := 1) rfl (fun _ => rfl) (.run (fun γ ρ B hb hd => ⟨.none, OpStep.at ⟨ρ, (cvar gb_4 r_api_Dot d_2) :: B, _⟩ (setO ⟨ρ, (cvar gb_4 r_api_Dot d_2) :: B, _⟩ (some 5) (.one (.val (A r_api_Dot d_2)))) (op_loadA (j := 0) (ltB rfl) tA24 (.tmp (hb 3 _ rfl)) rfl (Comp.self r_api_Dot d_2) rfl)⟩)) ?_
      refine DSteps.cons (j := 2) rfl (fun _ => rfl) (.run (fun γ ρ B hb hd => ⟨.none, OpStep.at ⟨ρ, B, _⟩ (setO ⟨ρ, B, _⟩ (some 6) (.one (.val (S rB v_5)))) ((op_call (js := []) (ltD rfl) cl27 (sim_event_MayDot k d_2 v_5 hv_v_5) .func (.cons (.tmp (hdl hd 0 5 rfl (by decide +kernel))) .nil) rfl).post (fun _ => Imp.refl))⟩)) ?_
      refine DSteps.cons (j := 3) rfl (fun _ => rfl) (.run (fun γ ρ B hb hd => ⟨.none, OpStep.at ⟨ρ, B, _⟩ (setO ⟨ρ, B, _⟩ (some 7) (.one (.val (S rB v_5)))) (op_move (ltB rfl) (.tmp (hdl hd 1 6 rfl (by decide +kernel))))⟩)) ?_
      refine DSteps.cons (j := 4) rfl (fun _ => rfl) (.run (fun γ ρ B hb hd => ⟨.yes rfl (ltB rfl) (hdl hd 2 7 rfl (by decide +kernel)) hc3, OpStep.at ⟨ρ, B, _⟩ (setO ⟨ρ, B, _⟩ (some 8) (.one (.val (PTR gb_4 (0 + 0))))) (op_fieldAddr (off := 0) (ltB rfl) tf24_0 (.tmp (hb 3 _ rfl)))⟩)) ?_
      refine DSteps.cons (j := 5) rfl (fun _ => rfl) (.run (fun γ ρ B hb hd => ⟨.yes rfl (ltB rfl) (hdl hd 2 7 rfl (by decide +kernel)) hc3, OpStep.at ⟨ρ, (cvar gb_4 r_api_Dot d_2) :: B, _⟩ (setO ⟨ρ, (cvar gb_4 r_api_Dot d_2) :: B, _⟩ (some 9) (.one (.val (S (rI .i64) d_2.Region)))) (op_loadS (j := 0) (ltB rfl) tS3 (.tmp (hdl hd 3 8 rfl (by decide +kernel))) rfl (Comp.trans (Comp.self r_api_Dot d_2) (comp_api_Dot_Region d_2) (by decide)) rfl rfl)⟩)) ?_
      refine DSteps.cons (j := 6) rfl (fun _ => rfl) (.run (fun γ ρ B hb hd => ⟨.yes rfl (ltB rfl) (hdl hd 2 7 rfl (by decide +kernel)) hc3, OpStep.at ⟨ρ, B, _⟩ (setO ⟨ρ, B, _⟩ (some 10) (.one (.val (S (rI .i64) v_6)))) (op_arI (ltB rfl) (.tmp (hdl hd 4 9 rfl (by decide +kernel))) .cI (congrArg some hv_v_6))⟩)) ?_
      refine DSteps.cons (j := 7) rfl (fun _ => rfl) (.run (fun γ ρ B hb hd => ⟨.yes rfl (ltB rfl) (hdl hd 2 7 rfl (by decide +kernel)) hc3, OpStep.at ⟨ρ, B, _⟩ (setO ⟨ρ, B, _⟩ (some 11) (.one (.val (PTR gb_3 (0 + i_7.1 * 1))))) (op_indexAddrIF (ltB rfl) tr26 (.tmp (hb 2 _ rfl)) (.tmp (hdl hd 5 10 rfl (by decide +kernel))) hv_i_7)⟩)) ?_
      refine DSteps.cons (j := 8) rfl (fun _ => rfl) (.run (fun γ ρ B hb hd => ⟨.yes rfl (ltB rfl) (hdl hd 2 7 rfl (by decide +kernel)) hc3, OpStep.at ⟨ρ, (cvar gb_3 (rV 16 (rU UInt64)) v_1) :: B, _⟩ (setO ⟨ρ, (cvar gb_3 (rV 16 (rU UInt64)) v_1) :: B, _⟩ (some 12) (.one (.val (S (rU UInt64) v_8)))) (op_loadS (j := 0) (ltB rfl) tS22 (.tmp (hdl hd 6 11 rfl (by decide +kernel))) rfl (Comp.at (Comp.self (rV 16 (rU UInt64)) v_1) i_7.2 rfl) rfl hv_v_8)⟩)) ?_
      refine DSteps.cons (j := 9) rfl (fun _ => rfl) (.run (fun γ ρ B hb hd => ⟨.yes rfl (ltB rfl) (hdl hd 2 7 rfl (by decide +kernel)) hc3, OpStep.at ⟨ρ, B, _⟩ (setO ⟨ρ, B, _⟩ (some 13) (.one (.val (PTR gb_4 (0 + 1))))) (op_fieldAddr (off := 1) (ltB rfl) tf24_1 (.tmp (hb 3 _ rfl)))⟩)) ?_
      refine DSteps.cons (j := 10) rfl (fun _ => rfl) (.run (fun γ ρ B hb hd => ⟨.yes rfl (ltB rfl) (hdl hd 2 7 rfl (by decide +kernel)) hc3, OpStep.at ⟨ρ, (cvar gb_4 r_api_Dot d_2) :: B, _⟩ (setO ⟨ρ, (cvar gb_4 r_api_Dot d_2) :: B, _⟩ (some 14) (.one (.val (S (rU UInt64) d_2.Count)))) (op_loadS (j := 0) (ltB rfl) tS22 (.tmp (hdl hd 8 13 rfl (by decide +kernel))) rfl (Comp.trans (Comp.self r_api_Dot d_2) (comp_api_Dot_Count d_2) (by decide)) rfl rfl)⟩)) ?_
      refine DSteps.cons (j := 11) rfl (fun _ => rfl) (.run (fun γ ρ B hb hd => ⟨.yes rfl (ltB rfl) (hdl hd 2 7 rfl (by decide +kernel)) hc3, OpStep.at ⟨ρ, B, _⟩ (setO ⟨ρ, B, _⟩ (some 15) (.one (.val (S rB v_9)))) (op_cmpU (ltB rfl) (.tmp (hdl hd 7 12 rfl (by decide +kernel))) (.tmp (hdl hd 9 14 rfl (by decide +kernel))) (congrArg some hv_v_9))⟩)) ?_
      refine DSteps.cons (j := 12) rfl (fun _ => rfl) (.run (fun γ ρ B hb hd => ⟨.none, OpStep.at ⟨ρ, B, _⟩ (setO ⟨ρ, B, _⟩ (some 16) (.one (.val (S rB v_9)))) (op_pickT (ltB rfl) (.tmp (hdl hd 2 7 rfl (by decide +kernel))) hc3 (.tmp (hdl hd 10 15 rfl (by decide +kernel))))⟩)) ?_
      refine DSteps.cons (j := 13) rfl (fun _ => rfl) (.run (fun γ ρ B hb hd => ⟨.none, OpStep.at ⟨ρ, B, _⟩ (setO ⟨ρ, B, _⟩ (some 4) (.one (.val (S rB v_9)))) (op_assign (ltB rfl) (.tmp (hdl hd 11 16 rfl (by decide +kernel))))⟩)) ?_
      exact DSteps.nil)
          (by decide +kernel) (fun _ => rfl) rfl (fun _ => rfl) (fun _ => rfl) rfl (by decide) (by decide)
          (ρ' := fun γ => [(4, .one (.val (S rB v_9)))])
          (X' := fun γ => [cvar gb_3 (rV 16 (rU UInt64)) v_1, cvar gb_4 r_api_Dot d_2])
          (fun γ ρ hb hd => (.cons (hdq hd 12 4 rfl) .nil)) (fun _ => rfl) (fun γ => ?_)
      refine JQ.at ⟨[(4, .one (.val (S rB v_9)))], [cvar gb_3 (rV 16 (rU UInt64)) v_1, cvar gb_4 r_api_Dot d_2], []⟩ ?_
      replace hx1 := Option.some.inj hx1
      subst hx1
      exact JQ.join () (Imp.norm (js := []) rfl (.cons rfl .nil))
    · refine JC.anyE (base := [(3, .one (.val (PTR gb_4 0)))])
          (fs := fun γ => [⟨some 5, .one (.val (A r_api_Dot d_2))⟩, ⟨some 6, .one (.val (S rB v_5))⟩, ⟨some 7, .one (.val (S rB v_5))⟩, ⟨some 8, .one (.und)⟩, ⟨some 9, .one (.und)⟩, ⟨some 10, .one (.und)⟩, ⟨some 11, .one (.und)⟩, ⟨some 12, .one (.und)⟩, ⟨some 13, .one (.und)⟩, ⟨some 14, .one (.und)⟩, ⟨some 15, .one (.und)⟩, ⟨some 16, .one (.val (S rB false))⟩, ⟨some 4, .one (.val (S rB false))⟩])
          (rs := fun γ => [⟨cvar gb_3 (rV 16 (rU UInt64)) v_1, none, none, []⟩, ⟨cvar gb_4 r_api_Dot d_2, none, none, [0]⟩])
          (ds := [5, 6, 7, 8, 9, 10, 11, 12, 13, 14, 15, 16, 4]) (bs := [3]) (afts := [[], [], [], [], [], [], [], [], [], [], [], [], []]) (js := [0, 0]) mixed (.cons rfl .nil) (fun _ => rfl)
          (by
      refine DSteps.cons (j := 1) rfl (fun _ => rfl) (.run (fun γ ρ B hb hd => ⟨.none, OpStep.at ⟨ρ, (cvar gb_4 r_api_Dot d_2) :: B, _⟩ (setO ⟨ρ, (cvar gb_4 r_api_Dot d_2) :: B, _⟩ (some 5) (.one (.val (A r_api_Dot d_2)))) (op_loadA (j := 0) (ltB rfl) tA24 (.tmp (hb 3 _ rfl)) rfl (Comp.self r_api_Dot d_2) rfl)⟩)) ?_
      refine DSteps.cons (j := 2) rfl (fun _ => rfl) (.run (fun γ ρ B hb hd => ⟨.none, OpStep.at ⟨ρ, B, _⟩ (setO ⟨ρ, B, _⟩ (some 6) (.one (.val (S rB v_5)))) ((op_call (js := []) (ltD rfl) cl27 (sim_event_MayDot k d_2 v_5 hv_v_5) .func (.cons (.tmp (hdl hd 0 5 rfl (by decide +kernel))) .nil) rfl).post (fun _ => Imp.refl))⟩)) ?_
      refine DSteps.cons (j := 3) rfl (fun _ => rfl) (.run (fun γ ρ B hb hd => ⟨.none, OpStep.at ⟨ρ, B, _⟩ (setO ⟨ρ, B, _⟩ (some 7) (.one (.val (S rB v_5)))) (op_move (ltB rfl) (.tmp (hdl hd 1 6 rfl (by decide +kernel))))⟩)) ?_
      refine DSteps.cons (j := 4) rfl (fun _ => rfl) (.skip (fun γ ρ B hb hd => ⟨.no rfl (ltB rfl) (hdl hd 2 7 rfl (by decide +kernel)) hc3, rfl, rfl, rfl, fun d h => by cases h; exact ltB rfl⟩)) ?_
      refine DSteps.cons (j := 5) rfl (fun _ => rfl) (.skip (fun γ ρ B hb hd => ⟨.no rfl (ltB rfl) (hdl hd 2 7 rfl (by decide +kernel)) hc3, rfl, rfl, rfl, fun d h => by cases h; exact ltB rfl⟩)) ?_
      refine DSteps.cons (j := 6) rfl (fun _ => rfl) (.skip (fun γ ρ B hb hd => ⟨.no rfl (ltB rfl) (hdl hd 2 7 rfl (by decide +kernel)) hc3, rfl, rfl, rfl, fun d h => by cases h; exact ltB rfl⟩)) ?_
      refine DSteps.cons (j := 7) rfl (fun _ => rfl) (.skip (fun γ ρ B hb hd => ⟨.no rfl (ltB rfl) (hdl hd 2 7 rfl (by decide +kernel)) hc3, rfl, rfl, rfl, fun d h => by cases h; exact ltB rfl⟩)) ?_
      refine DSteps.cons (j := 8) rfl (fun _ => rfl) (.skip (fun γ ρ B hb hd => ⟨.no rfl (ltB rfl) (hdl hd 2 7 rfl (by decide +kernel)) hc3, rfl, rfl, rfl, fun d h => by cases h; exact ltB rfl⟩)) ?_
      refine DSteps.cons (j := 9) rfl (fun _ => rfl) (.skip (fun γ ρ B hb hd => ⟨.no rfl (ltB rfl) (hdl hd 2 7 rfl (by decide +kernel)) hc3, rfl, rfl, rfl, fun d h => by cases h; exact ltB rfl⟩)) ?_
      refine DSteps.cons (j := 10) rfl (fun _ => rfl) (.skip (fun γ ρ B hb hd => ⟨.no rfl (ltB rfl) (hdl hd 2 7 rfl (by decide +kernel)) hc3, rfl, rfl, rfl, fun d h => by cases h; exact ltB rfl⟩)) ?_
      refine DSteps.cons (j := 11) rfl (fun _ => rfl) (.skip (fun γ ρ B hb hd => ⟨.no rfl (ltB rfl) (hdl hd 2 7 rfl (by decide +kernel)) hc3, rfl, rfl, rfl, fun d h => by cases h; exact ltB rfl⟩)) ?_
      refine DSteps.cons (j := 12) rfl (fun _ => rfl) (.run (fun γ ρ B hb hd => ⟨.none, OpStep.at ⟨ρ, B, _⟩ (setO ⟨ρ, B, _⟩ (some 16) (.one (.val (S rB false)))) (op_pickF (ltB rfl) (.tmp (hdl hd 2 7 rfl (by decide +kernel))) hc3 .cB)⟩)) ?_
      refine DSteps.cons (j := 13) rfl (fun _ => rfl) (.run (fun γ ρ B hb hd => ⟨.none, OpStep.at ⟨ρ, B, _⟩ (setO ⟨ρ, B, _⟩ (some 4) (.one (.val (S rB false)))) (op_assign (ltB rfl) (.tmp (hdl hd 11 16 rfl (by decide +kernel))))⟩)) ?_
      exact DSteps.nil)
          (by decide +kernel) (fun _ => rfl) rfl (fun _ => rfl) (fun _ => rfl) rfl (by decide) (by decide)
          (ρ' := fun γ => [(4, .one (.val (S rB false)))])
          (X' := fun γ => [cvar gb_3 (rV 16 (rU UInt64)) v_1, cvar gb_4 r_api_Dot d_2])
          (fun γ ρ hb hd => (.cons (hdq hd 12 4 rfl) .nil)) (fun _ => rfl) (fun γ => ?_)
      refine JQ.at ⟨[(4, .one (.val (S rB false)))], [cvar gb_3 (rV 16 (rU UInt64)) v_1, cvar gb_4 r_api_Dot d_2], []⟩ ?_
      replace hx1 := Option.some.inj hx1
      subst hx1
      exact JQ.join () (Imp.norm (js := []) rfl (.cons rfl .nil))

theorem sim_event_mayVector_1 (k : Nat) (n_1 : UInt64) (r : Bool) (hm : event_mayVector_1 k n_1 = some r) : Sim Try.prog 59 [S (rU UInt64) n_1] [] (γ := Unit) (fun q => []) (fun q => .one (.val (S rB r))) := by
  unfold event_mayVector_1 at hm
  refine Sim.of Try.func59 rfl rfl (Nat.le_of_ble_eq_true rfl) (fun e0 w0 => ?_)
  refine JC.at ⟨[(0, .one (.val (S (rU UInt64) n_1)))], [], []⟩ ?_
  refine JC.seq ?_
  refine JC.region ?_
  refine JL.cons rfl (op_assign (ltB rfl) .cB) ?_
  refine JL.nil ?_
  refine JQ.then ?_
  refine JC.seq ?_
  refine JC.region ?_
  refine JL.cons rfl (op_move (ltB rfl) (.tmp rfl)) ?_
  replace hm := lt1_inv hm
  obtain ⟨v_2, hv_v_2, hm⟩ := hm
  refine JL.cons rfl (op_cmpU (ltB rfl) (.tmp rfl) (HasO.cU (x := (4611686018427387904 : UInt64)) rfl (by decide)) (congrArg some hv_v_2)) ?_
  refine JL.cons rfl (op_assign (ltB rfl) (.tmp rfl)) ?_
  refine JL.nil ?_
  refine JQ.then ?_
  refine JC.ret ?_
  replace hm := Option.some.inj hm
  subst hm
  exact JQ.done (js := []) (ss := [.val (S rB v_2)]) () (.inl rfl) (.nil rfl) rfl (.cons (.tmp rfl) .nil) rfl rfl rfl

theorem sim_slices_IndexFuncuint64_uint64 (k : Nat) (s_1 : (List UInt64)) (r : Int) (hm : slices_IndexFuncuint64_uint64 k s_1 = some r) : Sim Try.prog 69 [S (rL (rU UInt64)) s_1, CLO 59 []] [] (γ := Unit) (fun q => []) (fun q => .one (.val (S (rI .i64) r))) := by
  unfold slices_IndexFuncuint64_uint64 at hm
  refine Sim.of Try.func69 rfl rfl (Nat.le_of_ble_eq_true rfl) (fun e0 w0 => ?_)
  refine JC.at ⟨[(0, .one (.val (S (rL (rU UInt64)) s_1))), (1, .one (.val (CLO 59 [])))], [], []⟩ ?_
  refine JC.seq ?_
  refine JC.region ?_
  refine JL.cons rfl (op_assign (ltB rfl) .cI) ?_
  refine JL.nil ?_
  refine JQ.then ?_
  obtain ⟨tv1, hx1, hq1⟩ := bnd_inv hm
  refine JC.seqK (α := Unit) (γ := Unit) (stj := fun v q => ⟨[], [], []⟩) (p := fun v => tv1 = (.inl v)) (fun v q hv => ?_) ?_
  · subst hv
    skip
    obtain _ := q
    dsimp only at hq1
    refine JC.at ⟨[], [], []⟩ ?_
    refine JC.seq ?_
    refine JC.region ?_
    refine JL.cons rfl (op_assign (ltB rfl) .cI) ?_
    refine JL.nil ?_
    refine JQ.then ?_
    refine JC.ret ?_
    replace hq1 := Option.some.inj hq1
    subst hq1
    exact JQ.done (js := []) (ss := [.val (S (rI .i64) (-1 : Int))]) () (.inl rfl) (.nil rfl) rfl (.cons (.tmp rfl) .nil) rfl rfl rfl
  · refine JC.seq ?_
    refine JC.region ?_
    refine JL.cons rfl (op_move (ltB rfl) (.tmp rfl)) ?_
    refine JL.cons rfl (op_lenL (ltB rfl) tu86 (.tmp rfl)) ?_
    refine JL.cons rfl (op_move (ltB rfl) .cI) ?_
    refine JL.nil ?_
    refine JQ.then ?_
    refine JC.block ?_
    obtain ⟨tv2, hL2, hq2⟩ := bnd_inv hx1
    refine JC.pre ?_ (JC.loop (γ := Unit) (stf := fun s q => ⟨[(0, .one (.val (S (rL (rU UInt64)) s_1))), (1, .one (.val (CLO 59 []))), (7, .one (.val (S (rI .i64) (List.length s_1 : Int)))), (8, .one (.val (S (rI .i64) s)))], [], []⟩) (q := ()) hL2 ?_)
    · exact (Imp.norm (js := []) rfl (.cons rfl (.cons rfl (.cons rfl (.cons rfl .nil)))))
    · intro x_2 q x hx hr
      obtain _ := q
      change slices_IndexFuncuint64_uint64.b1 k s_1 x_2 = some x at hx
      unfold slices_IndexFuncuint64_uint64.b1 at hx
      refine JC.at ⟨[(0, .one (.val (S (rL (rU UInt64)) s_1))), (1, .one (.val (CLO 59 []))), (7, .one (.val (S (rI .i64) (List.length s_1 : Int)))), (8, .one (.val (S (rI .i64) x_2)))], [], []⟩ ?_
      refine JC.seq ?_
      refine JC.region ?_
      replace hx := lt1_inv hx
      obtain ⟨v_3, hv_v_3, hx⟩ := hx
      refine JL.cons rfl (op_cmpI (ltB rfl) (.tmp rfl) (.tmp rfl) (congrArg some hv_v_3)) ?_
      refine JL.nil ?_
      refine JQ.then ?_
      refine JC.seq ?_
      rcases iteB_inv hx with ⟨hc3, hx⟩ | ⟨hc3, hx⟩
      · refine JC.condT (.tmp rfl) hc3 ?_
        refine JC.skip ?_
        refine JQ.then ?_
        refine JC.seq ?_
        refine JC.block ?_
        refine JC.seq ?_
        refine JC.region ?_
        refine JL.cons rfl (op_move (ltB rfl) (.tmp rfl)) ?_
        refine JL.cons rfl (op_assign (ltB rfl) (.tmp rfl)) ?_
        refine JL.nil ?_
        refine JQ.then ?_
        refine JC.seq ?_
        refine JC.region ?_
        refine JL.cons rfl (op_move (ltB rfl) (.tmp rfl)) ?_
        refine JL.cons rfl (op_move (ltB rfl) (.tmp rfl)) ?_
        refine JL.cons rfl (op_move (ltB rfl) (.tmp rfl)) ?_
        refine JL.pre (Imp.sub (ρ' := [(0, .one (.val (S (rL (rU UInt64)) s_1))), (1, .one (.val (CLO 59 []))), (5, .one (.val (S (rI .i64) x_2))), (7, .one (.val (S (rI .i64) (List.length s_1 : Int)))), (8, .one (.val (S (rI .i64) x_2))), (11, .one (.val (CLO 59 []))), (12, .one (.val (S (rL (rU UInt64)) s_1))), (13, .one (.val (S (rI .i64) x_2)))]) (.cons rfl (.cons rfl (.cons rfl (.cons rfl (.cons rfl (.cons rfl (.cons rfl (.cons rfl .nil))))))))) ?_
        refine JL.at ⟨[(0, .one (.val (S (rL (rU UInt64)) s_1))), (1, .one (.val (CLO 59 []))), (5, .one (.val (S (rI .i64) x_2))), (7, .one (.val (S (rI .i64) (List.length s_1 : Int)))), (8, .one (.val (S (rI .i64) x_2))), (11, .one (.val (CLO 59 []))), (12, .one (.val (S (rL (rU UInt64)) s_1))), (13, .one (.val (S (rI .i64) x_2)))], [], []⟩ ?_
        replace hx := bnd_inv hx
        obtain ⟨v_4, hv_v_4, hx⟩ := hx
        refine JL.cons rfl (op_indexAddrLg (ltB rfl) tu86 tz22 (.tmp rfl) (.tmp rfl) hv_v_4) ?_
        refine JL.cons rfl (op_loadPSg (ltB rfl) tS22 rfl (.tmp rfl) rfl) ?_
        replace hx := bnd_inv hx
        obtain ⟨v_5, hv_v_5, hx⟩ := hx
        refine JL.consX rfl (op_call (js := []) (ltD rfl) cl59 (sim_event_mayVector_1 k v_4 v_5 hv_v_5) (.tmp rfl) (.cons (.tmp rfl) .nil) rfl) (fun _ => ?_)
        refine JL.nil ?_
        refine JQ.then ?_
        rcases iteB_inv hx with ⟨hc4, hx⟩ | ⟨hc4, hx⟩
        · refine JC.condT (.tmp rfl) hc4 ?_
          refine JC.seq ?_
          refine JC.region ?_
          refine JL.cons rfl (op_move (ltB rfl) (.tmp rfl)) ?_
          refine JL.cons rfl (op_assign (ltB rfl) (.tmp rfl)) ?_
          refine JL.nil ?_
          refine JQ.then ?_
          refine JC.ret ?_
          refine JQ.outRB ?_
          refine JQ.outR ?_
          replace hx := Option.some.inj hx
          subst hx
          have ht := hr _ rfl
          clear hr
          subst ht
          dsimp only at hq2
          refine JQ.outR ?_
          refine JQ.outRB ?_
          replace hq2 := Option.some.inj hq2
          subst hq2
          dsimp only at hq1
          refine JQ.outR ?_
          replace hq1 := Option.some.inj hq1
          subst hq1
          exact JQ.done (js := []) (ss := [.val (S (rI .i64) x_2)]) () (.inl rfl) (.nil rfl) rfl (.cons (.tmp rfl) .nil) rfl rfl rfl
        · refine JC.condF (.tmp rfl) hc4 ?_
          refine JC.skip ?_
          refine JQ.outNB ?_
          refine JQ.then ?_
          refine JC.region ?_
          replace hx := lt1_inv hx
          obtain ⟨v_6, hv_v_6, hx⟩ := hx
          refine JL.cons rfl (op_arI (ltB rfl) (.tmp rfl) .cI (congrArg some hv_v_6)) ?_
          refine JL.cons rfl (op_move (ltB rfl) (.tmp rfl)) ?_
          refine JL.nil ?_
          replace hx := Option.some.inj hx
          subst hx
          exact JQ.next () rfl (Imp.norm (js := []) rfl (.cons rfl (.cons rfl (.cons rfl (.cons rfl .nil)))))
      · refine JC.condF (.tmp rfl) hc3 ?_
        refine JC.exit ?_
        refine JQ.outX ?_
        replace hx := Option.some.inj hx
        subst hx
        have ht := hr _ rfl
        clear hr
        subst ht
        dsimp only at hq2
        refine JQ.outX ?_
        refine JQ.here ?_
        replace hq2 := Option.some.inj hq2
        subst hq2
        exact JQ.joinK () () rfl (Imp.norm (js := []) rfl .nil)

theorem sim_slices_ContainsFuncuint64_uint64 (k : Nat) (s_1 : (List UInt64)) (r : Bool) (hm : slices_ContainsFuncuint64_uint64 k s_1 = some r) : Sim Try.prog 58 [S (rL (rU UInt64)) s_1, CLO 59 []] [] (γ := Unit) (fun q => []) (fun q => .one (.val (S rB r))) := by
  unfold slices_ContainsFuncuint64_uint64 at hm
  refine Sim.of Try.func58 rfl rfl (Nat.le_of_ble_eq_true rfl) (fun e0 w0 => ?_)
  refine JC.at ⟨[(0, .one (.val (S (rL (rU UInt64)) s_1))), (1, .one (.val (CLO 59 [])))], [], []⟩ ?_
  refine JC.seq ?_
  refine JC.region ?_
  refine JL.cons rfl (op_assign (ltB rfl) .cB) ?_
  refine JL.nil ?_
  refine JQ.then ?_
  refine JC.seq ?_
  refine JC.region ?_
  refine JL.cons rfl (op_move (ltB rfl) (.tmp rfl)) ?_
  refine JL.cons rfl (op_move (ltB rfl) (.tmp rfl)) ?_
  replace hm := bnd_inv hm
  obtain ⟨v_2, hv_v_2, hm⟩ := hm
  refine JL.consX rfl (op_call (js := []) (ltD rfl) cl69 (sim_slices_IndexFuncuint64_uint64 k s_1 v_2 hv_v_2) .func (.cons (.tmp rfl) (.cons (.tmp rfl) .nil)) rfl) (fun _ => ?_)
  replace hm := lt1_inv hm
  obtain ⟨v_3, hv_v_3, hm⟩ := hm
  refine JL.cons rfl (op_cmpI (ltB rfl) (.tmp rfl) .cI (congrArg some hv_v_3)) ?_
  refine JL.cons rfl (op_assign (ltB rfl) (.tmp rfl)) ?_
  refine JL.pre (Imp.sub (ρ' := [(4, .one (.val (S rB v_3)))]) (.cons rfl .nil)) ?_
  refine JL.at ⟨[(4, .one (.val (S rB v_3)))], [], []⟩ ?_
  refine JL.nil ?_
  refine JQ.then ?_
  refine JC.ret ?_
  replace hm := Option.some.inj hm
  subst hm
  exact JQ.done (js := []) (ss := [.val (S rB v_3)]) () (.inl rfl) (.nil rfl) rfl (.cons (.tmp rfl) .nil) rfl rfl rfl

theorem sim_event_mayVector (k : Nat) (v_1 : (Vector UInt64 16)) (r : Bool) (hm : event_mayVector k v_1 = some r) : Sim Try.prog 29 [A (rV 16 (rU UInt64)) v_1] [] (γ := Unit) (fun q => []) (fun q => .one (.val (S rB r))) := by
  unfold event_mayVector at hm
  refine Sim.of Try.func29 rfl rfl (Nat.le_of_ble_eq_true rfl) (fun e0 w0 => ?_)
  refine JC.at ⟨[(0, .one (.val (A (rV 16 (rU UInt64)) v_1)))], [], []⟩ ?_
  refine JC.seq ?_
  refine JC.region ?_
  refine JL.consX rfl (op_boxA (ltB rfl) (.tmp rfl)) (fun q => ?_)
  obtain ⟨gb_2, hqq⟩ : ∃ z, z = q := ⟨_, rfl⟩
  subst hqq
  refine JL.pre (Imp.sub (ρ' := [(1, .one (.val (PTR gb_2 0)))]) (.cons rfl .nil)) ?_
  refine JL.at ⟨[(1, .one (.val (PTR gb_2 0)))], [cvar gb_2 (rV 16 (rU UInt64)) v_1], []⟩ ?_
  refine JL.cons rfl (op_assign (ltB rfl) .cB) ?_
  refine JL.nil ?_
  refine JQ.then ?_
  refine JC.seq ?_
  refine JC.region ?_
  replace hm := bnd_inv hm
  obtain ⟨v_3, hv_v_3, hm⟩ := hm
  refine JL.pre (Imp.frzVar (j := 0) rfl (ImpK.slotP (s := 1) rfl (Comp.self (rV 16 (rU UInt64)) v_1) ImpK.refl)) ?_
  refine JL.cons rfl (op_sliceP (ltB rfl) tu26 tz22 (.tmp rfl) .none .none hv_v_3) ?_
  refine JL.pre (Imp.sub (ρ' := [(2, .one (.val (S rB false))), (3, .one (.val (S (rL (rU UInt64)) v_3)))]) (.cons rfl (.cons rfl .nil))) ?_
  refine JL.at ⟨[(2, .one (.val (S rB false))), (3, .one (.val (S (rL (rU UInt64)) v_3)))], [], []⟩ ?_
  replace hm := bnd_inv hm
  obtain ⟨v_4, hv_v_4, hm⟩ := hm
  refine JL.consX rfl (op_call (js := []) (ltD rfl) cl58 (sim_slices_ContainsFuncuint64_uint64 k v_3 v_4 hv_v_4) .func (.cons (.tmp rfl) (.cons .func .nil)) rfl) (fun _ => ?_)
  replace hm := lt1_inv hm
  obtain ⟨v_5, hv_v_5, hm⟩ := hm
  refine JL.cons rfl (op_not (ltB rfl) (.tmp rfl) hv_v_5) ?_
  refine JL.cons rfl (op_assign (ltB rfl) (.tmp rfl)) ?_
  refine JL.nil ?_
  refine JQ.then ?_
  refine JC.ret ?_
  replace hm := Option.some.inj hm
  subst hm
  exact JQ.done (js := []) (ss := [.val (S rB v_5)]) () (.inl rfl) (.nil rfl) rfl (.cons (.tmp rfl) .nil) rfl rfl rfl

theorem sim_event_MayName (k : Nat) (s_1 : (List UInt8)) (r : Bool) (hm : event_MayName k s_1 = some r) : Sim Try.prog 30 [S rS s_1] [] (γ := Unit) (fun q => []) (fun q => .one (.val (S rB r))) := by
  unfold event_MayName at hm
  refine Sim.of Try.func30 rfl rfl (Nat.le_of_ble_eq_true rfl) (fun e0 w0 => ?_)
  refine JC.at ⟨[(0, .one (.val (S rS s_1)))], [], []⟩ ?_
  refine JC.seq ?_
  refine JC.region ?_
  refine JL.cons rfl (op_assign (ltB rfl) .cB) ?_
  refine JL.nil ?_
  refine JQ.then ?_
  obtain ⟨x_5, hx1, hq1⟩ := bnd_inv hm
  refine JC.seqJ (γ := Unit) (stj := fun q => ⟨[(2, .one (.val (S rB x_5)))], [], []⟩) (fun q => ?_) ?_
  · obtain _ := q
    refine JC.at ⟨[(2, .one (.val (S rB x_5)))], [], []⟩ ?_
    refine JC.ret ?_
    replace hq1 := Option.some.inj hq1
    subst hq1
    exact JQ.done (js := []) (ss := [.val (S rB x_5)]) () (.inl rfl) (.nil rfl) rfl (.cons (.tmp rfl) .nil) rfl rfl rfl
  · refine JC.region ?_
    refine JL.cons rfl (op_move (ltB rfl) (.tmp rfl)) ?_
    refine JL.cons rfl (op_lenS (ltB rfl) tu9 (.tmp rfl)) ?_
    replace hx1 := lt1_inv hx1
    obtain ⟨v_2, hv_v_2, hx1⟩ := hx1
    refine JL.cons rfl (op_cmpI (ltB rfl) (.tmp rfl) .cI (congrArg some hv_v_2)) ?_
    refine JL.cons rfl (op_move (ltB rfl) (.tmp rfl)) ?_
    refine JL.cnd (sv := .one (.val (S rS s_1))) (Guard.isT (ltB rfl) rfl rfl) rfl (ltB rfl) (fun hq_2 => op_move (ltB rfl) (.tmp rfl)) ?_
    refine JL.pre (Imp.sub (ρ' := [(2, .one (.val (S rB false))), (6, .one (.val (S rB v_2))), (7, bif v_2 then .one (.val (S rS s_1)) else .one .und)]) (.cons rfl (.cons rfl (.cons rfl .nil)))) ?_
    refine JL.at ⟨[(2, .one (.val (S rB false))), (6, .one (.val (S rB v_2))), (7, bif v_2 then .one (.val (S rS s_1)) else .one .und)], [], []⟩ ?_
    refine JL.cnd (sv := .one (.val (S (rI .i64) (List.length s_1 : Int)))) (Guard.isT (ltB rfl) rfl rfl) rfl (ltB rfl) (fun hq_3 => op_lenS (ltB rfl) tu9 (HasO.cnd (.tmp rfl) hq_3)) ?_
    replace hx1 := lt1_inv hx1
    obtain ⟨v_3, hv_v_3, hx1⟩ := hx1
    refine JL.cnd (sv := .one (.val (S rB v_3))) (Guard.isT (ltB rfl) rfl rfl) rfl (ltB rfl) (fun hq_4 => op_cmpI (ltB rfl) (HasO.cnd (.tmp rfl) hq_4) .cI (congrArg some hv_v_3)) ?_
    replace hx1 := lt1_inv hx1
    obtain ⟨v_4, hv_v_4, hx1⟩ := hx1
    refine JL.cons rfl (op_pickCS (ltB rfl) (.tmp rfl) (fun hb5 => (HasO.cnd (.tmp rfl) hb5)) (fun hb5 => .cB) hv_v_4) ?_
    refine JL.cons rfl (op_assign (ltB rfl) (.tmp rfl)) ?_
    refine JL.nil ?_
    replace hx1 := Option.some.inj hx1
    subst hx1
    exact JQ.join () (Imp.norm (js := []) rfl (.cons rfl .nil))

end Go.Proofs.Ythoggbomakolkaa
