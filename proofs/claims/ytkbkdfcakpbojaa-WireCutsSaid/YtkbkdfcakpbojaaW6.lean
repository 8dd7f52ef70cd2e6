/- Walks. -/
import Derived.Test.YtkbkdfcakpbojaaT
import Derived.Test.YtkbkdfcakpbojaaW4
namespace Go.Proofs.Ytkbkdfcakpbojaa
open Go Fw
set_option linter.unusedVariables false
set_option maxRecDepth 100000
set_option maxHeartbeats 4000000

theorem sim_ref01_Reader_Bytes (k : Nat) (n_1 : Int) (r_2 : ref01_Reader) (gb_3 : Nat) (r : (List UInt8) × ref01_Reader) (hm : ref01_Reader_Bytes k n_1 r_2 = some r) : Sim Try.prog 46 [PTR gb_3 0, S (rI .i64) n_1] [cvar gb_3 r_ref01_Reader r_2] (γ := Unit) (fun q => [cvar gb_3 r_ref01_Reader r.2]) (fun q => .one (.val (S (rL (rU UInt8)) r.1))) := by
  unfold ref01_Reader_Bytes at hm
  refine Sim.of Try.func46 rfl rfl (Nat.le_of_ble_eq_true rfl) (fun e0 w0 => ?_)
  refine JC.at ⟨[(0, .one (.val (PTR gb_3 0))), (1, .one (.val (S (rI .i64) n_1)))], [cvar gb_3 r_ref01_Reader r_2], []⟩ ?_
  refine JC.seq ?_
  refine JC.region ?_
  refine JL.cons rfl (op_assign (ltB rfl) HasO.nilH) ?_
  refine JL.nil ?_
  refine JQ.then ?_
  refine JC.seq ?_
  obtain ⟨x_8, hx1, hq1⟩ := bnd_inv hm
  refine JC.seqJ (γ := Unit) (stj := fun q => ⟨[(0, .one (.val (PTR gb_3 0))), (1, .one (.val (S (rI .i64) n_1))), (26, .one (.val (S rB x_8)))], [cvar gb_3 r_ref01_Reader r_2], []⟩) (fun q => ?_) ?_
  · obtain _ := q
    refine JC.at ⟨[(0, .one (.val (PTR gb_3 0))), (1, .one (.val (S (rI .i64) n_1))), (26, .one (.val (S rB x_8)))], [cvar gb_3 r_ref01_Reader r_2], []⟩ ?_
    rcases iteB_inv hq1 with ⟨hc8, hq1⟩ | ⟨hc8, hq1⟩
    · refine JC.condT (.tmp rfl) hc8 ?_
      refine JC.seq ?_
      refine JC.region ?_
      refine JL.cons rfl (op_move (ltB rfl) (.tmp rfl)) ?_
      refine JL.cons rfl (op_nilCheck (ltB rfl) (.tmp rfl) (fun e v h => by subst h; rfl)) ?_
      refine JL.cons rfl (op_fieldAddr (off := 2) (ltB rfl) tf40_2 (.tmp rfl)) ?_
      replace hq1 := lt1_inv hq1
      obtain ⟨r_9, hv_r_9, hq1⟩ := hq1
      refine JL.cons rfl (op_storeS (j := 0) tS4 (.tmp rfl) .cB rfl rfl (Upd.trans (Comp.self r_ref01_Reader r_2) (Upd.self r_ref01_Reader r_2 _) (upd_ref01_Reader_Failed r_2 true)).R hv_r_9) ?_
      refine JL.pre (Imp.sub (ρ' := []) .nil) ?_
      refine JL.at ⟨[], [cvar gb_3 r_ref01_Reader r_9], []⟩ ?_
      refine JL.nil ?_
      refine JQ.then ?_
      refine JC.seq ?_
      refine JC.region ?_
      refine JL.cons rfl (op_assign (ltB rfl) HasO.nilH) ?_
      refine JL.nil ?_
      refine JQ.then ?_
      refine JC.ret ?_
      refine JQ.outR ?_
      replace hq1 := Option.some.inj hq1
      subst hq1
      refine JQ.pre (Imp.slot (s := 4) (q := S (rL (rU UInt8)) ([] : (List UInt8))) rfl wkNil) ?_
      exact JQ.done (js := [0]) (ss := [.val (S (rL (rU UInt8)) ([] : (List UInt8)))]) () (.inl rfl) (.nil rfl) rfl (.cons (.tmp rfl) .nil) rfl rfl rfl
    · refine JC.condF (.tmp rfl) hc8 ?_
      refine JC.skip ?_
      refine JQ.then ?_
      refine JC.seq ?_
      refine JC.region ?_
      refine JL.cons rfl (op_move (ltB rfl) (.tmp rfl)) ?_
      refine JL.cons rfl (op_move (ltB rfl) (.tmp rfl)) ?_
      refine JL.cons rfl (op_nilCheck (ltB rfl) (.tmp rfl) (fun e v h => by subst h; rfl)) ?_
      refine JL.cons rfl (op_fieldAddr (off := 1) (ltB rfl) tf40_1 (.tmp rfl)) ?_
      refine JL.cons rfl (op_loadS (j := 0) (ltB rfl) tS3 (.tmp rfl) rfl (Comp.trans (Comp.self r_ref01_Reader r_2) (comp_ref01_Reader_At r_2) (Nat.le_of_ble_eq_true rfl)) rfl rfl) ?_
      refine JL.cons rfl (op_move (ltB rfl) (.tmp rfl)) ?_
      refine JL.pre (Imp.sub (ρ' := [(0, .one (.val (PTR gb_3 0))), (1, .one (.val (S (rI .i64) n_1))), (30, .one (.val (PTR gb_3 0))), (34, .one (.val (S (rI .i64) r_2.At))), (35, .one (.val (S (rI .i64) n_1)))]) (.cons rfl (.cons rfl (.cons rfl (.cons rfl (.cons rfl .nil)))))) ?_
      refine JL.at ⟨[(0, .one (.val (PTR gb_3 0))), (1, .one (.val (S (rI .i64) n_1))), (30, .one (.val (PTR gb_3 0))), (34, .one (.val (S (rI .i64) r_2.At))), (35, .one (.val (S (rI .i64) n_1)))], [cvar gb_3 r_ref01_Reader r_2], []⟩ ?_
      replace hq1 := lt1_inv hq1
      obtain ⟨v_10, hv_v_10, hq1⟩ := hq1
      refine JL.cons rfl (op_arI (ltB rfl) (.tmp rfl) (.tmp rfl) (congrArg some hv_v_10)) ?_
      refine JL.cons rfl (op_nilCheck (ltB rfl) (.tmp rfl) (fun e v h => by subst h; rfl)) ?_
      refine JL.cons rfl (op_fieldAddr (off := 1) (ltB rfl) tf40_1 (.tmp rfl)) ?_
      replace hq1 := lt1_inv hq1
      obtain ⟨r_11, hv_r_11, hq1⟩ := hq1
      refine JL.cons rfl (op_storeS (j := 0) tS3 (.tmp rfl) (.tmp rfl) rfl rfl (Upd.trans (Comp.self r_ref01_Reader r_2) (Upd.self r_ref01_Reader r_2 _) (upd_ref01_Reader_At r_2 v_10)).R hv_r_11) ?_
      refine JL.pre (Imp.sub (ρ' := [(0, .one (.val (PTR gb_3 0))), (1, .one (.val (S (rI .i64) n_1)))]) (.cons rfl (.cons rfl .nil))) ?_
      refine JL.at ⟨[(0, .one (.val (PTR gb_3 0))), (1, .one (.val (S (rI .i64) n_1)))], [cvar gb_3 r_ref01_Reader r_11], []⟩ ?_
      refine JL.nil ?_
      refine JQ.then ?_
      refine JC.seq ?_
      replace hq1 := lt1_inv hq1
      obtain ⟨v_12, hv_v_12, hq1⟩ := hq1
      replace hq1 := bnd_inv hq1
      obtain ⟨v_13, hv_v_13, hq1⟩ := hq1
      refine JC.anyE (base := [(0, .one (.val (PTR gb_3 0))), (1, .one (.val (S (rI .i64) n_1)))])
          (fs := fun γ => [⟨some 39, .one (.val (PTR gb_3 0))⟩, ⟨some 40, .one (.val (PTR gb_3 0))⟩, ⟨some 41, .one (.val (PTR gb_3 (0 + 0)))⟩, ⟨some 42, .one (.val (S (rL (rU UInt8)) r_11.B))⟩, ⟨some 43, .one (.val (PTR gb_3 0))⟩, ⟨some 44, .one (.val (PTR gb_3 0))⟩, ⟨some 45, .one (.val (PTR gb_3 (0 + 1)))⟩, ⟨some 46, .one (.val (S (rI .i64) r_11.At))⟩, ⟨some 47, .one (.val (S (rI .i64) n_1))⟩, ⟨some 48, .one (.val (S (rI .i64) v_12))⟩, ⟨some 49, .one (.val (PTR gb_3 0))⟩, ⟨some 50, .one (.val (PTR gb_3 0))⟩, ⟨some 51, .one (.val (PTR gb_3 (0 + 1)))⟩, ⟨some 52, .one (.val (S (rI .i64) r_11.At))⟩, ⟨some 53, .one (.val (S (rL (rU UInt8)) v_13))⟩, ⟨some 4, .one (.val (S (rL (rU UInt8)) v_13))⟩])
          (rs := fun γ => [⟨cvar gb_3 r_ref01_Reader r_11, none, none, [3, 7, 13]⟩])
          (ds := [39, 40, 41, 42, 43, 44, 45, 46, 47, 48, 49, 50, 51, 52, 53, 4]) (bs := [0, 1]) (afts := [[], [], [], [], [], [], [], [], [], [], [], [], [], [], [], []]) (js := [0]) mixed (.cons rfl (.cons rfl .nil)) (fun _ => rfl)
          (by
      refine DSteps.cons (j := 1) rfl (fun _ => rfl) (.run (fun γ ρ B hb hd => ⟨.none, OpStep.at ⟨ρ, B, _⟩ (setO ⟨ρ, B, _⟩ (some 39) (.one (.val (PTR gb_3 0)))) (op_move (ltB rfl) (.tmp (hb 0 _ rfl)))⟩)) ?_
      refine DSteps.cons (j := 2) rfl (fun _ => rfl) (.run (fun γ ρ B hb hd => ⟨.none, OpStep.at ⟨ρ, B, _⟩ (setO ⟨ρ, B, _⟩ (some 40) (.one (.val (PTR gb_3 0)))) (op_nilCheck (ltB rfl) (.tmp (hdl hd 0 39 rfl (by decide +kernel))) (fun e v h => by subst h; rfl))⟩)) ?_
      refine DSteps.cons (j := 3) rfl (fun _ => rfl) (.run (fun γ ρ B hb hd => ⟨.none, OpStep.at ⟨ρ, B, _⟩ (setO ⟨ρ, B, _⟩ (some 41) (.one (.val (PTR gb_3 (0 + 0))))) (op_fieldAddr (off := 0) (ltB rfl) tf40_0 (.tmp (hdl hd 1 40 rfl (by decide +kernel))))⟩)) ?_
      refine DSteps.cons (j := 4) rfl (fun _ => rfl) (.run (fun γ ρ B hb hd => ⟨.none, OpStep.at ⟨ρ, (cvar gb_3 r_ref01_Reader r_11) :: B, _⟩ (setO ⟨ρ, (cvar gb_3 r_ref01_Reader r_11) :: B, _⟩ (some 42) (.one (.val (S (rL (rU UInt8)) r_11.B)))) (op_loadS (j := 0) (ltB rfl) tS23 (.tmp (hdl hd 2 41 rfl (by decide +kernel))) rfl (Comp.trans (Comp.self r_ref01_Reader r_11) (comp_ref01_Reader_B r_11) (Nat.le_of_ble_eq_true rfl)) rfl rfl)⟩)) ?_
      refine DSteps.cons (j := 5) rfl (fun _ => rfl) (.run (fun γ ρ B hb hd => ⟨.none, OpStep.at ⟨ρ, B, _⟩ (setO ⟨ρ, B, _⟩ (some 43) (.one (.val (PTR gb_3 0)))) (op_move (ltB rfl) (.tmp (hb 0 _ rfl)))⟩)) ?_
      refine DSteps.cons (j := 6) rfl (fun _ => rfl) (.run (fun γ ρ B hb hd => ⟨.none, OpStep.at ⟨ρ, B, _⟩ (setO ⟨ρ, B, _⟩ (some 44) (.one (.val (PTR gb_3 0)))) (op_nilCheck (ltB rfl) (.tmp (hdl hd 4 43 rfl (by decide +kernel))) (fun e v h => by subst h; rfl))⟩)) ?_
      refine DSteps.cons (j := 7) rfl (fun _ => rfl) (.run (fun γ ρ B hb hd => ⟨.none, OpStep.at ⟨ρ, B, _⟩ (setO ⟨ρ, B, _⟩ (some 45) (.one (.val (PTR gb_3 (0 + 1))))) (op_fieldAddr (off := 1) (ltB rfl) tf40_1 (.tmp (hdl hd 5 44 rfl (by decide +kernel))))⟩)) ?_
      refine DSteps.cons (j := 8) rfl (fun _ => rfl) (.run (fun γ ρ B hb hd => ⟨.none, OpStep.at ⟨ρ, (cvar gb_3 r_ref01_Reader r_11) :: B, _⟩ (setO ⟨ρ, (cvar gb_3 r_ref01_Reader r_11) :: B, _⟩ (some 46) (.one (.val (S (rI .i64) r_11.At)))) (op_loadS (j := 0) (ltB rfl) tS3 (.tmp (hdl hd 6 45 rfl (by decide +kernel))) rfl (Comp.trans (Comp.self r_ref01_Reader r_11) (comp_ref01_Reader_At r_11) (Nat.le_of_ble_eq_true rfl)) rfl rfl)⟩)) ?_
      refine DSteps.cons (j := 9) rfl (fun _ => rfl) (.run (fun γ ρ B hb hd => ⟨.none, OpStep.at ⟨ρ, B, _⟩ (setO ⟨ρ, B, _⟩ (some 47) (.one (.val (S (rI .i64) n_1)))) (op_move (ltB rfl) (.tmp (hb 1 _ rfl)))⟩)) ?_
      refine DSteps.cons (j := 10) rfl (fun _ => rfl) (.run (fun γ ρ B hb hd => ⟨.none, OpStep.at ⟨ρ, B, _⟩ (setO ⟨ρ, B, _⟩ (some 48) (.one (.val (S (rI .i64) v_12)))) (op_arI (ltB rfl) (.tmp (hdl hd 7 46 rfl (by decide +kernel))) (.tmp (hdl hd 8 47 rfl (by decide +kernel))) (congrArg some hv_v_12))⟩)) ?_
      refine DSteps.cons (j := 11) rfl (fun _ => rfl) (.run (fun γ ρ B hb hd => ⟨.none, OpStep.at ⟨ρ, B, _⟩ (setO ⟨ρ, B, _⟩ (some 49) (.one (.val (PTR gb_3 0)))) (op_move (ltB rfl) (.tmp (hb 0 _ rfl)))⟩)) ?_
      refine DSteps.cons (j := 12) rfl (fun _ => rfl) (.run (fun γ ρ B hb hd => ⟨.none, OpStep.at ⟨ρ, B, _⟩ (setO ⟨ρ, B, _⟩ (some 50) (.one (.val (PTR gb_3 0)))) (op_nilCheck (ltB rfl) (.tmp (hdl hd 10 49 rfl (by decide +kernel))) (fun e v h => by subst h; rfl))⟩)) ?_
      refine DSteps.cons (j := 13) rfl (fun _ => rfl) (.run (fun γ ρ B hb hd => ⟨.none, OpStep.at ⟨ρ, B, _⟩ (setO ⟨ρ, B, _⟩ (some 51) (.one (.val (PTR gb_3 (0 + 1))))) (op_fieldAddr (off := 1) (ltB rfl) tf40_1 (.tmp (hdl hd 11 50 rfl (by decide +kernel))))⟩)) ?_
      refine DSteps.cons (j := 14) rfl (fun _ => rfl) (.run (fun γ ρ B hb hd => ⟨.none, OpStep.at ⟨ρ, (cvar gb_3 r_ref01_Reader r_11) :: B, _⟩ (setO ⟨ρ, (cvar gb_3 r_ref01_Reader r_11) :: B, _⟩ (some 52) (.one (.val (S (rI .i64) r_11.At)))) (op_loadS (j := 0) (ltB rfl) tS3 (.tmp (hdl hd 12 51 rfl (by decide +kernel))) rfl (Comp.trans (Comp.self r_ref01_Reader r_11) (comp_ref01_Reader_At r_11) (Nat.le_of_ble_eq_true rfl)) rfl rfl)⟩)) ?_
      refine DSteps.cons (j := 15) rfl (fun _ => rfl) (.run (fun γ ρ B hb hd => ⟨.none, OpStep.at ⟨ρ, B, _⟩ (setO ⟨ρ, B, _⟩ (some 53) (.one (.val (S (rL (rU UInt8)) v_13)))) (op_sliceLg (ltB rfl) tu23 tz5 (.tmp (hdl hd 3 42 rfl (by decide +kernel))) (.some (.tmp (hdl hd 9 48 rfl (by decide +kernel)))) (.some (.tmp (hdl hd 13 52 rfl (by decide +kernel)))) hv_v_13)⟩)) ?_
      refine DSteps.cons (j := 16) rfl (fun _ => rfl) (.run (fun γ ρ B hb hd => ⟨.none, OpStep.at ⟨ρ, B, _⟩ (setO ⟨ρ, B, _⟩ (some 4) (.one (.val (S (rL (rU UInt8)) v_13)))) (op_assign (ltB rfl) (.tmp (hdl hd 14 53 rfl (by decide +kernel))))⟩)) ?_
      exact DSteps.nil)
          (by decide +kernel) (fun _ => rfl) rfl (fun _ => rfl) (fun _ => rfl) rfl (by decide) (by decide)
          (ρ' := fun γ => [(4, .one (.val (S (rL (rU UInt8)) v_13)))])
          (X' := fun γ => [cvar gb_3 r_ref01_Reader r_11])
          (fun γ ρ hb hd => (.cons (hdq hd 15 4 rfl) .nil)) (fun _ => rfl) (fun γ => ?_)
      refine JQ.at ⟨[(4, .one (.val (S (rL (rU UInt8)) v_13)))], [cvar gb_3 r_ref01_Reader r_11], []⟩ ?_
      refine JQ.then ?_
      refine JC.ret ?_
      replace hq1 := Option.some.inj hq1
      subst hq1
      exact JQ.done (js := [0]) (ss := [.val (S (rL (rU UInt8)) v_13)]) () (.inl rfl) (.nil rfl) rfl (.cons (.tmp rfl) .nil) rfl rfl rfl
  · replace hx1 := lt1_inv hx1
    obtain ⟨v_4, hv_v_4, hx1⟩ := hx1
    replace hx1 := lt1_inv hx1
    obtain ⟨v_5, hv_v_5, hx1⟩ := hx1
    rcases iteB_inv hx1 with ⟨hc7, hx1⟩ | ⟨hc7, hx1⟩
    · refine JC.anyE (base := [(0, .one (.val (PTR gb_3 0))), (1, .one (.val (S (rI .i64) n_1)))])
          (fs := fun γ => [⟨some 5, .one (.val (PTR gb_3 0))⟩, ⟨some 6, .one (.val (PTR gb_3 0))⟩, ⟨some 7, .one (.val (PTR gb_3 (0 + 2)))⟩, ⟨some 8, .one (.val (S rB r_2.Failed))⟩, ⟨some 9, .one (.val (S rB r_2.Failed))⟩, ⟨some 10, bif (!r_2.Failed) then .one (.val (S (rI .i64) n_1)) else .one .und⟩, ⟨some 11, bif (!r_2.Failed) then .one (.val (S rB v_4)) else .one .und⟩, ⟨some 12, .one (.val (S rB v_5))⟩, ⟨some 13, .one (.val (S rB v_5))⟩, ⟨some 14, bif (!v_5) then .one (.val (S (rI .i64) n_1)) else .one .und⟩, ⟨some 15, .one (.und)⟩, ⟨some 16, .one (.und)⟩, ⟨some 17, .one (.und)⟩, ⟨some 18, .one (.und)⟩, ⟨some 19, .one (.und)⟩, ⟨some 20, .one (.und)⟩, ⟨some 21, .one (.und)⟩, ⟨some 22, .one (.und)⟩, ⟨some 23, .one (.und)⟩, ⟨some 24, .one (.und)⟩, ⟨some 25, .one (.und)⟩, ⟨some 26, .one (.val (S rB true))⟩])
          (rs := fun γ => [⟨cvar gb_3 r_ref01_Reader r_2, none, none, [3]⟩])
          (ds := [5, 6, 7, 8, 9, 10, 11, 12, 13, 14, 15, 16, 17, 18, 19, 20, 21, 22, 23, 24, 25, 26]) (bs := [0, 1]) (afts := [[], [], [], [], [], [], [], [], [], [], [], [], [], [], [], [], [], [], [], [], [], []]) (js := [0]) mixed (.cons rfl (.cons rfl .nil)) (fun _ => rfl)
          (by
      refine DSteps.cons (j := 1) rfl (fun _ => rfl) (.run (fun γ ρ B hb hd => ⟨.none, OpStep.at ⟨ρ, B, _⟩ (setO ⟨ρ, B, _⟩ (some 5) (.one (.val (PTR gb_3 0)))) (op_move (ltB rfl) (.tmp (hb 0 _ rfl)))⟩)) ?_
      refine DSteps.cons (j := 2) rfl (fun _ => rfl) (.run (fun γ ρ B hb hd => ⟨.none, OpStep.at ⟨ρ, B, _⟩ (setO ⟨ρ, B, _⟩ (some 6) (.one (.val (PTR gb_3 0)))) (op_nilCheck (ltB rfl) (.tmp (hdl hd 0 5 rfl (by decide +kernel))) (fun e v h => by subst h; rfl))⟩)) ?_
      refine DSteps.cons (j := 3) rfl (fun _ => rfl) (.run (fun γ ρ B hb hd => ⟨.none, OpStep.at ⟨ρ, B, _⟩ (setO ⟨ρ, B, _⟩ (some 7) (.one (.val (PTR gb_3 (0 + 2))))) (op_fieldAddr (off := 2) (ltB rfl) tf40_2 (.tmp (hdl hd 1 6 rfl (by decide +kernel))))⟩)) ?_
      refine DSteps.cons (j := 4) rfl (fun _ => rfl) (.run (fun γ ρ B hb hd => ⟨.none, OpStep.at ⟨ρ, (cvar gb_3 r_ref01_Reader r_2) :: B, _⟩ (setO ⟨ρ, (cvar gb_3 r_ref01_Reader r_2) :: B, _⟩ (some 8) (.one (.val (S rB r_2.Failed)))) (op_loadS (j := 0) (ltB rfl) tS4 (.tmp (hdl hd 2 7 rfl (by decide +kernel))) rfl (Comp.trans (Comp.self r_ref01_Reader r_2) (comp_ref01_Reader_Failed r_2) (Nat.le_of_ble_eq_true rfl)) rfl rfl)⟩)) ?_
      refine DSteps.cons (j := 5) rfl (fun _ => rfl) (.run (fun γ ρ B hb hd => ⟨.none, OpStep.at ⟨ρ, B, _⟩ (setO ⟨ρ, B, _⟩ (some 9) (.one (.val (S rB r_2.Failed)))) (op_move (ltB rfl) (.tmp (hdl hd 3 8 rfl (by decide +kernel))))⟩)) ?_
      refine DSteps.cons (j := 6) rfl (fun _ => rfl) (.cnd (q := (!r_2.Failed)) (sv := fun γ => .one (.val (S (rI .i64) n_1))) (fun _ => rfl) (fun _ => rfl) (fun d h => by cases h; exact ltB rfl) (fun _ => rfl) (fun γ ρ B hb hd => ⟨(Guard.isF (ltB rfl) rfl (hdl hd 4 9 rfl (by decide +kernel))), fun hq_2 => OpStep.at ⟨ρ, B, _⟩ (setO ⟨ρ, B, _⟩ (some 10) (.one (.val (S (rI .i64) n_1)))) (op_move (ltB rfl) (.tmp (hb 1 _ rfl)))⟩)) ?_
      refine DSteps.cons (j := 7) rfl (fun _ => rfl) (.cnd (q := (!r_2.Failed)) (sv := fun γ => .one (.val (S rB v_4))) (fun _ => rfl) (fun _ => rfl) (fun d h => by cases h; exact ltB rfl) (fun _ => rfl) (fun γ ρ B hb hd => ⟨(Guard.isF (ltB rfl) rfl (hdl hd 4 9 rfl (by decide +kernel))), fun hq_3 => OpStep.at ⟨ρ, B, _⟩ (setO ⟨ρ, B, _⟩ (some 11) (.one (.val (S rB v_4)))) (op_cmpI (ltB rfl) (HasO.cnd (.tmp (hdl hd 5 10 rfl (by decide +kernel))) (notT (notF hq_3))) .cI (congrArg some hv_v_4))⟩)) ?_
      refine DSteps.cons (j := 8) rfl (fun _ => rfl) (.run (fun γ ρ B hb hd => ⟨.none, OpStep.at ⟨ρ, B, _⟩ (setO ⟨ρ, B, _⟩ (some 12) (.one (.val (S rB v_5)))) (op_pickCS (ltB rfl) (.tmp (hdl hd 4 9 rfl (by decide +kernel))) (fun hb4 => .cB) (fun hb4 => (HasO.cnd (.tmp (hdl hd 6 11 rfl (by decide +kernel))) (notT hb4))) hv_v_5)⟩)) ?_
      refine DSteps.cons (j := 9) rfl (fun _ => rfl) (.run (fun γ ρ B hb hd => ⟨.none, OpStep.at ⟨ρ, B, _⟩ (setO ⟨ρ, B, _⟩ (some 13) (.one (.val (S rB v_5)))) (op_move (ltB rfl) (.tmp (hdl hd 7 12 rfl (by decide +kernel))))⟩)) ?_
      refine DSteps.cons (j := 10) rfl (fun _ => rfl) (.cnd (q := (!v_5)) (sv := fun γ => .one (.val (S (rI .i64) n_1))) (fun _ => rfl) (fun _ => rfl) (fun d h => by cases h; exact ltB rfl) (fun _ => rfl) (fun γ ρ B hb hd => ⟨(Guard.isF (ltB rfl) rfl (hdl hd 8 13 rfl (by decide +kernel))), fun hq_5 => OpStep.at ⟨ρ, B, _⟩ (setO ⟨ρ, B, _⟩ (some 14) (.one (.val (S (rI .i64) n_1)))) (op_move (ltB rfl) (.tmp (hb 1 _ rfl)))⟩)) ?_
      refine DSteps.cons (j := 11) rfl (fun _ => rfl) (.skip (fun γ ρ B hb hd => ⟨.no rfl (ltB rfl) (hdl hd 8 13 rfl (by decide +kernel)) hc7, rfl, rfl, rfl, fun d h => by cases h; exact ltB rfl⟩)) ?_
      refine DSteps.cons (j := 12) rfl (fun _ => rfl) (.skip (fun γ ρ B hb hd => ⟨.no rfl (ltB rfl) (hdl hd 8 13 rfl (by decide +kernel)) hc7, rfl, rfl, rfl, fun d h => by cases h; exact ltB rfl⟩)) ?_
      refine DSteps.cons (j := 13) rfl (fun _ => rfl) (.skip (fun γ ρ B hb hd => ⟨.no rfl (ltB rfl) (hdl hd 8 13 rfl (by decide +kernel)) hc7, rfl, rfl, rfl, fun d h => by cases h; exact ltB rfl⟩)) ?_
      refine DSteps.cons (j := 14) rfl (fun _ => rfl) (.skip (fun γ ρ B hb hd => ⟨.no rfl (ltB rfl) (hdl hd 8 13 rfl (by decide +kernel)) hc7, rfl, rfl, rfl, fun d h => by cases h; exact ltB rfl⟩)) ?_
      refine DSteps.cons (j := 15) rfl (fun _ => rfl) (.skip (fun γ ρ B hb hd => ⟨.no rfl (ltB rfl) (hdl hd 8 13 rfl (by decide +kernel)) hc7, rfl, rfl, rfl, fun d h => by cases h; exact ltB rfl⟩)) ?_
      refine DSteps.cons (j := 16) rfl (fun _ => rfl) (.skip (fun γ ρ B hb hd => ⟨.no rfl (ltB rfl) (hdl hd 8 13 rfl (by decide +kernel)) hc7, rfl, rfl, rfl, fun d h => by cases h; exact ltB rfl⟩)) ?_
      refine DSteps.cons (j := 17) rfl (fun _ => rfl) (.skip (fun γ ρ B hb hd => ⟨.no rfl (ltB rfl) (hdl hd 8 13 rfl (by decide +kernel)) hc7, rfl, rfl, rfl, fun d h => by cases h; exact ltB rfl⟩)) ?_
      refine DSteps.cons (j := 18) rfl (fun _ => rfl) (.skip (fun γ ρ B hb hd => ⟨.no rfl (ltB rfl) (hdl hd 8 13 rfl (by decide +kernel)) hc7, rfl, rfl, rfl, fun d h => by cases h; exact ltB rfl⟩)) ?_
      refine DSteps.cons (j := 19) rfl (fun _ => rfl) (.skip (fun γ ρ B hb hd => ⟨.no rfl (ltB rfl) (hdl hd 8 13 rfl (by decide +kernel)) hc7, rfl, rfl, rfl, fun d h => by cases h; exact ltB rfl⟩)) ?_
      refine DSteps.cons (j := 20) rfl (fun _ => rfl) (.skip (fun γ ρ B hb hd => ⟨.no rfl (ltB rfl) (hdl hd 8 13 rfl (by decide +kernel)) hc7, rfl, rfl, rfl, fun d h => by cases h; exact ltB rfl⟩)) ?_
      refine DSteps.cons (j := 21) rfl (fun _ => rfl) (.skip (fun γ ρ B hb hd => ⟨.no rfl (ltB rfl) (hdl hd 8 13 rfl (by decide +kernel)) hc7, rfl, rfl, rfl, fun d h => by cases h; exact ltB rfl⟩)) ?_
      refine DSteps.cons (j := 22) rfl (fun _ => rfl) (.run (fun γ ρ B hb hd => ⟨.none, OpStep.at ⟨ρ, B, _⟩ (setO ⟨ρ, B, _⟩ (some 26) (.one (.val (S rB true)))) (op_pickT (ltB rfl) (.tmp (hdl hd 8 13 rfl (by decide +kernel))) hc7 .cB)⟩)) ?_
      exact DSteps.nil)
          (by decide +kernel) (fun _ => rfl) rfl (fun _ => rfl) (fun _ => rfl) rfl (by decide) (by decide)
          (ρ' := fun γ => [(0, .one (.val (PTR gb_3 0))), (1, .one (.val (S (rI .i64) n_1))), (26, .one (.val (S rB true)))])
          (X' := fun γ => [cvar gb_3 r_ref01_Reader r_2])
          (fun γ ρ hb hd => (.cons (hb 0 _ rfl) (.cons (hb 1 _ rfl) (.cons (hdq hd 21 26 rfl) .nil)))) (fun _ => rfl) (fun γ => ?_)
      refine JQ.at ⟨[(0, .one (.val (PTR gb_3 0))), (1, .one (.val (S (rI .i64) n_1))), (26, .one (.val (S rB true)))], [cvar gb_3 r_ref01_Reader r_2], []⟩ ?_
      replace hx1 := Option.some.inj hx1
      subst hx1
      exact JQ.join () (Imp.norm (js := [0]) rfl (.cons rfl (.cons rfl (.cons rfl .nil))))
    · replace hx1 := lt1_inv hx1
      obtain ⟨v_6, hv_v_6, hx1⟩ := hx1
      replace hx1 := lt1_inv hx1
      obtain ⟨v_7, hv_v_7, hx1⟩ := hx1
      refine JC.anyE (base := [(0, .one (.val (PTR gb_3 0))), (1, .one (.val (S (rI .i64) n_1)))])
          (fs := fun γ => [⟨some 5, .one (.val (PTR gb_3 0))⟩, ⟨some 6, .one (.val (PTR gb_3 0))⟩, ⟨some 7, .one (.val (PTR gb_3 (0 + 2)))⟩, ⟨some 8, .one (.val (S rB r_2.Failed))⟩, ⟨some 9, .one (.val (S rB r_2.Failed))⟩, ⟨some 10, bif (!r_2.Failed) then .one (.val (S (rI .i64) n_1)) else .one .und⟩, ⟨some 11, bif (!r_2.Failed) then .one (.val (S rB v_4)) else .one .und⟩, ⟨some 12, .one (.val (S rB v_5))⟩, ⟨some 13, .one (.val (S rB v_5))⟩, ⟨some 14, bif (!v_5) then .one (.val (S (rI .i64) n_1)) else .one .und⟩, ⟨some 15, .one (.val (PTR gb_3 0))⟩, ⟨some 16, .one (.val (PTR gb_3 0))⟩, ⟨some 17, .one (.val (PTR gb_3 (0 + 0)))⟩, ⟨some 18, .one (.val (S (rL (rU UInt8)) r_2.B))⟩, ⟨some 19, .one (.val (S (rI .i64) (List.length r_2.B : Int)))⟩, ⟨some 20, .one (.val (PTR gb_3 0))⟩, ⟨some 21, .one (.val (PTR gb_3 0))⟩, ⟨some 22, .one (.val (PTR gb_3 (0 + 1)))⟩, ⟨some 23, .one (.val (S (rI .i64) r_2.At))⟩, ⟨some 24, .one (.val (S (rI .i64) v_6))⟩, ⟨some 25, .one (.val (S rB v_7))⟩, ⟨some 26, .one (.val (S rB v_7))⟩])
          (rs := fun γ => [⟨cvar gb_3 r_ref01_Reader r_2, none, none, [3, 13, 18]⟩])
          (ds := [5, 6, 7, 8, 9, 10, 11, 12, 13, 14, 15, 16, 17, 18, 19, 20, 21, 22, 23, 24, 25, 26]) (bs := [0, 1]) (afts := [[], [], [], [], [], [], [], [], [], [], [], [], [], [], [], [], [], [], [], [], [], []]) (js := [0]) mixed (.cons rfl (.cons rfl .nil)) (fun _ => rfl)
          (by
      refine DSteps.cons (j := 1) rfl (fun _ => rfl) (.run (fun γ ρ B hb hd => ⟨.none, OpStep.at ⟨ρ, B, _⟩ (setO ⟨ρ, B, _⟩ (some 5) (.one (.val (PTR gb_3 0)))) (op_move (ltB rfl) (.tmp (hb 0 _ rfl)))⟩)) ?_
      refine DSteps.cons (j := 2) rfl (fun _ => rfl) (.run (fun γ ρ B hb hd => ⟨.none, OpStep.at ⟨ρ, B, _⟩ (setO ⟨ρ, B, _⟩ (some 6) (.one (.val (PTR gb_3 0)))) (op_nilCheck (ltB rfl) (.tmp (hdl hd 0 5 rfl (by decide +kernel))) (fun e v h => by subst h; rfl))⟩)) ?_
      refine DSteps.cons (j := 3) rfl (fun _ => rfl) (.run (fun γ ρ B hb hd => ⟨.none, OpStep.at ⟨ρ, B, _⟩ (setO ⟨ρ, B, _⟩ (some 7) (.one (.val (PTR gb_3 (0 + 2))))) (op_fieldAddr (off := 2) (ltB rfl) tf40_2 (.tmp (hdl hd 1 6 rfl (by decide +kernel))))⟩)) ?_
      refine DSteps.cons (j := 4) rfl (fun _ => rfl) (.run (fun γ ρ B hb hd => ⟨.none, OpStep.at ⟨ρ, (cvar gb_3 r_ref01_Reader r_2) :: B, _⟩ (setO ⟨ρ, (cvar gb_3 r_ref01_Reader r_2) :: B, _⟩ (some 8) (.one (.val (S rB r_2.Failed)))) (op_loadS (j := 0) (ltB rfl) tS4 (.tmp (hdl hd 2 7 rfl (by decide +kernel))) rfl (Comp.trans (Comp.self r_ref01_Reader r_2) (comp_ref01_Reader_Failed r_2) (Nat.le_of_ble_eq_true rfl)) rfl rfl)⟩)) ?_
      refine DSteps.cons (j := 5) rfl (fun _ => rfl) (.run (fun γ ρ B hb hd => ⟨.none, OpStep.at ⟨ρ, B, _⟩ (setO ⟨ρ, B, _⟩ (some 9) (.one (.val (S rB r_2.Failed)))) (op_move (ltB rfl) (.tmp (hdl hd 3 8 rfl (by decide +kernel))))⟩)) ?_
      refine DSteps.cons (j := 6) rfl (fun _ => rfl) (.cnd (q := (!r_2.Failed)) (sv := fun γ => .one (.val (S (rI .i64) n_1))) (fun _ => rfl) (fun _ => rfl) (fun d h => by cases h; exact ltB rfl) (fun _ => rfl) (fun γ ρ B hb hd => ⟨(Guard.isF (ltB rfl) rfl (hdl hd 4 9 rfl (by decide +kernel))), fun hq_2 => OpStep.at ⟨ρ, B, _⟩ (setO ⟨ρ, B, _⟩ (some 10) (.one (.val (S (rI .i64) n_1)))) (op_move (ltB rfl) (.tmp (hb 1 _ rfl)))⟩)) ?_
      refine DSteps.cons (j := 7) rfl (fun _ => rfl) (.cnd (q := (!r_2.Failed)) (sv := fun γ => .one (.val (S rB v_4))) (fun _ => rfl) (fun _ => rfl) (fun d h => by cases h; exact ltB rfl) (fun _ => rfl) (fun γ ρ B hb hd => ⟨(Guard.isF (ltB rfl) rfl (hdl hd 4 9 rfl (by decide +kernel))), fun hq_3 => OpStep.at ⟨ρ, B, _⟩ (setO ⟨ρ, B, _⟩ (some 11) (.one (.val (S rB v_4)))) (op_cmpI (ltB rfl) (HasO.cnd (.tmp (hdl hd 5 10 rfl (by decide +kernel))) (notT (notF hq_3))) .cI (congrArg some hv_v_4))⟩)) ?_
      refine DSteps.cons (j := 8) rfl (fun _ => rfl) (.run (fun γ ρ B hb hd => ⟨.none, OpStep.at ⟨ρ, B, _⟩ (setO ⟨ρ, B, _⟩ (some 12) (.one (.val (S rB v_5)))) (op_pickCS (ltB rfl) (.tmp (hdl hd 4 9 rfl (by decide +kernel))) (fun hb4 => .cB) (fun hb4 => (HasO.cnd (.tmp (hdl hd 6 11 rfl (by decide +kernel))) (notT hb4))) hv_v_5)⟩)) ?_
      refine DSteps.cons (j := 9) rfl (fun _ => rfl) (.run (fun γ ρ B hb hd => ⟨.none, OpStep.at ⟨ρ, B, _⟩ (setO ⟨ρ, B, _⟩ (some 13) (.one (.val (S rB v_5)))) (op_move (ltB rfl) (.tmp (hdl hd 7 12 rfl (by decide +kernel))))⟩)) ?_
      refine DSteps.cons (j := 10) rfl (fun _ => rfl) (.cnd (q := (!v_5)) (sv := fun γ => .one (.val (S (rI .i64) n_1))) (fun _ => rfl) (fun _ => rfl) (fun d h => by cases h; exact ltB rfl) (fun _ => rfl) (fun γ ρ B hb hd => ⟨(Guard.isF (ltB rfl) rfl (hdl hd 8 13 rfl (by decide +kernel))), fun hq_5 => OpStep.at ⟨ρ, B, _⟩ (setO ⟨ρ, B, _⟩ (some 14) (.one (.val (S (rI .i64) n_1)))) (op_move (ltB rfl) (.tmp (hb 1 _ rfl)))⟩)) ?_
      refine DSteps.cons (j := 11) rfl (fun _ => rfl) (.run (fun γ ρ B hb hd => ⟨.yes rfl (ltB rfl) (hdl hd 8 13 rfl (by decide +kernel)) hc7, OpStep.at ⟨ρ, B, _⟩ (setO ⟨ρ, B, _⟩ (some 15) (.one (.val (PTR gb_3 0)))) (op_move (ltB rfl) (.tmp (hb 0 _ rfl)))⟩)) ?_
      refine DSteps.cons (j := 12) rfl (fun _ => rfl) (.run (fun γ ρ B hb hd => ⟨.yes rfl (ltB rfl) (hdl hd 8 13 rfl (by decide +kernel)) hc7, OpStep.at ⟨ρ, B, _⟩ (setO ⟨ρ, B, _⟩ (some 16) (.one (.val (PTR gb_3 0)))) (op_nilCheck (ltB rfl) (.tmp (hdl hd 10 15 rfl (by decide +kernel))) (fun e v h => by subst h; rfl))⟩)) ?_
      refine DSteps.cons (j := 13) rfl (fun _ => rfl) (.run (fun γ ρ B hb hd => ⟨.yes rfl (ltB rfl) (hdl hd 8 13 rfl (by decide +kernel)) hc7, OpStep.at ⟨ρ, B, _⟩ (setO ⟨ρ, B, _⟩ (some 17) (.one (.val (PTR gb_3 (0 + 0))))) (op_fieldAddr (off := 0) (ltB rfl) tf40_0 (.tmp (hdl hd 11 16 rfl (by decide +kernel))))⟩)) ?_
      refine DSteps.cons (j := 14) rfl (fun _ => rfl) (.run (fun γ ρ B hb hd => ⟨.yes rfl (ltB rfl) (hdl hd 8 13 rfl (by decide +kernel)) hc7, OpStep.at ⟨ρ, (cvar gb_3 r_ref01_Reader r_2) :: B, _⟩ (setO ⟨ρ, (cvar gb_3 r_ref01_Reader r_2) :: B, _⟩ (some 18) (.one (.val (S (rL (rU UInt8)) r_2.B)))) (op_loadS (j := 0) (ltB rfl) tS23 (.tmp (hdl hd 12 17 rfl (by decide +kernel))) rfl (Comp.trans (Comp.self r_ref01_Reader r_2) (comp_ref01_Reader_B r_2) (Nat.le_of_ble_eq_true rfl)) rfl rfl)⟩)) ?_
      refine DSteps.cons (j := 15) rfl (fun _ => rfl) (.run (fun γ ρ B hb hd => ⟨.yes rfl (ltB rfl) (hdl hd 8 13 rfl (by decide +kernel)) hc7, OpStep.at ⟨ρ, B, _⟩ (setO ⟨ρ, B, _⟩ (some 19) (.one (.val (S (rI .i64) (List.length r_2.B : Int))))) (op_lenL (ltB rfl) tu23 (.tmp (hdl hd 13 18 rfl (by decide +kernel))))⟩)) ?_
      refine DSteps.cons (j := 16) rfl (fun _ => rfl) (.run (fun γ ρ B hb hd => ⟨.yes rfl (ltB rfl) (hdl hd 8 13 rfl (by decide +kernel)) hc7, OpStep.at ⟨ρ, B, _⟩ (setO ⟨ρ, B, _⟩ (some 20) (.one (.val (PTR gb_3 0)))) (op_move (ltB rfl) (.tmp (hb 0 _ rfl)))⟩)) ?_
      refine DSteps.cons (j := 17) rfl (fun _ => rfl) (.run (fun γ ρ B hb hd => ⟨.yes rfl (ltB rfl) (hdl hd 8 13 rfl (by decide +kernel)) hc7, OpStep.at ⟨ρ, B, _⟩ (setO ⟨ρ, B, _⟩ (some 21) (.one (.val (PTR gb_3 0)))) (op_nilCheck (ltB rfl) (.tmp (hdl hd 15 20 rfl (by decide +kernel))) (fun e v h => by subst h; rfl))⟩)) ?_
      refine DSteps.cons (j := 18) rfl (fun _ => rfl) (.run (fun γ ρ B hb hd => ⟨.yes rfl (ltB rfl) (hdl hd 8 13 rfl (by decide +kernel)) hc7, OpStep.at ⟨ρ, B, _⟩ (setO ⟨ρ, B, _⟩ (some 22) (.one (.val (PTR gb_3 (0 + 1))))) (op_fieldAddr (off := 1) (ltB rfl) tf40_1 (.tmp (hdl hd 16 21 rfl (by decide +kernel))))⟩)) ?_
      refine DSteps.cons (j := 19) rfl (fun _ => rfl) (.run (fun γ ρ B hb hd => ⟨.yes rfl (ltB rfl) (hdl hd 8 13 rfl (by decide +kernel)) hc7, OpStep.at ⟨ρ, (cvar gb_3 r_ref01_Reader r_2) :: B, _⟩ (setO ⟨ρ, (cvar gb_3 r_ref01_Reader r_2) :: B, _⟩ (some 23) (.one (.val (S (rI .i64) r_2.At)))) (op_loadS (j := 0) (ltB rfl) tS3 (.tmp (hdl hd 17 22 rfl (by decide +kernel))) rfl (Comp.trans (Comp.self r_ref01_Reader r_2) (comp_ref01_Reader_At r_2) (Nat.le_of_ble_eq_true rfl)) rfl rfl)⟩)) ?_
      refine DSteps.cons (j := 20) rfl (fun _ => rfl) (.run (fun γ ρ B hb hd => ⟨.yes rfl (ltB rfl) (hdl hd 8 13 rfl (by decide +kernel)) hc7, OpStep.at ⟨ρ, B, _⟩ (setO ⟨ρ, B, _⟩ (some 24) (.one (.val (S (rI .i64) v_6)))) (op_arI (ltB rfl) (.tmp (hdl hd 14 19 rfl (by decide +kernel))) (.tmp (hdl hd 18 23 rfl (by decide +kernel))) (congrArg some hv_v_6))⟩)) ?_
      refine DSteps.cons (j := 21) rfl (fun _ => rfl) (.run (fun γ ρ B hb hd => ⟨.yes rfl (ltB rfl) (hdl hd 8 13 rfl (by decide +kernel)) hc7, OpStep.at ⟨ρ, B, _⟩ (setO ⟨ρ, B, _⟩ (some 25) (.one (.val (S rB v_7)))) (op_cmpI (ltB rfl) (HasO.cnd (.tmp (hdl hd 9 14 rfl (by decide +kernel))) (notT hc7)) (.tmp (hdl hd 19 24 rfl (by decide +kernel))) (congrArg some hv_v_7))⟩)) ?_
      refine DSteps.cons (j := 22) rfl (fun _ => rfl) (.run (fun γ ρ B hb hd => ⟨.none, OpStep.at ⟨ρ, B, _⟩ (setO ⟨ρ, B, _⟩ (some 26) (.one (.val (S rB v_7)))) (op_pickF (ltB rfl) (.tmp (hdl hd 8 13 rfl (by decide +kernel))) hc7 (.tmp (hdl hd 20 25 rfl (by decide +kernel))))⟩)) ?_
      exact DSteps.nil)
          (by decide +kernel) (fun _ => rfl) rfl (fun _ => rfl) (fun _ => rfl) rfl (by decide) (by decide)
          (ρ' := fun γ => [(0, .one (.val (PTR gb_3 0))), (1, .one (.val (S (rI .i64) n_1))), (26, .one (.val (S rB v_7)))])
          (X' := fun γ => [cvar gb_3 r_ref01_Reader r_2])
          (fun γ ρ hb hd => (.cons (hb 0 _ rfl) (.cons (hb 1 _ rfl) (.cons (hdq hd 21 26 rfl) .nil)))) (fun _ => rfl) (fun γ => ?_)
      refine JQ.at ⟨[(0, .one (.val (PTR gb_3 0))), (1, .one (.val (S (rI .i64) n_1))), (26, .one (.val (S rB v_7)))], [cvar gb_3 r_ref01_Reader r_2], []⟩ ?_
      replace hx1 := Option.some.inj hx1
      subst hx1
      exact JQ.join () (Imp.norm (js := [0]) rfl (.cons rfl (.cons rfl (.cons rfl .nil))))

theorem sim_ref01_Reader_Number (k : Nat) (size_1 : Int) (B_2 : (List UInt8)) (At_3 : Int) (Failed_4 : Bool) (gb_5 : Nat) (r : UInt64 × ref01_Reader) (hm : ref01_Reader_Number k size_1 B_2 At_3 Failed_4 = some r) : Sim Try.prog 42 [PTR gb_5 0, S (rI .i64) size_1] [cvar gb_5 (rP (rL (rU UInt8)) (rP (rI .i64) (rP rB r0))) (B_2, (At_3, (Failed_4, ())))] (γ := Unit) (fun q => [cvar gb_5 r_ref01_Reader r.2]) (fun q => .one (.val (S (rU UInt64) r.1))) := by
  unfold ref01_Reader_Number at hm
  refine Sim.of Try.func42 rfl rfl (Nat.le_of_ble_eq_true rfl) (fun e0 w0 => ?_)
  refine JC.at ⟨[(0, .one (.val (PTR gb_5 0))), (1, .one (.val (S (rI .i64) size_1)))], [cvar gb_5 (rP (rL (rU UInt8)) (rP (rI .i64) (rP rB r0))) (B_2, (At_3, (Failed_4, ())))], []⟩ ?_
  refine JC.seq ?_
  refine JC.region ?_
  refine JL.cons rfl (op_assign (ltB rfl) (HasO.cU (x := (0 : UInt64)) rfl (by decide))) ?_
  refine JL.nil ?_
  refine JQ.then ?_
  obtain ⟨r_10, hx1, hq1⟩ := bnd_inv hm
  refine JC.seqJ (γ := Unit) (stj := fun q => ⟨[(0, .one (.val (PTR gb_5 0))), (1, .one (.val (S (rI .i64) size_1)))], [cvar gb_5 r_ref01_Reader r_10], []⟩) (fun q => ?_) ?_
  · obtain _ := q
    refine JC.at ⟨[(0, .one (.val (PTR gb_5 0))), (1, .one (.val (S (rI .i64) size_1)))], [cvar gb_5 r_ref01_Reader r_10], []⟩ ?_
    refine JC.seq ?_
    refine JC.region ?_
    refine JL.cons rfl (op_move (ltB rfl) (.tmp rfl)) ?_
    refine JL.cons rfl (op_move (ltB rfl) (.tmp rfl)) ?_
    replace hq1 := bnd_inv hq1
    obtain ⟨⟨v_11, x_12⟩, hv_v_11, hq1⟩ := hq1
    refine JL.consX rfl (op_call (js := [0]) (ltD rfl) cl46 (sim_ref01_Reader_Bytes k size_1 r_10 gb_5 (v_11, x_12) hv_v_11) .func (.cons (.tmp rfl) (.cons (.tmp rfl) .nil)) rfl) (fun _ => ?_)
    refine JL.pre (Imp.sub (ρ' := [(16, .one (.val (S (rL (rU UInt8)) v_11)))]) (.cons rfl .nil)) ?_
    refine JL.at ⟨[(16, .one (.val (S (rL (rU UInt8)) v_11)))], [cvar gb_5 r_ref01_Reader x_12], []⟩ ?_
    replace hq1 := bnd_inv hq1
    obtain ⟨v_13, hv_v_13, hq1⟩ := hq1
    refine JL.consX rfl (op_call (js := []) (ltD rfl) cl15 (sim_ref01_Get k v_11 v_13 hv_v_13) .func (.cons (.tmp rfl) .nil) rfl) (fun _ => ?_)
    refine JL.cons rfl (op_assign (ltB rfl) (.tmp rfl)) ?_
    refine JL.nil ?_
    refine JQ.then ?_
    refine JC.ret ?_
    replace hq1 := Option.some.inj hq1
    subst hq1
    exact JQ.done (js := [0]) (ss := [.val (S (rU UInt64) v_13)]) () (.inl rfl) (.nil rfl) rfl (.cons (.tmp rfl) .nil) rfl rfl rfl
  · obtain ⟨x_9, hx2, hq2⟩ := bnd_inv hx1
    refine JC.seqJ (γ := Unit) (stj := fun q => ⟨[(0, .one (.val (PTR gb_5 0))), (1, .one (.val (S (rI .i64) size_1))), (10, .one (.val (S rB x_9)))], [cvar gb_5 (rP (rL (rU UInt8)) (rP (rI .i64) (rP rB r0))) (B_2, (At_3, (Failed_4, ())))], []⟩) (fun q => ?_) ?_
    · obtain _ := q
      refine JC.at ⟨[(0, .one (.val (PTR gb_5 0))), (1, .one (.val (S (rI .i64) size_1))), (10, .one (.val (S rB x_9)))], [cvar gb_5 (rP (rL (rU UInt8)) (rP (rI .i64) (rP rB r0))) (B_2, (At_3, (Failed_4, ())))], []⟩ ?_
      rcases iteB_inv hq2 with ⟨hc6, hq2⟩ | ⟨hc6, hq2⟩
      · refine JC.condT (.tmp rfl) hc6 ?_
        refine JC.region ?_
        refine JL.cons rfl (op_move (ltB rfl) (.tmp rfl)) ?_
        refine JL.cons rfl (op_nilCheck (ltB rfl) (.tmp rfl) (fun e v h => by subst h; rfl)) ?_
        refine JL.cons rfl (op_fieldAddr (off := 2) (ltB rfl) tf40_2 (.tmp rfl)) ?_
        refine JL.cons rfl (op_storeS (j := 0) tS4 (.tmp rfl) .cB rfl rfl ((UpdR.snd (UpdR.snd (UpdR.fst (UpdR.self (by rfl))))).at (by change (1 + (1 + 0)) = (0 + 2); omega)) rfl) ?_
        refine JL.pre (Imp.sub (ρ' := [(0, .one (.val (PTR gb_5 0))), (1, .one (.val (S (rI .i64) size_1)))]) (.cons rfl (.cons rfl .nil))) ?_
        refine JL.at ⟨[(0, .one (.val (PTR gb_5 0))), (1, .one (.val (S (rI .i64) size_1)))], [cvar gb_5 (rP (rL (rU UInt8)) (rP (rI .i64) (rP rB r0))) (B_2, (At_3, (true, ())))], []⟩ ?_
        refine JL.nil ?_
        replace hq2 := Option.some.inj hq2
        subst hq2
        refine JQ.pre (Imp.var (j := 0) (q := r_ref01_Reader) (y := (ref01_Reader.mk B_2 At_3 true)) rfl (Wk.st Wk.refl)) ?_
        exact JQ.join () (Imp.norm (js := [0]) rfl (.cons rfl (.cons rfl .nil)))
      · refine JC.condF (.tmp rfl) hc6 ?_
        refine JC.skip ?_
        replace hq2 := Option.some.inj hq2
        subst hq2
        refine JQ.pre (Imp.var (j := 0) (q := r_ref01_Reader) (y := (ref01_Reader.mk B_2 At_3 Failed_4)) rfl (Wk.st Wk.refl)) ?_
        exact JQ.join () (Imp.norm (js := [0]) rfl (.cons rfl (.cons rfl .nil)))
    · refine JC.region ?_
      refine JL.cons rfl (op_move (ltB rfl) (.tmp rfl)) ?_
      replace hx2 := lt1_inv hx2
      obtain ⟨v_6, hv_v_6, hx2⟩ := hx2
      refine JL.cons rfl (op_cmpI (ltB rfl) (.tmp rfl) .cI (congrArg some hv_v_6)) ?_
      refine JL.cons rfl (op_move (ltB rfl) (.tmp rfl)) ?_
      refine JL.cnd (sv := .one (.val (S (rI .i64) size_1))) (Guard.isF (ltB rfl) rfl rfl) rfl (ltB rfl) (fun hq_3 => op_move (ltB rfl) (.tmp rfl)) ?_
      replace hx2 := lt1_inv hx2
      obtain ⟨v_7, hv_v_7, hx2⟩ := hx2
      refine JL.cnd (sv := .one (.val (S rB v_7))) (Guard.isF (ltB rfl) rfl rfl) rfl (ltB rfl) (fun hq_4 => op_cmpI (ltB rfl) (HasO.cnd (.tmp rfl) (notT (notF hq_4))) .cI (congrArg some hv_v_7)) ?_
      refine JL.pre (Imp.sub (ρ' := [(0, .one (.val (PTR gb_5 0))), (1, .one (.val (S (rI .i64) size_1))), (7, .one (.val (S rB v_6))), (9, bif (!v_6) then .one (.val (S rB v_7)) else .one .und)]) (.cons rfl (.cons rfl (.cons rfl (.cons rfl .nil))))) ?_
      refine JL.at ⟨[(0, .one (.val (PTR gb_5 0))), (1, .one (.val (S (rI .i64) size_1))), (7, .one (.val (S rB v_6))), (9, bif (!v_6) then .one (.val (S rB v_7)) else .one .und)], [cvar gb_5 (rP (rL (rU UInt8)) (rP (rI .i64) (rP rB r0))) (B_2, (At_3, (Failed_4, ())))], []⟩ ?_
      replace hx2 := lt1_inv hx2
      obtain ⟨v_8, hv_v_8, hx2⟩ := hx2
      refine JL.cons rfl (op_pickCS (ltB rfl) (.tmp rfl) (fun hb5 => .cB) (fun hb5 => (HasO.cnd (.tmp rfl) (notT hb5))) hv_v_8) ?_
      refine JL.nil ?_
      replace hx2 := Option.some.inj hx2
      subst hx2
      exact JQ.join () (Imp.norm (js := [0]) rfl (.cons rfl (.cons rfl (.cons rfl .nil))))

end Go.Proofs.Ytkbkdfcakpbojaa
