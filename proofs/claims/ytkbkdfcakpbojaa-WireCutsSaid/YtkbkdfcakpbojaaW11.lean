/- Walks. -/
import Derived.Test.YtkbkdfcakpbojaaT
import Derived.Test.YtkbkdfcakpbojaaW0
import Derived.Test.YtkbkdfcakpbojaaW1
import Derived.Test.YtkbkdfcakpbojaaW10
import Derived.Test.YtkbkdfcakpbojaaW2
import Derived.Test.YtkbkdfcakpbojaaW3
import Derived.Test.YtkbkdfcakpbojaaW9
namespace Go.Proofs.Ytkbkdfcakpbojaa
open Go Fw
set_option linter.unusedVariables false
set_option maxRecDepth 100000
set_option maxHeartbeats 4000000

theorem sim_law01_WireCuts (k : Nat) (t_1 : (List UInt8)) (a_2 : api_Dot) (a_3 : (Vector UInt64 16)) (a_4 : Int) (r : Bool) (hm : law01_WireCuts k t_1 a_2 a_3 a_4 = some r) : Sim Try.prog 5 [S (rL (rU UInt8)) t_1, A r_api_Dot a_2, A (rV 16 (rU UInt64)) a_3, S (rI .i64) a_4] [] (γ := Unit) (fun q => []) (fun q => .one (.val (S rB r))) := by
  unfold law01_WireCuts at hm
  refine Sim.of Try.func5 rfl rfl (Nat.le_of_ble_eq_true rfl) (fun e0 w0 => ?_)
  refine JC.at ⟨[(0, .one (.val (S (rL (rU UInt8)) t_1))), (1, .one (.val (A r_api_Dot a_2))), (2, .one (.val (A (rV 16 (rU UInt64)) a_3))), (3, .one (.val (S (rI .i64) a_4)))], [], []⟩ ?_
  refine JC.seq ?_
  refine JC.region ?_
  refine JL.consX rfl (op_boxA (ltB rfl) (.tmp rfl)) (fun q => ?_)
  obtain ⟨gb_5, hqq⟩ : ∃ z, z = q := ⟨_, rfl⟩
  subst hqq
  refine JL.pre (Imp.sub (ρ' := [(0, .one (.val (S (rL (rU UInt8)) t_1))), (2, .one (.val (A (rV 16 (rU UInt64)) a_3))), (3, .one (.val (S (rI .i64) a_4))), (5, .one (.val (PTR gb_5 0)))]) (.cons rfl (.cons rfl (.cons rfl (.cons rfl .nil))))) ?_
  refine JL.at ⟨[(0, .one (.val (S (rL (rU UInt8)) t_1))), (2, .one (.val (A (rV 16 (rU UInt64)) a_3))), (3, .one (.val (S (rI .i64) a_4))), (5, .one (.val (PTR gb_5 0)))], [cvar gb_5 r_api_Dot a_2], []⟩ ?_
  refine JL.consX rfl (op_boxA (ltB rfl) (.tmp rfl)) (fun q => ?_)
  obtain ⟨gb_6, hqq⟩ : ∃ z, z = q := ⟨_, rfl⟩
  subst hqq
  refine JL.pre (Imp.sub (ρ' := [(0, .one (.val (S (rL (rU UInt8)) t_1))), (3, .one (.val (S (rI .i64) a_4))), (5, .one (.val (PTR gb_5 0))), (6, .one (.val (PTR gb_6 0)))]) (.cons rfl (.cons rfl (.cons rfl (.cons rfl .nil))))) ?_
  refine JL.at ⟨[(0, .one (.val (S (rL (rU UInt8)) t_1))), (3, .one (.val (S (rI .i64) a_4))), (5, .one (.val (PTR gb_5 0))), (6, .one (.val (PTR gb_6 0)))], [cvar gb_5 r_api_Dot a_2, cvar gb_6 (rV 16 (rU UInt64)) a_3], []⟩ ?_
  refine JL.cons rfl (op_assign (ltB rfl) .cB) ?_
  refine JL.nil ?_
  refine JQ.then ?_
  refine JC.seq ?_
  obtain ⟨x_10, hx1, hq1⟩ := bnd_inv hm
  refine JC.seqJ (γ := Unit) (stj := fun q => ⟨[(0, .one (.val (S (rL (rU UInt8)) t_1))), (3, .one (.val (S (rI .i64) a_4))), (5, .one (.val (PTR gb_5 0))), (6, .one (.val (PTR gb_6 0))), (29, .one (.val (S rB x_10)))], [cvar gb_5 r_api_Dot a_2, cvar gb_6 (rV 16 (rU UInt64)) a_3], []⟩) (fun q => ?_) ?_
  · obtain _ := q
    refine JC.at ⟨[(0, .one (.val (S (rL (rU UInt8)) t_1))), (3, .one (.val (S (rI .i64) a_4))), (5, .one (.val (PTR gb_5 0))), (6, .one (.val (PTR gb_6 0))), (29, .one (.val (S rB x_10)))], [cvar gb_5 r_api_Dot a_2, cvar gb_6 (rV 16 (rU UInt64)) a_3], []⟩ ?_
    rcases iteB_inv hq1 with ⟨hc6, hq1⟩ | ⟨hc6, hq1⟩
    · refine JC.condT (.tmp rfl) hc6 ?_
      refine JC.seq ?_
      refine JC.region ?_
      replace hq1 := bnd_inv hq1
      obtain ⟨v_11, hv_v_11, hq1⟩ := hq1
      refine JL.consX rfl (op_call (js := []) (ltD rfl) cl9 (sim_law01_known k v_11 hv_v_11) .func .nil rfl) (fun _ => ?_)
      refine JL.cons rfl (op_assign (ltB rfl) (.tmp rfl)) ?_
      refine JL.nil ?_
      refine JQ.then ?_
      refine JC.ret ?_
      refine JQ.outR ?_
      replace hq1 := Option.some.inj hq1
      subst hq1
      exact JQ.done (js := []) (ss := [.val (S rB v_11)]) () (.inl rfl) (.nil rfl) rfl (.cons (.tmp rfl) .nil) rfl rfl rfl
    · refine JC.condF (.tmp rfl) hc6 ?_
      refine JC.skip ?_
      refine JQ.then ?_
      refine JC.seq ?_
      replace hq1 := bnd_inv hq1
      obtain ⟨v_12, hv_v_12, hq1⟩ := hq1
      replace hq1 := bnd_inv hq1
      obtain ⟨v_15, hv_v_15, hq1⟩ := hq1
      replace hq1 := bnd_inv hq1
      obtain ⟨x_18, hv_x_18, hq1⟩ := hq1
      replace hq1 := bnd_inv hq1
      obtain ⟨v_21, hv_v_21, hq1⟩ := hq1
      replace hq1 := bnd_inv hq1
      obtain ⟨x_24, hv_x_24, hq1⟩ := hq1
      refine JC.anyE (base := [(0, .one (.val (S (rL (rU UInt8)) t_1))), (3, .one (.val (S (rI .i64) a_4))), (5, .one (.val (PTR gb_5 0))), (6, .one (.val (PTR gb_6 0)))])
          (fs := fun γ => [⟨some 31, .one (.val (S (rL (rU UInt8)) t_1))⟩, ⟨some 32, .one (.val (HDR (deo (γ 1 0)) 0 (List.length v_12) (γ 1 1)))⟩, ⟨some 33, .one (.val (A r_api_Dot a_2))⟩, ⟨some 34, .one (.val (HDR (deo (γ 3 0)) 0 (List.length v_15) (γ 3 1)))⟩, ⟨some 35, .one (.val (HDR (deo (γ 4 0)) 0 (List.length x_18) (γ 4 1)))⟩, ⟨some 36, .one (.val (A (rV 16 (rU UInt64)) a_3))⟩, ⟨some 37, .one (.val (HDR (deo (γ 6 0)) 0 (List.length v_21) (γ 6 1)))⟩, ⟨some 38, .one (.val (HDR (deo (γ 7 0)) 0 (List.length x_24) (γ 7 1)))⟩, ⟨some 9, .one (.val (HDR (deo (γ 7 0)) 0 (List.length x_24) (γ 7 1)))⟩])
          (rs := fun γ => [⟨cvar gb_5 r_api_Dot a_2, none, none, [2]⟩, ⟨cvar gb_6 (rV 16 (rU UInt64)) a_3, none, none, [5]⟩, ⟨cown (deo (γ 1 0)) (rU UInt8) v_12 0 (γ 1 1), (some 1), (some 4), []⟩, ⟨cown (deo (γ 3 0)) (rU UInt8) v_15 0 (γ 3 1), (some 3), none, [4]⟩, ⟨cown (deo (γ 4 0)) (rU UInt8) x_18 0 (γ 4 1), (some 4), (some 7), []⟩, ⟨cown (deo (γ 6 0)) (rU UInt8) v_21 0 (γ 6 1), (some 6), none, [7]⟩, ⟨cown (deo (γ 7 0)) (rU UInt8) x_24 0 (γ 7 1), (some 7), none, []⟩])
          (ds := [31, 32, 33, 34, 35, 36, 37, 38, 9]) (bs := [0, 3, 5, 6]) (afts := [[], [1, 3, 4, 6, 7, 8], [], [3, 4, 6, 7, 8], [4, 6, 7, 8], [], [6, 7, 8], [7, 8], []]) (js := [0, 0]) mixed (.cons rfl (.cons rfl (.cons rfl (.cons rfl .nil)))) (fun _ => rfl)
          (by
      refine DSteps.cons (j := 1) rfl (fun _ => rfl) (.run (fun γ ρ B hb hd => ⟨.none, OpStep.at ⟨ρ, B, _⟩ (setO ⟨ρ, B, _⟩ (some 31) (.one (.val (S (rL (rU UInt8)) t_1)))) (op_move (ltB rfl) (.tmp (hb 0 _ rfl)))⟩)) ?_
      refine DSteps.cons (j := 2) rfl (fun _ => rfl) (.runX (fun _ _ => rfl) (fun γ ρ B hb hd => ⟨.none, OpX.ghost (γ := Option Nat × Nat) (st' := fun q => setO ⟨ρ, (cown q.1 (rU UInt8) v_12 0 q.2) :: B, _⟩ (some 32) (.one (.val (HDR q.1 0 (List.length v_12) q.2)))) (fun q c => bif Nat.beq c 0 then eno q.1 else q.2) (op_call (js := []) (ltD rfl) cl23 (sim_ref01_Blob k t_1 v_12 hv_v_12) .func (.cons (.tmp (hdl hd 0 31 rfl (by decide +kernel))) .nil) rfl) (fun q => by obtain ⟨q0, q1⟩ := q; cases q0 <;> exact Imp.refl)⟩) (fun _ _ => rfl) (fun _ _ => rfl)) ?_
      refine DSteps.cons (j := 3) rfl (fun _ => rfl) (.run (fun γ ρ B hb hd => ⟨.none, OpStep.at ⟨ρ, (cvar gb_5 r_api_Dot a_2) :: B, _⟩ (setO ⟨ρ, (cvar gb_5 r_api_Dot a_2) :: B, _⟩ (some 33) (.one (.val (A r_api_Dot a_2)))) (op_loadA (j := 0) (ltB rfl) tA48 (.tmp (hb 5 _ rfl)) rfl (Comp.self r_api_Dot a_2) rfl)⟩)) ?_
      refine DSteps.cons (j := 4) rfl (fun _ => rfl) (.runX (fun _ _ => rfl) (fun γ ρ B hb hd => ⟨.none, OpX.ghost (γ := Option Nat × Nat) (st' := fun q => setO ⟨ρ, (cown q.1 (rU UInt8) v_15 0 q.2) :: B, _⟩ (some 34) (.one (.val (HDR q.1 0 (List.length v_15) q.2)))) (fun q c => bif Nat.beq c 0 then eno q.1 else q.2) (op_call (js := []) (ltD rfl) cl24 (sim_ref01_Dot k a_2 v_15 hv_v_15) .func (.cons (.tmp (hdl hd 2 33 rfl (by decide +kernel))) .nil) rfl) (fun q => by obtain ⟨q0, q1⟩ := q; cases q0 <;> exact Imp.refl)⟩) (fun _ _ => rfl) (fun _ _ => rfl)) ?_
      refine DSteps.cons (j := 5) rfl (fun _ => rfl) (.runX (fun _ _ => rfl) (fun γ ρ B hb hd => ⟨.none, OpX.ghost (γ := Option Nat × Nat) (st' := fun q => setO ⟨ρ, (cown q.1 (rU UInt8) x_18 0 q.2) :: (cown (deo (γ 3 0)) (rU UInt8) v_15 0 (γ 3 1)) :: B, _⟩ (some 35) (.one (.val (HDR q.1 0 (List.length x_18) q.2)))) (fun q c => bif Nat.beq c 0 then eno q.1 else q.2) (op_appendO (j := 0) (j' := 1) (ltB rfl) tu23 tu23 rfl tB5 rfl (Nat.lt_of_lt_of_le Nat.zero_lt_one (Nat.le_of_ble_eq_true rfl)) (Nat.lt_of_lt_of_le Nat.zero_lt_one (Nat.le_of_ble_eq_true rfl))  rfl (.tmp (hdl hd 1 32 rfl (by decide +kernel))) rfl (.tmp (hdl hd 3 34 rfl (by decide +kernel))) hv_x_18) (fun q => by obtain ⟨q0, q1⟩ := q; cases q0 <;> exact Imp.refl)⟩) (fun _ _ => rfl) (fun _ _ => rfl)) ?_
      refine DSteps.cons (j := 6) rfl (fun _ => rfl) (.run (fun γ ρ B hb hd => ⟨.none, OpStep.at ⟨ρ, (cvar gb_6 (rV 16 (rU UInt64)) a_3) :: B, _⟩ (setO ⟨ρ, (cvar gb_6 (rV 16 (rU UInt64)) a_3) :: B, _⟩ (some 36) (.one (.val (A (rV 16 (rU UInt64)) a_3)))) (op_loadA (j := 0) (ltB rfl) tA50 (.tmp (hb 6 _ rfl)) rfl (Comp.self (rV 16 (rU UInt64)) a_3) rfl)⟩)) ?_
      refine DSteps.cons (j := 7) rfl (fun _ => rfl) (.runX (fun _ _ => rfl) (fun γ ρ B hb hd => ⟨.none, OpX.ghost (γ := Option Nat × Nat) (st' := fun q => setO ⟨ρ, (cown q.1 (rU UInt8) v_21 0 q.2) :: B, _⟩ (some 37) (.one (.val (HDR q.1 0 (List.length v_21) q.2)))) (fun q c => bif Nat.beq c 0 then eno q.1 else q.2) (op_call (js := []) (ltD rfl) cl25 (sim_ref01_Vector k a_3 v_21 hv_v_21) .func (.cons (.tmp (hdl hd 5 36 rfl (by decide +kernel))) .nil) rfl) (fun q => by obtain ⟨q0, q1⟩ := q; cases q0 <;> exact Imp.refl)⟩) (fun _ _ => rfl) (fun _ _ => rfl)) ?_
      refine DSteps.cons (j := 8) rfl (fun _ => rfl) (.runX (fun _ _ => rfl) (fun γ ρ B hb hd => ⟨.none, OpX.ghost (γ := Option Nat × Nat) (st' := fun q => setO ⟨ρ, (cown q.1 (rU UInt8) x_24 0 q.2) :: (cown (deo (γ 6 0)) (rU UInt8) v_21 0 (γ 6 1)) :: B, _⟩ (some 38) (.one (.val (HDR q.1 0 (List.length x_24) q.2)))) (fun q c => bif Nat.beq c 0 then eno q.1 else q.2) (op_appendO (j := 0) (j' := 1) (ltB rfl) tu23 tu23 rfl tB5 rfl (Nat.lt_of_lt_of_le Nat.zero_lt_one (Nat.le_of_ble_eq_true rfl)) (Nat.lt_of_lt_of_le Nat.zero_lt_one (Nat.le_of_ble_eq_true rfl))  rfl (.tmp (hdl hd 4 35 rfl (by decide +kernel))) rfl (.tmp (hdl hd 6 37 rfl (by decide +kernel))) hv_x_24) (fun q => by obtain ⟨q0, q1⟩ := q; cases q0 <;> exact Imp.refl)⟩) (fun _ _ => rfl) (fun _ _ => rfl)) ?_
      refine DSteps.cons (j := 9) rfl (fun _ => rfl) (.run (fun γ ρ B hb hd => ⟨.none, OpStep.at ⟨ρ, B, _⟩ (setO ⟨ρ, B, _⟩ (some 9) (.one (.val (HDR (deo (γ 7 0)) 0 (List.length x_24) (γ 7 1))))) (op_assign (ltB rfl) (.tmp (hdl hd 7 38 rfl (by decide +kernel))))⟩)) ?_
      exact DSteps.nil)
          (by decide +kernel) (fun _ => rfl) rfl (fun _ => rfl) (fun _ => rfl) rfl (by decide) (by decide)
          (ρ' := fun γ => [(0, .one (.val (S (rL (rU UInt8)) t_1))), (3, .one (.val (S (rI .i64) a_4))), (5, .one (.val (PTR gb_5 0))), (6, .one (.val (PTR gb_6 0))), (9, .one (.val (HDR (deo (γ 7 0)) 0 (List.length x_24) (γ 7 1))))])
          (X' := fun γ => [cvar gb_5 r_api_Dot a_2, cvar gb_6 (rV 16 (rU UInt64)) a_3, cown (deo (γ 3 0)) (rU UInt8) v_15 0 (γ 3 1), cown (deo (γ 6 0)) (rU UInt8) v_21 0 (γ 6 1), cown (deo (γ 7 0)) (rU UInt8) x_24 0 (γ 7 1)])
          (fun γ ρ hb hd => (.cons (hb 0 _ rfl) (.cons (hb 3 _ rfl) (.cons (hb 5 _ rfl) (.cons (hb 6 _ rfl) (.cons (hdq hd 8 9 rfl) .nil)))))) (fun _ => rfl) (fun γ => ?_)
      generalize (deo (γ 1 0)) = go_13
      generalize (γ 1 1) = gc_14
      generalize (deo (γ 3 0)) = go_16
      generalize (γ 3 1) = gc_17
      generalize (deo (γ 4 0)) = go_19
      generalize (γ 4 1) = gc_20
      generalize (deo (γ 6 0)) = go_22
      generalize (γ 6 1) = gc_23
      generalize (deo (γ 7 0)) = go_25
      generalize (γ 7 1) = gc_26
      clear γ
      refine JQ.at ⟨[(0, .one (.val (S (rL (rU UInt8)) t_1))), (3, .one (.val (S (rI .i64) a_4))), (5, .one (.val (PTR gb_5 0))), (6, .one (.val (PTR gb_6 0))), (9, .one (.val (HDR go_25 0 (List.length x_24) gc_26)))], [cvar gb_5 r_api_Dot a_2, cvar gb_6 (rV 16 (rU UInt64)) a_3, cown go_16 (rU UInt8) v_15 0 gc_17, cown go_22 (rU UInt8) v_21 0 gc_23, cown go_25 (rU UInt8) x_24 0 gc_26], []⟩ ?_
      refine JQ.then ?_
      refine JC.seq ?_
      obtain ⟨x_29, hx7, hq7⟩ := bnd_inv hq1
      refine JC.seqJ (γ := Unit) (stj := fun q => ⟨[(0, .one (.val (S (rL (rU UInt8)) t_1))), (3, .one (.val (S (rI .i64) a_4))), (5, .one (.val (PTR gb_5 0))), (6, .one (.val (PTR gb_6 0))), (9, .one (.val (HDR go_25 0 (List.length x_24) gc_26))), (46, .one (.val (S rB x_29)))], [cvar gb_5 r_api_Dot a_2, cvar gb_6 (rV 16 (rU UInt64)) a_3, cown go_25 (rU UInt8) x_24 0 gc_26], []⟩) (fun q => ?_) ?_
      · obtain _ := q
        refine JC.at ⟨[(0, .one (.val (S (rL (rU UInt8)) t_1))), (3, .one (.val (S (rI .i64) a_4))), (5, .one (.val (PTR gb_5 0))), (6, .one (.val (PTR gb_6 0))), (9, .one (.val (HDR go_25 0 (List.length x_24) gc_26))), (46, .one (.val (S rB x_29)))], [cvar gb_5 r_api_Dot a_2, cvar gb_6 (rV 16 (rU UInt64)) a_3, cown go_25 (rU UInt8) x_24 0 gc_26], []⟩ ?_
        rcases iteB_inv hq7 with ⟨hc11, hq7⟩ | ⟨hc11, hq7⟩
        · refine JC.condT (.tmp rfl) hc11 ?_
          refine JC.seq ?_
          refine JC.region ?_
          replace hq7 := bnd_inv hq7
          obtain ⟨v_30, hv_v_30, hq7⟩ := hq7
          refine JL.consX rfl (op_call (js := []) (ltD rfl) cl9 (sim_law01_known k v_30 hv_v_30) .func .nil rfl) (fun _ => ?_)
          refine JL.cons rfl (op_assign (ltB rfl) (.tmp rfl)) ?_
          refine JL.nil ?_
          refine JQ.then ?_
          refine JC.ret ?_
          refine JQ.outR ?_
          replace hq7 := Option.some.inj hq7
          subst hq7
          exact JQ.done (js := []) (ss := [.val (S rB v_30)]) () (.inl rfl) (.nil rfl) rfl (.cons (.tmp rfl) .nil) rfl rfl rfl
        · refine JC.condF (.tmp rfl) hc11 ?_
          refine JC.skip ?_
          refine JQ.then ?_
          refine JC.seq ?_
          refine JC.region ?_
          refine JL.cons rfl (op_move (ltB rfl) (.tmp rfl)) ?_
          refine JL.cons rfl (op_move (ltB rfl) (.tmp rfl)) ?_
          replace hq7 := bnd_inv hq7
          obtain ⟨v_31, hv_v_31, hq7⟩ := hq7
          refine JL.pre (Imp.frz (j := 2) rfl (ImpK.slotH (s := 9) rfl (ImpK.slotH (s := 48) rfl ImpK.refl))) ?_
          refine JL.cons rfl (op_sliceLg (ltB rfl) tu23 tz5 (HasO.wk (.tmp rfl) wkHL) .none (.some (.tmp rfl)) hv_v_31) ?_
          refine JL.pre (Imp.sub (ρ' := [(0, .one (.val (S (rL (rU UInt8)) t_1))), (3, .one (.val (S (rI .i64) a_4))), (5, .one (.val (PTR gb_5 0))), (6, .one (.val (PTR gb_6 0))), (9, .one (.val (HL go_25 (rU UInt8) x_24 gc_26))), (50, .one (.val (S (rL (rU UInt8)) v_31)))]) (.cons rfl (.cons rfl (.cons rfl (.cons rfl (.cons rfl (.cons rfl .nil))))))) ?_
          refine JL.at ⟨[(0, .one (.val (S (rL (rU UInt8)) t_1))), (3, .one (.val (S (rI .i64) a_4))), (5, .one (.val (PTR gb_5 0))), (6, .one (.val (PTR gb_6 0))), (9, .one (.val (HL go_25 (rU UInt8) x_24 gc_26))), (50, .one (.val (S (rL (rU UInt8)) v_31)))], [cvar gb_5 r_api_Dot a_2, cvar gb_6 (rV 16 (rU UInt64)) a_3, cown go_25 (rU UInt8) x_24 (List.length x_24) gc_26], []⟩ ?_
          replace hq7 := bnd_inv hq7
          obtain ⟨v_32, hv_v_32, hq7⟩ := hq7
          refine JL.consX rfl (op_call (js := []) (ltD rfl) cl16 (sim_wire_Read k v_31 v_32 hv_v_32) .func (.cons (.tmp rfl) .nil) rfl) (fun q => ?_)
          obtain ⟨gb_33, go_34, gc_35⟩ := q
          refine JL.pre (Imp.sub (ρ' := [(0, .one (.val (S (rL (rU UInt8)) t_1))), (3, .one (.val (S (rI .i64) a_4))), (5, .one (.val (PTR gb_5 0))), (6, .one (.val (PTR gb_6 0))), (9, .one (.val (HL go_25 (rU UInt8) x_24 gc_26))), (51, .one (.val (PTR gb_33 0)))]) (.cons rfl (.cons rfl (.cons rfl (.cons rfl (.cons rfl (.cons rfl .nil))))))) ?_
          refine JL.at ⟨[(0, .one (.val (S (rL (rU UInt8)) t_1))), (3, .one (.val (S (rI .i64) a_4))), (5, .one (.val (PTR gb_5 0))), (6, .one (.val (PTR gb_6 0))), (9, .one (.val (HL go_25 (rU UInt8) x_24 gc_26))), (51, .one (.val (PTR gb_33 0)))], [cvar gb_33 (rP (rW (HDR go_34 0 (List.length v_32) gc_35)) (rP rB (rP rB r0))) ((), (true, (true, ()))), cown go_34 (rU UInt8) v_32 0 gc_35, cvar gb_5 r_api_Dot a_2, cvar gb_6 (rV 16 (rU UInt64)) a_3, cown go_25 (rU UInt8) x_24 (List.length x_24) gc_26], []⟩ ?_
          refine JL.cons rfl (op_assign (ltB rfl) (.tmp rfl)) ?_
          refine JL.nil ?_
          refine JQ.then ?_
          refine JC.seq ?_
          refine JC.seq ?_
          refine JC.region ?_
          refine JL.cons rfl (op_move (ltB rfl) (.tmp rfl)) ?_
          refine JL.cons rfl (op_nilP (neg := false) (ltB rfl) tu36 (.tmp rfl) (HasO.const (p := PTO none) fun _ => rfl)) ?_
          refine JL.nil ?_
          refine JQ.then ?_
          refine JC.condF (.tmp rfl) rfl ?_
          refine JC.skip ?_
          refine JQ.then ?_
          refine JC.seq ?_
          refine JC.region ?_
          refine JL.cons rfl (op_move (ltB rfl) (.tmp rfl)) ?_
          replace hq7 := bnd_inv hq7
          obtain ⟨⟨v_36, x_37⟩, hv_v_36, hq7⟩ := hq7
          refine JL.consX rfl (op_call (js := [0, 0]) (ltD rfl) cl26 (sim_wire_Reader_Blob k true true v_32 gb_33 go_34 gc_35 (v_36, x_37) hv_v_36) .func (.cons (.tmp rfl) .nil) rfl) (fun _ => ?_)
          refine JL.pre (Imp.norm (ρ' := [(0, .one (.val (S (rL (rU UInt8)) t_1))), (3, .one (.val (S (rI .i64) a_4))), (5, .one (.val (PTR gb_5 0))), (6, .one (.val (PTR gb_6 0))), (9, .one (.val (HL go_25 (rU UInt8) x_24 gc_26))), (10, .one (.val (PTR gb_33 0))), (55, .one (.val (S (rL (rU UInt8)) v_36)))]) (js := [0, 1, 1, 1]) rfl (.cons rfl (.cons rfl (.cons rfl (.cons rfl (.cons rfl (.cons rfl (.cons rfl .nil)))))))) ?_
          refine JL.at ⟨[(0, .one (.val (S (rL (rU UInt8)) t_1))), (3, .one (.val (S (rI .i64) a_4))), (5, .one (.val (PTR gb_5 0))), (6, .one (.val (PTR gb_6 0))), (9, .one (.val (HL go_25 (rU UInt8) x_24 gc_26))), (10, .one (.val (PTR gb_33 0))), (55, .one (.val (S (rL (rU UInt8)) v_36)))], [cvar gb_33 r_wire_Reader x_37, cvar gb_5 r_api_Dot a_2, cvar gb_6 (rV 16 (rU UInt64)) a_3, cown go_25 (rU UInt8) x_24 (List.length x_24) gc_26], []⟩ ?_
          refine JL.cons rfl (op_assign (ltB rfl) (.tmp rfl)) ?_
          refine JL.nil ?_
          refine JQ.then ?_
          refine JC.seq ?_
          refine JC.region ?_
          refine JL.cons rfl (op_move (ltB rfl) (.tmp rfl)) ?_
          refine JL.cons rfl (op_move (ltB rfl) (.tmp rfl)) ?_
          refine JL.cons rfl (op_lenL (ltB rfl) tu23 (.tmp rfl)) ?_
          replace hq7 := lt1_inv hq7
          obtain ⟨v_38, hv_v_38, hq7⟩ := hq7
          refine JL.cons rfl (op_arI (ltB rfl) .cI (.tmp rfl) (congrArg some hv_v_38)) ?_
          replace hq7 := lt1_inv hq7
          obtain ⟨v_39, hv_v_39, hq7⟩ := hq7
          refine JL.cons rfl (op_cmpI (ltB rfl) (.tmp rfl) (.tmp rfl) (congrArg some hv_v_39)) ?_
          refine JL.pre (Imp.sub (ρ' := [(0, .one (.val (S (rL (rU UInt8)) t_1))), (3, .one (.val (S (rI .i64) a_4))), (5, .one (.val (PTR gb_5 0))), (6, .one (.val (PTR gb_6 0))), (9, .one (.val (HL go_25 (rU UInt8) x_24 gc_26))), (10, .one (.val (PTR gb_33 0))), (11, .one (.val (S (rL (rU UInt8)) v_36))), (60, .one (.val (S rB v_39)))]) (.cons rfl (.cons rfl (.cons rfl (.cons rfl (.cons rfl (.cons rfl (.cons rfl (.cons rfl .nil))))))))) ?_
          refine JL.at ⟨[(0, .one (.val (S (rL (rU UInt8)) t_1))), (3, .one (.val (S (rI .i64) a_4))), (5, .one (.val (PTR gb_5 0))), (6, .one (.val (PTR gb_6 0))), (9, .one (.val (HL go_25 (rU UInt8) x_24 gc_26))), (10, .one (.val (PTR gb_33 0))), (11, .one (.val (S (rL (rU UInt8)) v_36))), (60, .one (.val (S rB v_39)))], [cvar gb_33 r_wire_Reader x_37, cvar gb_5 r_api_Dot a_2, cvar gb_6 (rV 16 (rU UInt64)) a_3, cown go_25 (rU UInt8) x_24 (List.length x_24) gc_26], []⟩ ?_
          refine JL.cons rfl (op_assign (ltB rfl) (.tmp rfl)) ?_
          refine JL.nil ?_
          refine JQ.then ?_
          refine JC.seq ?_
          refine JC.region ?_
          refine JL.cons rfl (op_move (ltB rfl) (.tmp rfl)) ?_
          replace hq7 := bnd_inv hq7
          obtain ⟨⟨v_40, x_41⟩, hv_v_40, hq7⟩ := hq7
          refine JL.consX rfl (op_call (js := [0]) (ltD rfl) cl27 (sim_wire_Reader_Dot'2 k x_37 gb_33 (v_40, x_41) hv_v_40) .func (.cons (.tmp rfl) .nil) rfl) (fun _ => ?_)
          refine JL.pre (Imp.sub (ρ' := [(0, .one (.val (S (rL (rU UInt8)) t_1))), (3, .one (.val (S (rI .i64) a_4))), (5, .one (.val (PTR gb_5 0))), (6, .one (.val (PTR gb_6 0))), (9, .one (.val (HL go_25 (rU UInt8) x_24 gc_26))), (10, .one (.val (PTR gb_33 0))), (11, .one (.val (S (rL (rU UInt8)) v_36))), (12, .one (.val (S rB v_39))), (62, .one (.val (A r_api_Dot v_40)))]) (.cons rfl (.cons rfl (.cons rfl (.cons rfl (.cons rfl (.cons rfl (.cons rfl (.cons rfl (.cons rfl .nil)))))))))) ?_
          refine JL.at ⟨[(0, .one (.val (S (rL (rU UInt8)) t_1))), (3, .one (.val (S (rI .i64) a_4))), (5, .one (.val (PTR gb_5 0))), (6, .one (.val (PTR gb_6 0))), (9, .one (.val (HL go_25 (rU UInt8) x_24 gc_26))), (10, .one (.val (PTR gb_33 0))), (11, .one (.val (S (rL (rU UInt8)) v_36))), (12, .one (.val (S rB v_39))), (62, .one (.val (A r_api_Dot v_40)))], [cvar gb_33 r_wire_Reader x_41, cvar gb_5 r_api_Dot a_2, cvar gb_6 (rV 16 (rU UInt64)) a_3, cown go_25 (rU UInt8) x_24 (List.length x_24) gc_26], []⟩ ?_
          refine JL.consX rfl (op_alloc (ltB rfl) tZ48 zr48) (fun q => ?_)
          obtain ⟨gb_42, hqq⟩ : ∃ z, z = q := ⟨_, rfl⟩
          subst hqq
          refine JL.pre (Imp.sub (ρ' := [(0, .one (.val (S (rL (rU UInt8)) t_1))), (3, .one (.val (S (rI .i64) a_4))), (5, .one (.val (PTR gb_5 0))), (6, .one (.val (PTR gb_6 0))), (9, .one (.val (HL go_25 (rU UInt8) x_24 gc_26))), (10, .one (.val (PTR gb_33 0))), (11, .one (.val (S (rL (rU UInt8)) v_36))), (12, .one (.val (S rB v_39))), (13, .one (.val (PTR gb_42 0))), (62, .one (.val (A r_api_Dot v_40)))]) (.cons rfl (.cons rfl (.cons rfl (.cons rfl (.cons rfl (.cons rfl (.cons rfl (.cons rfl (.cons rfl (.cons rfl .nil))))))))))) ?_
          refine JL.at ⟨[(0, .one (.val (S (rL (rU UInt8)) t_1))), (3, .one (.val (S (rI .i64) a_4))), (5, .one (.val (PTR gb_5 0))), (6, .one (.val (PTR gb_6 0))), (9, .one (.val (HL go_25 (rU UInt8) x_24 gc_26))), (10, .one (.val (PTR gb_33 0))), (11, .one (.val (S (rL (rU UInt8)) v_36))), (12, .one (.val (S rB v_39))), (13, .one (.val (PTR gb_42 0))), (62, .one (.val (A r_api_Dot v_40)))], [cvar gb_33 r_wire_Reader x_41, cvar gb_5 r_api_Dot a_2, cvar gb_6 (rV 16 (rU UInt64)) a_3, cown go_25 (rU UInt8) x_24 (List.length x_24) gc_26, cvar gb_42 r_api_Dot (api_Dot.mk (0 : Int) (0 : UInt64))], []⟩ ?_
          refine JL.cons rfl (op_storeA (j := 4) tA48 (.tmp rfl) (.tmp rfl) rfl (UpdR.self (by rfl)) rfl) ?_
          refine JL.pre (Imp.sub (ρ' := [(0, .one (.val (S (rL (rU UInt8)) t_1))), (3, .one (.val (S (rI .i64) a_4))), (5, .one (.val (PTR gb_5 0))), (6, .one (.val (PTR gb_6 0))), (9, .one (.val (HL go_25 (rU UInt8) x_24 gc_26))), (10, .one (.val (PTR gb_33 0))), (11, .one (.val (S (rL (rU UInt8)) v_36))), (12, .one (.val (S rB v_39))), (13, .one (.val (PTR gb_42 0)))]) (.cons rfl (.cons rfl (.cons rfl (.cons rfl (.cons rfl (.cons rfl (.cons rfl (.cons rfl (.cons rfl .nil)))))))))) ?_
          refine JL.at ⟨[(0, .one (.val (S (rL (rU UInt8)) t_1))), (3, .one (.val (S (rI .i64) a_4))), (5, .one (.val (PTR gb_5 0))), (6, .one (.val (PTR gb_6 0))), (9, .one (.val (HL go_25 (rU UInt8) x_24 gc_26))), (10, .one (.val (PTR gb_33 0))), (11, .one (.val (S (rL (rU UInt8)) v_36))), (12, .one (.val (S rB v_39))), (13, .one (.val (PTR gb_42 0)))], [cvar gb_33 r_wire_Reader x_41, cvar gb_5 r_api_Dot a_2, cvar gb_6 (rV 16 (rU UInt64)) a_3, cown go_25 (rU UInt8) x_24 (List.length x_24) gc_26, cvar gb_42 r_api_Dot v_40], []⟩ ?_
          refine JL.nil ?_
          refine JQ.then ?_
          refine JC.seq ?_
          refine JC.region ?_
          refine JL.cons rfl (op_move (ltB rfl) (.tmp rfl)) ?_
          refine JL.cons rfl (op_move (ltB rfl) (.tmp rfl)) ?_
          refine JL.cons rfl (op_lenL (ltB rfl) tu23 (.tmp rfl)) ?_
          replace hq7 := lt1_inv hq7
          obtain ⟨v_43, hv_v_43, hq7⟩ := hq7
          refine JL.cons rfl (op_arI (ltB rfl) .cI (.tmp rfl) (congrArg some hv_v_43)) ?_
          replace hq7 := lt1_inv hq7
          obtain ⟨v_44, hv_v_44, hq7⟩ := hq7
          refine JL.cons rfl (op_cmpI (ltB rfl) (.tmp rfl) (.tmp rfl) (congrArg some hv_v_44)) ?_
          refine JL.cons rfl (op_assign (ltB rfl) (.tmp rfl)) ?_
          refine JL.pre (Imp.sub (ρ' := [(0, .one (.val (S (rL (rU UInt8)) t_1))), (3, .one (.val (S (rI .i64) a_4))), (5, .one (.val (PTR gb_5 0))), (6, .one (.val (PTR gb_6 0))), (9, .one (.val (HL go_25 (rU UInt8) x_24 gc_26))), (10, .one (.val (PTR gb_33 0))), (11, .one (.val (S (rL (rU UInt8)) v_36))), (12, .one (.val (S rB v_39))), (13, .one (.val (PTR gb_42 0))), (14, .one (.val (S rB v_44)))]) (.cons rfl (.cons rfl (.cons rfl (.cons rfl (.cons rfl (.cons rfl (.cons rfl (.cons rfl (.cons rfl (.cons rfl .nil))))))))))) ?_
          refine JL.at ⟨[(0, .one (.val (S (rL (rU UInt8)) t_1))), (3, .one (.val (S (rI .i64) a_4))), (5, .one (.val (PTR gb_5 0))), (6, .one (.val (PTR gb_6 0))), (9, .one (.val (HL go_25 (rU UInt8) x_24 gc_26))), (10, .one (.val (PTR gb_33 0))), (11, .one (.val (S (rL (rU UInt8)) v_36))), (12, .one (.val (S rB v_39))), (13, .one (.val (PTR gb_42 0))), (14, .one (.val (S rB v_44)))], [cvar gb_33 r_wire_Reader x_41, cvar gb_5 r_api_Dot a_2, cvar gb_6 (rV 16 (rU UInt64)) a_3, cown go_25 (rU UInt8) x_24 (List.length x_24) gc_26, cvar gb_42 r_api_Dot v_40], []⟩ ?_
          refine JL.nil ?_
          refine JQ.then ?_
          refine JC.seq ?_
          refine JC.region ?_
          refine JL.cons rfl (op_move (ltB rfl) (.tmp rfl)) ?_
          replace hq7 := bnd_inv hq7
          obtain ⟨⟨v_45, x_46⟩, hv_v_45, hq7⟩ := hq7
          refine JL.consX rfl (op_call (js := [0]) (ltD rfl) cl28 (sim_wire_Reader_Vector'2 k x_41 gb_33 (v_45, x_46) hv_v_45) .func (.cons (.tmp rfl) .nil) rfl) (fun _ => ?_)
          refine JL.pre (Imp.sub (ρ' := [(0, .one (.val (S (rL (rU UInt8)) t_1))), (3, .one (.val (S (rI .i64) a_4))), (5, .one (.val (PTR gb_5 0))), (6, .one (.val (PTR gb_6 0))), (9, .one (.val (HL go_25 (rU UInt8) x_24 gc_26))), (10, .one (.val (PTR gb_33 0))), (11, .one (.val (S (rL (rU UInt8)) v_36))), (12, .one (.val (S rB v_39))), (13, .one (.val (PTR gb_42 0))), (14, .one (.val (S rB v_44))), (69, .one (.val (A (rV 16 (rU UInt64)) v_45)))]) (.cons rfl (.cons rfl (.cons rfl (.cons rfl (.cons rfl (.cons rfl (.cons rfl (.cons rfl (.cons rfl (.cons rfl (.cons rfl .nil)))))))))))) ?_
          refine JL.at ⟨[(0, .one (.val (S (rL (rU UInt8)) t_1))), (3, .one (.val (S (rI .i64) a_4))), (5, .one (.val (PTR gb_5 0))), (6, .one (.val (PTR gb_6 0))), (9, .one (.val (HL go_25 (rU UInt8) x_24 gc_26))), (10, .one (.val (PTR gb_33 0))), (11, .one (.val (S (rL (rU UInt8)) v_36))), (12, .one (.val (S rB v_39))), (13, .one (.val (PTR gb_42 0))), (14, .one (.val (S rB v_44))), (69, .one (.val (A (rV 16 (rU UInt64)) v_45)))], [cvar gb_33 r_wire_Reader x_46, cvar gb_5 r_api_Dot a_2, cvar gb_6 (rV 16 (rU UInt64)) a_3, cown go_25 (rU UInt8) x_24 (List.length x_24) gc_26, cvar gb_42 r_api_Dot v_40], []⟩ ?_
          refine JL.consX rfl (op_alloc (ltB rfl) tZ50 zr50) (fun q => ?_)
          obtain ⟨gb_47, hqq⟩ : ∃ z, z = q := ⟨_, rfl⟩
          subst hqq
          refine JL.pre (Imp.sub (ρ' := [(0, .one (.val (S (rL (rU UInt8)) t_1))), (3, .one (.val (S (rI .i64) a_4))), (5, .one (.val (PTR gb_5 0))), (6, .one (.val (PTR gb_6 0))), (9, .one (.val (HL go_25 (rU UInt8) x_24 gc_26))), (10, .one (.val (PTR gb_33 0))), (11, .one (.val (S (rL (rU UInt8)) v_36))), (12, .one (.val (S rB v_39))), (13, .one (.val (PTR gb_42 0))), (14, .one (.val (S rB v_44))), (15, .one (.val (PTR gb_47 0))), (69, .one (.val (A (rV 16 (rU UInt64)) v_45)))]) (.cons rfl (.cons rfl (.cons rfl (.cons rfl (.cons rfl (.cons rfl (.cons rfl (.cons rfl (.cons rfl (.cons rfl (.cons rfl (.cons rfl .nil))))))))))))) ?_
          refine JL.at ⟨[(0, .one (.val (S (rL (rU UInt8)) t_1))), (3, .one (.val (S (rI .i64) a_4))), (5, .one (.val (PTR gb_5 0))), (6, .one (.val (PTR gb_6 0))), (9, .one (.val (HL go_25 (rU UInt8) x_24 gc_26))), (10, .one (.val (PTR gb_33 0))), (11, .one (.val (S (rL (rU UInt8)) v_36))), (12, .one (.val (S rB v_39))), (13, .one (.val (PTR gb_42 0))), (14, .one (.val (S rB v_44))), (15, .one (.val (PTR gb_47 0))), (69, .one (.val (A (rV 16 (rU UInt64)) v_45)))], [cvar gb_33 r_wire_Reader x_46, cvar gb_5 r_api_Dot a_2, cvar gb_6 (rV 16 (rU UInt64)) a_3, cown go_25 (rU UInt8) x_24 (List.length x_24) gc_26, cvar gb_42 r_api_Dot v_40, cvar gb_47 (rV 16 (rU UInt64)) (Vector.replicate 16 (0 : UInt64))], []⟩ ?_
          refine JL.cons rfl (op_storeA (j := 5) tA50 (.tmp rfl) (.tmp rfl) rfl (UpdR.self (by rfl)) rfl) ?_
          refine JL.pre (Imp.sub (ρ' := [(0, .one (.val (S (rL (rU UInt8)) t_1))), (3, .one (.val (S (rI .i64) a_4))), (5, .one (.val (PTR gb_5 0))), (6, .one (.val (PTR gb_6 0))), (9, .one (.val (HL go_25 (rU UInt8) x_24 gc_26))), (10, .one (.val (PTR gb_33 0))), (11, .one (.val (S (rL (rU UInt8)) v_36))), (12, .one (.val (S rB v_39))), (13, .one (.val (PTR gb_42 0))), (14, .one (.val (S rB v_44))), (15, .one (.val (PTR gb_47 0)))]) (.cons rfl (.cons rfl (.cons rfl (.cons rfl (.cons rfl (.cons rfl (.cons rfl (.cons rfl (.cons rfl (.cons rfl (.cons rfl .nil)))))))))))) ?_
          refine JL.at ⟨[(0, .one (.val (S (rL (rU UInt8)) t_1))), (3, .one (.val (S (rI .i64) a_4))), (5, .one (.val (PTR gb_5 0))), (6, .one (.val (PTR gb_6 0))), (9, .one (.val (HL go_25 (rU UInt8) x_24 gc_26))), (10, .one (.val (PTR gb_33 0))), (11, .one (.val (S (rL (rU UInt8)) v_36))), (12, .one (.val (S rB v_39))), (13, .one (.val (PTR gb_42 0))), (14, .one (.val (S rB v_44))), (15, .one (.val (PTR gb_47 0)))], [cvar gb_33 r_wire_Reader x_46, cvar gb_5 r_api_Dot a_2, cvar gb_6 (rV 16 (rU UInt64)) a_3, cown go_25 (rU UInt8) x_24 (List.length x_24) gc_26, cvar gb_42 r_api_Dot v_40, cvar gb_47 (rV 16 (rU UInt64)) v_45], []⟩ ?_
          refine JL.nil ?_
          refine JQ.then ?_
          refine JC.seq ?_
          refine JC.region ?_
          refine JL.cons rfl (op_move (ltB rfl) (.tmp rfl)) ?_
          refine JL.cons rfl (op_move (ltB rfl) (.tmp rfl)) ?_
          refine JL.cons rfl (op_lenH (ltB rfl) tu23 (HasO.wk (.tmp rfl) wkHH)) ?_
          replace hq7 := lt1_inv hq7
          obtain ⟨v_48, hv_v_48, hq7⟩ := hq7
          refine JL.cons rfl (op_cmpI (ltB rfl) (.tmp rfl) (.tmp rfl) (congrArg some hv_v_48)) ?_
          refine JL.cons rfl (op_assign (ltB rfl) (.tmp rfl)) ?_
          refine JL.nil ?_
          refine JQ.then ?_
          refine JC.seq ?_
          obtain ⟨x_69, hx12, hq12⟩ := bnd_inv hq7
          refine JC.seqJ (γ := Unit) (stj := fun q => ⟨[(10, .one (.val (PTR gb_33 0))), (16, .one (.val (S rB v_48))), (124, .one (.val (S rB x_69)))], [cvar gb_33 r_wire_Reader x_46], []⟩) (fun q => ?_) ?_
          · obtain _ := q
            refine JC.at ⟨[(10, .one (.val (PTR gb_33 0))), (16, .one (.val (S rB v_48))), (124, .one (.val (S rB x_69)))], [cvar gb_33 r_wire_Reader x_46], []⟩ ?_
            rcases iteB_inv hq12 with ⟨hc62, hq12⟩ | ⟨hc62, hq12⟩
            · refine JC.condT (.tmp rfl) hc62 ?_
              refine JC.seq ?_
              refine JC.region ?_
              refine JL.cons rfl (op_assign (ltB rfl) .cB) ?_
              refine JL.nil ?_
              refine JQ.then ?_
              refine JC.ret ?_
              refine JQ.outR ?_
              replace hq12 := Option.some.inj hq12
              subst hq12
              exact JQ.done (js := []) (ss := [.val (S rB false)]) () (.inl rfl) (.nil rfl) rfl (.cons (.tmp rfl) .nil) rfl rfl rfl
            · refine JC.condF (.tmp rfl) hc62 ?_
              refine JC.skip ?_
              refine JQ.then ?_
              obtain ⟨x_79, hx63, hq63⟩ := bnd_inv hq12
              refine JC.seqJ (γ := Unit) (stj := fun q => ⟨[(8, .one (.val (S rB x_79)))], [], []⟩) (fun q => ?_) ?_
              · obtain _ := q
                refine JC.at ⟨[(8, .one (.val (S rB x_79)))], [], []⟩ ?_
                refine JC.ret ?_
                replace hq63 := Option.some.inj hq63
                subst hq63
                exact JQ.done (js := []) (ss := [.val (S rB x_79)]) () (.inl rfl) (.nil rfl) rfl (.cons (.tmp rfl) .nil) rfl rfl rfl
              · refine JC.region ?_
                refine JL.cons rfl (op_move (ltB rfl) (.tmp rfl)) ?_
                replace hx63 := bnd_inv hx63
                obtain ⟨v_70, hv_v_70, hx63⟩ := hx63
                refine JL.consX rfl (op_call (js := [0]) (ltD rfl) cl20 (sim_wire_Reader_Failed'2 k x_46 gb_33 v_70 hv_v_70) .func (.cons (.tmp rfl) .nil) rfl) (fun _ => ?_)
                refine JL.cons rfl (op_move (ltB rfl) (.tmp rfl)) ?_
                replace hx63 := lt1_inv hx63
                obtain ⟨v_71, hv_v_71, hx63⟩ := hx63
                refine JL.cons rfl (op_not (ltB rfl) (.tmp rfl) hv_v_71) ?_
                replace hx63 := lt1_inv hx63
                obtain ⟨v_72, hv_v_72, hx63⟩ := hx63
                refine JL.cons rfl (op_eqB (ltB rfl) tu4 (.tmp rfl) (.tmp rfl) hv_v_72) ?_
                refine JL.cons rfl (op_move (ltB rfl) (.tmp rfl)) ?_
                refine JL.pre (Imp.sub (ρ' := [(10, .one (.val (PTR gb_33 0))), (16, .one (.val (S rB v_48))), (130, .one (.val (S rB v_72)))]) (.cons rfl (.cons rfl (.cons rfl .nil)))) ?_
                refine JL.at ⟨[(10, .one (.val (PTR gb_33 0))), (16, .one (.val (S rB v_48))), (130, .one (.val (S rB v_72)))], [cvar gb_33 r_wire_Reader x_46], []⟩ ?_
                rcases iteB_inv hx63 with ⟨hc65, hx63⟩ | ⟨hc65, hx63⟩
                · refine JL.run (.yes rfl (ltB rfl) rfl hc65) (op_move (ltB rfl) (.tmp rfl)) ?_
                  replace hx63 := bnd_inv hx63
                  obtain ⟨v_73, hv_v_73, hx63⟩ := hx63
                  refine JL.runX (.yes rfl (ltB rfl) rfl hc65) (op_call (js := [0]) (ltD rfl) cl21 (sim_wire_Reader_End k x_46 gb_33 v_73 hv_v_73) .func (.cons (.tmp rfl) .nil) rfl) (fun _ => ?_)
                  replace hx63 := bnd_inv hx63
                  obtain ⟨_, hv_u_74, hx63⟩ := hx63
                  refine JL.runX (.yes rfl (ltB rfl) rfl hc65) (op_call (js := []) (ltD rfl) cl13 (sim_law01_num k v_73 () hv_u_74) .func (.cons (.tmp rfl) .nil) rfl) (fun _ => ?_)
                  replace hx63 := lt1_inv hx63
                  obtain ⟨v_75, hv_v_75, hx63⟩ := hx63
                  refine JL.run (.yes rfl (ltB rfl) rfl hc65) (op_cmpI (ltB rfl) (.tmp rfl) .cI (congrArg some hv_v_75)) ?_
                  refine JL.run (.yes rfl (ltB rfl) rfl hc65) (op_move (ltB rfl) (.tmp rfl)) ?_
                  replace hx63 := lt1_inv hx63
                  obtain ⟨v_76, hv_v_76, hx63⟩ := hx63
                  refine JL.run (.yes rfl (ltB rfl) rfl hc65) (op_eqB (ltB rfl) tu4 (.tmp rfl) (.tmp rfl) hv_v_76) ?_
                  refine JL.pre (Imp.norm (ρ' := [(130, .one (.val (S rB v_72))), (136, .one (.val (S rB v_76)))]) (js := []) rfl (.cons rfl (.cons rfl .nil))) ?_
                  refine JL.at ⟨[(130, .one (.val (S rB v_72))), (136, .one (.val (S rB v_76)))], [], []⟩ ?_
                  refine JL.cons rfl (op_pickT (ltB rfl) (.tmp rfl) hc65 (.tmp rfl)) ?_
                  refine JL.cons rfl (op_move (ltB rfl) (.tmp rfl)) ?_
                  replace hx63 := bnd_inv hx63
                  obtain ⟨v_77, hv_v_77, hx63⟩ := hx63
                  refine JL.cnd (sv := .one (.val (S rB v_77))) (Guard.isT (ltB rfl) rfl rfl) rfl (ltB rfl) (fun hq_66 => (op_call (js := []) (ltD rfl) cl9 (sim_law01_known k v_77 (ifT hv_v_77 hq_66)) .func .nil rfl).post (fun _ => Imp.refl)) ?_
                  replace hx63 := lt1_inv hx63
                  obtain ⟨v_78, hv_v_78, hx63⟩ := hx63
                  refine JL.cons rfl (op_pickCS (ltB rfl) (.tmp rfl) (fun hb67 => (HasO.cnd (.tmp rfl) hb67)) (fun hb67 => .cB) hv_v_78) ?_
                  refine JL.cons rfl (op_assign (ltB rfl) (.tmp rfl)) ?_
                  refine JL.nil ?_
                  replace hx63 := Option.some.inj hx63
                  subst hx63
                  exact JQ.join () (Imp.norm (js := []) rfl (.cons rfl .nil))
                · refine JL.skip (.no rfl (ltB rfl) rfl hc65) (fun d h => by cases h; exact ltB rfl) ?_
                  refine JL.skip (.no rfl (ltB rfl) rfl hc65) (fun d h => by cases h; exact ltB rfl) ?_
                  refine JL.skip (.no rfl (ltB rfl) rfl hc65) (fun d h => by cases h; exact ltB rfl) ?_
                  refine JL.skip (.no rfl (ltB rfl) rfl hc65) (fun d h => by cases h; exact ltB rfl) ?_
                  refine JL.skip (.no rfl (ltB rfl) rfl hc65) (fun d h => by cases h; exact ltB rfl) ?_
                  refine JL.skip (.no rfl (ltB rfl) rfl hc65) (fun d h => by cases h; exact ltB rfl) ?_
                  refine JL.cons rfl (op_pickF (ltB rfl) (.tmp rfl) hc65 .cB) ?_
                  refine JL.cons rfl (op_move (ltB rfl) (.tmp rfl)) ?_
                  refine JL.skip (.no rfl (ltB rfl) rfl rfl) (fun d h => by cases h; exact ltB rfl) ?_
                  refine JL.cons rfl (op_pickF (ltB rfl) (.tmp rfl) rfl .cB) ?_
                  refine JL.cons rfl (op_assign (ltB rfl) (.tmp rfl)) ?_
                  refine JL.nil ?_
                  replace hx63 := Option.some.inj hx63
                  subst hx63
                  exact JQ.join () (Imp.norm (js := []) rfl (.cons rfl .nil))
          · refine JC.region ?_
            refine JL.cons rfl (op_move (ltB rfl) (.tmp rfl)) ?_
            refine JL.pre (Imp.norm (ρ' := [(0, .one (.val (S (rL (rU UInt8)) t_1))), (5, .one (.val (PTR gb_5 0))), (6, .one (.val (PTR gb_6 0))), (10, .one (.val (PTR gb_33 0))), (11, .one (.val (S (rL (rU UInt8)) v_36))), (12, .one (.val (S rB v_39))), (13, .one (.val (PTR gb_42 0))), (14, .one (.val (S rB v_44))), (15, .one (.val (PTR gb_47 0))), (16, .one (.val (S rB v_48))), (74, .one (.val (S rB v_39)))]) (js := [0, 0, 0, 1, 1]) rfl (.cons rfl (.cons rfl (.cons rfl (.cons rfl (.cons rfl (.cons rfl (.cons rfl (.cons rfl (.cons rfl (.cons rfl (.cons rfl .nil)))))))))))) ?_
            refine JL.at ⟨[(0, .one (.val (S (rL (rU UInt8)) t_1))), (5, .one (.val (PTR gb_5 0))), (6, .one (.val (PTR gb_6 0))), (10, .one (.val (PTR gb_33 0))), (11, .one (.val (S (rL (rU UInt8)) v_36))), (12, .one (.val (S rB v_39))), (13, .one (.val (PTR gb_42 0))), (14, .one (.val (S rB v_44))), (15, .one (.val (PTR gb_47 0))), (16, .one (.val (S rB v_48))), (74, .one (.val (S rB v_39)))], [cvar gb_33 r_wire_Reader x_46, cvar gb_5 r_api_Dot a_2, cvar gb_6 (rV 16 (rU UInt64)) a_3, cvar gb_42 r_api_Dot v_40, cvar gb_47 (rV 16 (rU UInt64)) v_45], []⟩ ?_
            refine JL.cons rfl (op_move (ltB rfl) (.tmp rfl)) ?_
            refine JL.cnd (sv := .one (.val (S (rL (rU UInt8)) v_36))) (Guard.isT (ltB rfl) rfl rfl) rfl (ltB rfl) (fun hq_13 => op_move (ltB rfl) (.tmp rfl)) ?_
            refine JL.cnd (sv := .one (.val (S rS v_36))) (Guard.isT (ltB rfl) rfl rfl) rfl (ltB rfl) (fun hq_14 => op_convBS (ltB rfl) tu23 tu5 tu9 (HasO.cnd (.tmp rfl) hq_14)) ?_
            refine JL.cnd (sv := .one (.val (S (rL (rU UInt8)) t_1))) (Guard.isT (ltB rfl) rfl rfl) rfl (ltB rfl) (fun hq_15 => op_move (ltB rfl) (.tmp rfl)) ?_
            refine JL.cnd (sv := .one (.val (S rS t_1))) (Guard.isT (ltB rfl) rfl rfl) rfl (ltB rfl) (fun hq_16 => op_convBS (ltB rfl) tu23 tu5 tu9 (HasO.cnd (.tmp rfl) hq_16)) ?_
            replace hx12 := lt1_inv hx12
            obtain ⟨v_49, hv_v_49, hx12⟩ := hx12
            refine JL.cnd (sv := .one (.val (S rB v_49))) (Guard.isT (ltB rfl) rfl rfl) rfl (ltB rfl) (fun hq_17 => op_cmpS (ltB rfl) (HasO.cnd (.tmp rfl) hq_17) (HasO.cnd (.tmp rfl) hq_17) (congrArg some hv_v_49)) ?_
            refine JL.pre (Imp.sub (ρ' := [(5, .one (.val (PTR gb_5 0))), (6, .one (.val (PTR gb_6 0))), (10, .one (.val (PTR gb_33 0))), (11, .one (.val (S (rL (rU UInt8)) v_36))), (12, .one (.val (S rB v_39))), (13, .one (.val (PTR gb_42 0))), (14, .one (.val (S rB v_44))), (15, .one (.val (PTR gb_47 0))), (16, .one (.val (S rB v_48))), (75, .one (.val (S rB v_39))), (80, bif v_39 then .one (.val (S rB v_49)) else .one .und)]) (.cons rfl (.cons rfl (.cons rfl (.cons rfl (.cons rfl (.cons rfl (.cons rfl (.cons rfl (.cons rfl (.cons rfl (.cons rfl .nil)))))))))))) ?_
            refine JL.at ⟨[(5, .one (.val (PTR gb_5 0))), (6, .one (.val (PTR gb_6 0))), (10, .one (.val (PTR gb_33 0))), (11, .one (.val (S (rL (rU UInt8)) v_36))), (12, .one (.val (S rB v_39))), (13, .one (.val (PTR gb_42 0))), (14, .one (.val (S rB v_44))), (15, .one (.val (PTR gb_47 0))), (16, .one (.val (S rB v_48))), (75, .one (.val (S rB v_39))), (80, bif v_39 then .one (.val (S rB v_49)) else .one .und)], [cvar gb_33 r_wire_Reader x_46, cvar gb_5 r_api_Dot a_2, cvar gb_6 (rV 16 (rU UInt64)) a_3, cvar gb_42 r_api_Dot v_40, cvar gb_47 (rV 16 (rU UInt64)) v_45], []⟩ ?_
            replace hx12 := lt1_inv hx12
            obtain ⟨v_50, hv_v_50, hx12⟩ := hx12
            refine JL.cons rfl (op_pickCS (ltB rfl) (.tmp rfl) (fun hb18 => (HasO.cnd (.tmp rfl) hb18)) (fun hb18 => .cB) hv_v_50) ?_
            refine JL.cons rfl (op_move (ltB rfl) (.tmp rfl)) ?_
            refine JL.cnd (sv := .one (.val (S rB v_39))) (Guard.isF (ltB rfl) rfl rfl) rfl (ltB rfl) (fun hq_19 => op_move (ltB rfl) (.tmp rfl)) ?_
            replace hx12 := lt1_inv hx12
            obtain ⟨v_51, hv_v_51, hx12⟩ := hx12
            refine JL.cnd (sv := .one (.val (S rB v_51))) (Guard.isF (ltB rfl) rfl rfl) rfl (ltB rfl) (fun hq_20 => op_not (ltB rfl) (HasO.cnd (.tmp rfl) (notT (notF hq_20))) hv_v_51) ?_
            refine JL.cnd (sv := .one (.val (S rB v_51))) (Guard.isF (ltB rfl) rfl rfl) rfl (ltB rfl) (fun hq_21 => op_move (ltB rfl) (HasO.cnd (.tmp rfl) (notT (notF hq_21)))) ?_
            refine JL.cnd (sv := .one (.val (S (rL (rU UInt8)) v_36))) (Guard.cT (q := (!v_50)) (ltB rfl) rfl rfl) rfl (ltB rfl) (fun hq_22 => op_move (ltB rfl) (.tmp rfl)) ?_
            refine JL.pre (Imp.sub (ρ' := [(5, .one (.val (PTR gb_5 0))), (6, .one (.val (PTR gb_6 0))), (10, .one (.val (PTR gb_33 0))), (13, .one (.val (PTR gb_42 0))), (14, .one (.val (S rB v_44))), (15, .one (.val (PTR gb_47 0))), (16, .one (.val (S rB v_48))), (82, .one (.val (S rB v_50))), (85, bif (!v_50) then .one (.val (S rB v_51)) else .one .und), (86, bif ((!v_50) && v_51) then .one (.val (S (rL (rU UInt8)) v_36)) else .one .und)]) (.cons rfl (.cons rfl (.cons rfl (.cons rfl (.cons rfl (.cons rfl (.cons rfl (.cons rfl (.cons rfl (.cons rfl .nil))))))))))) ?_
            refine JL.at ⟨[(5, .one (.val (PTR gb_5 0))), (6, .one (.val (PTR gb_6 0))), (10, .one (.val (PTR gb_33 0))), (13, .one (.val (PTR gb_42 0))), (14, .one (.val (S rB v_44))), (15, .one (.val (PTR gb_47 0))), (16, .one (.val (S rB v_48))), (82, .one (.val (S rB v_50))), (85, bif (!v_50) then .one (.val (S rB v_51)) else .one .und), (86, bif ((!v_50) && v_51) then .one (.val (S (rL (rU UInt8)) v_36)) else .one .und)], [cvar gb_33 r_wire_Reader x_46, cvar gb_5 r_api_Dot a_2, cvar gb_6 (rV 16 (rU UInt64)) a_3, cvar gb_42 r_api_Dot v_40, cvar gb_47 (rV 16 (rU UInt64)) v_45], []⟩ ?_
            refine JL.cnd (sv := .one (.val (S (rI .i64) (List.length v_36 : Int)))) (Guard.cT (q := (!v_50)) (ltB rfl) rfl rfl) rfl (ltB rfl) (fun hq_23 => op_lenL (ltB rfl) tu23 (HasO.cnd (.tmp rfl) (andI (notT (notF (andL hq_23))) (andR hq_23)))) ?_
            replace hx12 := lt1_inv hx12
            obtain ⟨v_52, hv_v_52, hx12⟩ := hx12
            refine JL.cnd (sv := .one (.val (S rB v_52))) (Guard.cT (q := (!v_50)) (ltB rfl) rfl rfl) rfl (ltB rfl) (fun hq_24 => op_cmpI (ltB rfl) (HasO.cnd (.tmp rfl) (andI (notT (notF (andL hq_24))) (andR hq_24))) .cI (congrArg some hv_v_52)) ?_
            replace hx12 := lt1_inv hx12
            obtain ⟨v_53, hv_v_53, hx12⟩ := hx12
            refine JL.cnd (sv := .one (.val (S rB v_53))) (Guard.isF (ltB rfl) rfl rfl) rfl (ltB rfl) (fun hq_25 => op_pickCS (ltB rfl) (HasO.cnd (.tmp rfl) (notT (notF hq_25))) (fun hb26 => (HasO.cnd (.tmp rfl) (andI (notT (notF hq_25)) hb26))) (fun hb26 => .cB) hv_v_53) ?_
            replace hx12 := lt1_inv hx12
            obtain ⟨v_54, hv_v_54, hx12⟩ := hx12
            refine JL.cons rfl (op_pickCS (ltB rfl) (.tmp rfl) (fun hb27 => .cB) (fun hb27 => (HasO.cnd (.tmp rfl) (notT hb27))) hv_v_54) ?_
            refine JL.cons rfl (op_move (ltB rfl) (.tmp rfl)) ?_
            refine JL.cnd (sv := .one (.val (S rB v_44))) (Guard.isF (ltB rfl) rfl rfl) rfl (ltB rfl) (fun hq_28 => op_move (ltB rfl) (.tmp rfl)) ?_
            refine JL.pre (Imp.sub (ρ' := [(5, .one (.val (PTR gb_5 0))), (6, .one (.val (PTR gb_6 0))), (10, .one (.val (PTR gb_33 0))), (13, .one (.val (PTR gb_42 0))), (14, .one (.val (S rB v_44))), (15, .one (.val (PTR gb_47 0))), (16, .one (.val (S rB v_48))), (91, .one (.val (S rB v_54))), (92, bif (!v_54) then .one (.val (S rB v_44)) else .one .und)]) (.cons rfl (.cons rfl (.cons rfl (.cons rfl (.cons rfl (.cons rfl (.cons rfl (.cons rfl (.cons rfl .nil)))))))))) ?_
            refine JL.at ⟨[(5, .one (.val (PTR gb_5 0))), (6, .one (.val (PTR gb_6 0))), (10, .one (.val (PTR gb_33 0))), (13, .one (.val (PTR gb_42 0))), (14, .one (.val (S rB v_44))), (15, .one (.val (PTR gb_47 0))), (16, .one (.val (S rB v_48))), (91, .one (.val (S rB v_54))), (92, bif (!v_54) then .one (.val (S rB v_44)) else .one .und)], [cvar gb_33 r_wire_Reader x_46, cvar gb_5 r_api_Dot a_2, cvar gb_6 (rV 16 (rU UInt64)) a_3, cvar gb_42 r_api_Dot v_40, cvar gb_47 (rV 16 (rU UInt64)) v_45], []⟩ ?_
            refine JL.cnd (sv := .one (.val (S rB v_44))) (Guard.isF (ltB rfl) rfl rfl) rfl (ltB rfl) (fun hq_29 => op_move (ltB rfl) (HasO.cnd (.tmp rfl) (notT (notF hq_29)))) ?_
            refine JL.cnd (sv := .one (.val (A r_api_Dot v_40))) (Guard.cT (q := (!v_54)) (ltB rfl) rfl rfl) rfl (ltB rfl) (fun hq_30 => op_loadA (j := 3) (ltB rfl) tA48 (.tmp rfl) rfl (Comp.self r_api_Dot v_40) rfl) ?_
            refine JL.cnd (sv := .one (.val (A r_api_Dot a_2))) (Guard.cT (q := (!v_54)) (ltB rfl) rfl rfl) rfl (ltB rfl) (fun hq_31 => op_loadA (j := 1) (ltB rfl) tA48 (.tmp rfl) rfl (Comp.self r_api_Dot a_2) rfl) ?_
            replace hx12 := lt1_inv hx12
            obtain ⟨v_55, hv_v_55, hx12⟩ := hx12
            refine JL.cnd (sv := .one (.val (S rB v_55))) (Guard.cT (q := (!v_54)) (ltB rfl) rfl rfl) rfl (ltB rfl) (fun hq_32 => op_neA (ltB rfl) qa48 (by decide) ng48 (HasO.cnd (.tmp rfl) (andI (notT (notF (andL hq_32))) (andR hq_32))) (HasO.cnd (.tmp rfl) (andI (notT (notF (andL hq_32))) (andR hq_32))) hv_v_55) ?_
            replace hx12 := lt1_inv hx12
            obtain ⟨v_56, hv_v_56, hx12⟩ := hx12
            refine JL.cnd (sv := .one (.val (S rB v_56))) (Guard.isF (ltB rfl) rfl rfl) rfl (ltB rfl) (fun hq_33 => op_pickCS (ltB rfl) (HasO.cnd (.tmp rfl) (notT (notF hq_33))) (fun hb34 => (HasO.cnd (.tmp rfl) (andI (notT (notF hq_33)) hb34))) (fun hb34 => .cB) hv_v_56) ?_
            replace hx12 := lt1_inv hx12
            obtain ⟨v_57, hv_v_57, hx12⟩ := hx12
            refine JL.cons rfl (op_pickCS (ltB rfl) (.tmp rfl) (fun hb35 => .cB) (fun hb35 => (HasO.cnd (.tmp rfl) (notT hb35))) hv_v_57) ?_
            refine JL.pre (Imp.norm (ρ' := [(6, .one (.val (PTR gb_6 0))), (10, .one (.val (PTR gb_33 0))), (13, .one (.val (PTR gb_42 0))), (14, .one (.val (S rB v_44))), (15, .one (.val (PTR gb_47 0))), (16, .one (.val (S rB v_48))), (98, .one (.val (S rB v_57)))]) (js := [0, 1, 1, 1]) rfl (.cons rfl (.cons rfl (.cons rfl (.cons rfl (.cons rfl (.cons rfl (.cons rfl .nil)))))))) ?_
            refine JL.at ⟨[(6, .one (.val (PTR gb_6 0))), (10, .one (.val (PTR gb_33 0))), (13, .one (.val (PTR gb_42 0))), (14, .one (.val (S rB v_44))), (15, .one (.val (PTR gb_47 0))), (16, .one (.val (S rB v_48))), (98, .one (.val (S rB v_57)))], [cvar gb_33 r_wire_Reader x_46, cvar gb_6 (rV 16 (rU UInt64)) a_3, cvar gb_42 r_api_Dot v_40, cvar gb_47 (rV 16 (rU UInt64)) v_45], []⟩ ?_
            refine JL.cons rfl (op_move (ltB rfl) (.tmp rfl)) ?_
            refine JL.cnd (sv := .one (.val (S rB v_44))) (Guard.isF (ltB rfl) rfl rfl) rfl (ltB rfl) (fun hq_36 => op_move (ltB rfl) (.tmp rfl)) ?_
            replace hx12 := lt1_inv hx12
            obtain ⟨v_58, hv_v_58, hx12⟩ := hx12
            refine JL.cnd (sv := .one (.val (S rB v_58))) (Guard.isF (ltB rfl) rfl rfl) rfl (ltB rfl) (fun hq_37 => op_not (ltB rfl) (HasO.cnd (.tmp rfl) (notT (notF hq_37))) hv_v_58) ?_
            refine JL.cnd (sv := .one (.val (S rB v_58))) (Guard.isF (ltB rfl) rfl rfl) rfl (ltB rfl) (fun hq_38 => op_move (ltB rfl) (HasO.cnd (.tmp rfl) (notT (notF hq_38)))) ?_
            refine JL.cnd (sv := .one (.val (A r_api_Dot v_40))) (Guard.cT (q := (!v_57)) (ltB rfl) rfl rfl) rfl (ltB rfl) (fun hq_39 => op_loadA (j := 2) (ltB rfl) tA48 (.tmp rfl) rfl (Comp.self r_api_Dot v_40) rfl) ?_
            refine JL.cnd (sv := .one (.val (A r_api_Dot (api_Dot.mk (0 : Int) (0 : UInt64))))) (Guard.cT (q := (!v_57)) (ltB rfl) rfl rfl) rfl (ltB rfl) (fun hq_40 => op_build (ltB rfl) tZ48 zv48 tp48 .nil rfl) ?_
            refine JL.pre (Imp.norm (ρ' := [(6, .one (.val (PTR gb_6 0))), (10, .one (.val (PTR gb_33 0))), (15, .one (.val (PTR gb_47 0))), (16, .one (.val (S rB v_48))), (99, .one (.val (S rB v_57))), (102, bif (!v_57) then .one (.val (S rB v_58)) else .one .und), (103, bif ((!v_57) && v_58) then .one (.val (A r_api_Dot v_40)) else .one .und), (104, bif ((!v_57) && v_58) then .one (.val (A r_api_Dot (api_Dot.mk (0 : Int) (0 : UInt64)))) else .one .und)]) (js := [0, 0, 1]) rfl (.cons rfl (.cons rfl (.cons rfl (.cons rfl (.cons rfl (.cons rfl (.cons rfl (.cons rfl .nil))))))))) ?_
            refine JL.at ⟨[(6, .one (.val (PTR gb_6 0))), (10, .one (.val (PTR gb_33 0))), (15, .one (.val (PTR gb_47 0))), (16, .one (.val (S rB v_48))), (99, .one (.val (S rB v_57))), (102, bif (!v_57) then .one (.val (S rB v_58)) else .one .und), (103, bif ((!v_57) && v_58) then .one (.val (A r_api_Dot v_40)) else .one .und), (104, bif ((!v_57) && v_58) then .one (.val (A r_api_Dot (api_Dot.mk (0 : Int) (0 : UInt64)))) else .one .und)], [cvar gb_33 r_wire_Reader x_46, cvar gb_6 (rV 16 (rU UInt64)) a_3, cvar gb_47 (rV 16 (rU UInt64)) v_45], []⟩ ?_
            replace hx12 := lt1_inv hx12
            obtain ⟨v_59, hv_v_59, hx12⟩ := hx12
            refine JL.cnd (sv := .one (.val (S rB v_59))) (Guard.cT (q := (!v_57)) (ltB rfl) rfl rfl) rfl (ltB rfl) (fun hq_41 => op_neA (ltB rfl) qa48 (by decide) ng48 (HasO.cnd (.tmp rfl) (andI (notT (notF (andL hq_41))) (andR hq_41))) (HasO.cnd (.tmp rfl) (andI (notT (notF (andL hq_41))) (andR hq_41))) hv_v_59) ?_
            replace hx12 := lt1_inv hx12
            obtain ⟨v_60, hv_v_60, hx12⟩ := hx12
            refine JL.cnd (sv := .one (.val (S rB v_60))) (Guard.isF (ltB rfl) rfl rfl) rfl (ltB rfl) (fun hq_42 => op_pickCS (ltB rfl) (HasO.cnd (.tmp rfl) (notT (notF hq_42))) (fun hb43 => (HasO.cnd (.tmp rfl) (andI (notT (notF hq_42)) hb43))) (fun hb43 => .cB) hv_v_60) ?_
            replace hx12 := lt1_inv hx12
            obtain ⟨v_61, hv_v_61, hx12⟩ := hx12
            refine JL.cons rfl (op_pickCS (ltB rfl) (.tmp rfl) (fun hb44 => .cB) (fun hb44 => (HasO.cnd (.tmp rfl) (notT hb44))) hv_v_61) ?_
            refine JL.cons rfl (op_move (ltB rfl) (.tmp rfl)) ?_
            refine JL.cnd (sv := .one (.val (S rB v_48))) (Guard.isF (ltB rfl) rfl rfl) rfl (ltB rfl) (fun hq_45 => op_move (ltB rfl) (.tmp rfl)) ?_
            refine JL.cnd (sv := .one (.val (S rB v_48))) (Guard.isF (ltB rfl) rfl rfl) rfl (ltB rfl) (fun hq_46 => op_move (ltB rfl) (HasO.cnd (.tmp rfl) (notT (notF hq_46)))) ?_
            refine JL.pre (Imp.sub (ρ' := [(6, .one (.val (PTR gb_6 0))), (10, .one (.val (PTR gb_33 0))), (15, .one (.val (PTR gb_47 0))), (16, .one (.val (S rB v_48))), (108, .one (.val (S rB v_61))), (110, bif (!v_61) then .one (.val (S rB v_48)) else .one .und)]) (.cons rfl (.cons rfl (.cons rfl (.cons rfl (.cons rfl (.cons rfl .nil))))))) ?_
            refine JL.at ⟨[(6, .one (.val (PTR gb_6 0))), (10, .one (.val (PTR gb_33 0))), (15, .one (.val (PTR gb_47 0))), (16, .one (.val (S rB v_48))), (108, .one (.val (S rB v_61))), (110, bif (!v_61) then .one (.val (S rB v_48)) else .one .und)], [cvar gb_33 r_wire_Reader x_46, cvar gb_6 (rV 16 (rU UInt64)) a_3, cvar gb_47 (rV 16 (rU UInt64)) v_45], []⟩ ?_
            refine JL.cnd (sv := .one (.val (A (rV 16 (rU UInt64)) v_45))) (Guard.cT (q := (!v_61)) (ltB rfl) rfl rfl) rfl (ltB rfl) (fun hq_47 => op_loadA (j := 2) (ltB rfl) tA50 (.tmp rfl) rfl (Comp.self (rV 16 (rU UInt64)) v_45) rfl) ?_
            refine JL.cnd (sv := .one (.val (A (rV 16 (rU UInt64)) a_3))) (Guard.cT (q := (!v_61)) (ltB rfl) rfl rfl) rfl (ltB rfl) (fun hq_48 => op_loadA (j := 1) (ltB rfl) tA50 (.tmp rfl) rfl (Comp.self (rV 16 (rU UInt64)) a_3) rfl) ?_
            replace hx12 := lt1_inv hx12
            obtain ⟨v_62, hv_v_62, hx12⟩ := hx12
            refine JL.cnd (sv := .one (.val (S rB v_62))) (Guard.cT (q := (!v_61)) (ltB rfl) rfl rfl) rfl (ltB rfl) (fun hq_49 => op_neA (ltB rfl) qa50 (by decide) ng50 (HasO.cnd (.tmp rfl) (andI (notT (notF (andL hq_49))) (andR hq_49))) (HasO.cnd (.tmp rfl) (andI (notT (notF (andL hq_49))) (andR hq_49))) hv_v_62) ?_
            replace hx12 := lt1_inv hx12
            obtain ⟨v_63, hv_v_63, hx12⟩ := hx12
            refine JL.cnd (sv := .one (.val (S rB v_63))) (Guard.isF (ltB rfl) rfl rfl) rfl (ltB rfl) (fun hq_50 => op_pickCS (ltB rfl) (HasO.cnd (.tmp rfl) (notT (notF hq_50))) (fun hb51 => (HasO.cnd (.tmp rfl) (andI (notT (notF hq_50)) hb51))) (fun hb51 => .cB) hv_v_63) ?_
            replace hx12 := lt1_inv hx12
            obtain ⟨v_64, hv_v_64, hx12⟩ := hx12
            refine JL.cons rfl (op_pickCS (ltB rfl) (.tmp rfl) (fun hb52 => .cB) (fun hb52 => (HasO.cnd (.tmp rfl) (notT hb52))) hv_v_64) ?_
            refine JL.cons rfl (op_move (ltB rfl) (.tmp rfl)) ?_
            refine JL.pre (Imp.norm (ρ' := [(10, .one (.val (PTR gb_33 0))), (15, .one (.val (PTR gb_47 0))), (16, .one (.val (S rB v_48))), (116, .one (.val (S rB v_64)))]) (js := [0, 1]) rfl (.cons rfl (.cons rfl (.cons rfl (.cons rfl .nil))))) ?_
            refine JL.at ⟨[(10, .one (.val (PTR gb_33 0))), (15, .one (.val (PTR gb_47 0))), (16, .one (.val (S rB v_48))), (116, .one (.val (S rB v_64)))], [cvar gb_33 r_wire_Reader x_46, cvar gb_47 (rV 16 (rU UInt64)) v_45], []⟩ ?_
            refine JL.cnd (sv := .one (.val (S rB v_48))) (Guard.isF (ltB rfl) rfl rfl) rfl (ltB rfl) (fun hq_53 => op_move (ltB rfl) (.tmp rfl)) ?_
            replace hx12 := lt1_inv hx12
            obtain ⟨v_65, hv_v_65, hx12⟩ := hx12
            refine JL.cnd (sv := .one (.val (S rB v_65))) (Guard.isF (ltB rfl) rfl rfl) rfl (ltB rfl) (fun hq_54 => op_not (ltB rfl) (HasO.cnd (.tmp rfl) (notT (notF hq_54))) hv_v_65) ?_
            refine JL.cnd (sv := .one (.val (S rB v_65))) (Guard.isF (ltB rfl) rfl rfl) rfl (ltB rfl) (fun hq_55 => op_move (ltB rfl) (HasO.cnd (.tmp rfl) (notT (notF hq_55)))) ?_
            refine JL.cnd (sv := .one (.val (A (rV 16 (rU UInt64)) v_45))) (Guard.cT (q := (!v_64)) (ltB rfl) rfl rfl) rfl (ltB rfl) (fun hq_56 => op_loadA (j := 1) (ltB rfl) tA50 (.tmp rfl) rfl (Comp.self (rV 16 (rU UInt64)) v_45) rfl) ?_
            refine JL.cnd (sv := .one (.val (A (rV 16 (rU UInt64)) (Vector.replicate 16 (0 : UInt64))))) (Guard.cT (q := (!v_64)) (ltB rfl) rfl rfl) rfl (ltB rfl) (fun hq_57 => op_build (ltB rfl) tZ50 zv50 tp50 .nil rfl) ?_
            replace hx12 := lt1_inv hx12
            obtain ⟨v_66, hv_v_66, hx12⟩ := hx12
            refine JL.cnd (sv := .one (.val (S rB v_66))) (Guard.cT (q := (!v_64)) (ltB rfl) rfl rfl) rfl (ltB rfl) (fun hq_58 => op_neA (ltB rfl) qa50 (by decide) ng50 (HasO.cnd (.tmp rfl) (andI (notT (notF (andL hq_58))) (andR hq_58))) (HasO.cnd (.tmp rfl) (andI (notT (notF (andL hq_58))) (andR hq_58))) hv_v_66) ?_
            refine JL.pre (Imp.norm (ρ' := [(10, .one (.val (PTR gb_33 0))), (16, .one (.val (S rB v_48))), (116, .one (.val (S rB v_64))), (119, bif (!v_64) then .one (.val (S rB v_65)) else .one .und), (122, bif ((!v_64) && v_65) then .one (.val (S rB v_66)) else .one .und)]) (js := [0]) rfl (.cons rfl (.cons rfl (.cons rfl (.cons rfl (.cons rfl .nil)))))) ?_
            refine JL.at ⟨[(10, .one (.val (PTR gb_33 0))), (16, .one (.val (S rB v_48))), (116, .one (.val (S rB v_64))), (119, bif (!v_64) then .one (.val (S rB v_65)) else .one .und), (122, bif ((!v_64) && v_65) then .one (.val (S rB v_66)) else .one .und)], [cvar gb_33 r_wire_Reader x_46], []⟩ ?_
            replace hx12 := lt1_inv hx12
            obtain ⟨v_67, hv_v_67, hx12⟩ := hx12
            refine JL.cnd (sv := .one (.val (S rB v_67))) (Guard.isF (ltB rfl) rfl rfl) rfl (ltB rfl) (fun hq_59 => op_pickCS (ltB rfl) (HasO.cnd (.tmp rfl) (notT (notF hq_59))) (fun hb60 => (HasO.cnd (.tmp rfl) (andI (notT (notF hq_59)) hb60))) (fun hb60 => .cB) hv_v_67) ?_
            replace hx12 := lt1_inv hx12
            obtain ⟨v_68, hv_v_68, hx12⟩ := hx12
            refine JL.cons rfl (op_pickCS (ltB rfl) (.tmp rfl) (fun hb61 => .cB) (fun hb61 => (HasO.cnd (.tmp rfl) (notT hb61))) hv_v_68) ?_
            refine JL.nil ?_
            replace hx12 := Option.some.inj hx12
            subst hx12
            exact JQ.join () (Imp.norm (js := [0]) rfl (.cons rfl (.cons rfl (.cons rfl .nil))))
      · refine JC.region ?_
        refine JL.cons rfl (op_move (ltB rfl) (.tmp rfl)) ?_
        replace hx7 := lt1_inv hx7
        obtain ⟨v_27, hv_v_27, hx7⟩ := hx7
        refine JL.cons rfl (op_cmpI (ltB rfl) (.tmp rfl) .cI (congrArg some hv_v_27)) ?_
        refine JL.cons rfl (op_move (ltB rfl) (.tmp rfl)) ?_
        refine JL.cnd (sv := .one (.val (S (rI .i64) a_4))) (Guard.isF (ltB rfl) rfl rfl) rfl (ltB rfl) (fun hq_8 => op_move (ltB rfl) (.tmp rfl)) ?_
        rcases iteB_inv hx7 with ⟨hc10, hx7⟩ | ⟨hc10, hx7⟩
        · refine JL.skip (.no rfl (ltB rfl) rfl hc10) (fun d h => by cases h; exact ltB rfl) ?_
          refine JL.skip (.no rfl (ltB rfl) rfl hc10) (fun d h => by cases h; exact ltB rfl) ?_
          refine JL.skip (.no rfl (ltB rfl) rfl hc10) (fun d h => by cases h; exact ltB rfl) ?_
          refine JL.cons rfl (op_pickT (ltB rfl) (.tmp rfl) hc10 .cB) ?_
          refine JL.nil ?_
          replace hx7 := Option.some.inj hx7
          subst hx7
          exact JQ.join () (Imp.norm (js := [0, 0, 2]) rfl (.cons rfl (.cons rfl (.cons rfl (.cons rfl (.cons rfl (.cons rfl .nil)))))))
        · refine JL.run (.yes rfl (ltB rfl) rfl hc10) (op_move (ltB rfl) (.tmp rfl)) ?_
          refine JL.run (.yes rfl (ltB rfl) rfl hc10) (op_lenH (ltB rfl) tu23 (.tmp rfl)) ?_
          refine JL.pre (Imp.norm (ρ' := [(0, .one (.val (S (rL (rU UInt8)) t_1))), (3, .one (.val (S (rI .i64) a_4))), (5, .one (.val (PTR gb_5 0))), (6, .one (.val (PTR gb_6 0))), (9, .one (.val (HDR go_25 0 (List.length x_24) gc_26))), (41, .one (.val (S rB v_27))), (42, bif (!v_27) then .one (.val (S (rI .i64) a_4)) else .one .und), (44, .one (.val (S (rI .i64) (List.length x_24 : Int))))]) (js := [0, 0, 2]) rfl (.cons rfl (.cons rfl (.cons rfl (.cons rfl (.cons rfl (.cons rfl (.cons rfl (.cons rfl .nil))))))))) ?_
          refine JL.at ⟨[(0, .one (.val (S (rL (rU UInt8)) t_1))), (3, .one (.val (S (rI .i64) a_4))), (5, .one (.val (PTR gb_5 0))), (6, .one (.val (PTR gb_6 0))), (9, .one (.val (HDR go_25 0 (List.length x_24) gc_26))), (41, .one (.val (S rB v_27))), (42, bif (!v_27) then .one (.val (S (rI .i64) a_4)) else .one .und), (44, .one (.val (S (rI .i64) (List.length x_24 : Int))))], [cvar gb_5 r_api_Dot a_2, cvar gb_6 (rV 16 (rU UInt64)) a_3, cown go_25 (rU UInt8) x_24 0 gc_26], []⟩ ?_
          replace hx7 := lt1_inv hx7
          obtain ⟨v_28, hv_v_28, hx7⟩ := hx7
          refine JL.run (.yes rfl (ltB rfl) rfl hc10) (op_cmpI (ltB rfl) (HasO.cnd (.tmp rfl) (notT hc10)) (.tmp rfl) (congrArg some hv_v_28)) ?_
          refine JL.cons rfl (op_pickF (ltB rfl) (.tmp rfl) hc10 (.tmp rfl)) ?_
          refine JL.nil ?_
          replace hx7 := Option.some.inj hx7
          subst hx7
          exact JQ.join () (Imp.norm (js := [0, 0, 0]) rfl (.cons rfl (.cons rfl (.cons rfl (.cons rfl (.cons rfl (.cons rfl .nil)))))))
  · refine JC.region ?_
    refine JL.cons rfl (op_move (ltB rfl) (.tmp rfl)) ?_
    refine JL.cons rfl (op_lenL (ltB rfl) tu23 (.tmp rfl)) ?_
    replace hx1 := lt1_inv hx1
    obtain ⟨v_7, hv_v_7, hx1⟩ := hx1
    refine JL.cons rfl (op_cmpI (ltB rfl) (.tmp rfl) .cI (congrArg some hv_v_7)) ?_
    refine JL.cons rfl (op_move (ltB rfl) (.tmp rfl)) ?_
    rcases iteB_inv hx1 with ⟨hc3, hx1⟩ | ⟨hc3, hx1⟩
    · refine JL.skip (.no rfl (ltB rfl) rfl hc3) (fun d h => by cases h; exact ltB rfl) ?_
      refine JL.skip (.no rfl (ltB rfl) rfl hc3) (fun d h => by cases h; exact ltB rfl) ?_
      refine JL.skip (.no rfl (ltB rfl) rfl hc3) (fun d h => by cases h; exact ltB rfl) ?_
      refine JL.cons rfl (op_pickT (ltB rfl) (.tmp rfl) hc3 .cB) ?_
      refine JL.pre (Imp.sub (ρ' := [(0, .one (.val (S (rL (rU UInt8)) t_1))), (3, .one (.val (S (rI .i64) a_4))), (5, .one (.val (PTR gb_5 0))), (6, .one (.val (PTR gb_6 0))), (24, .one (.val (S rB true)))]) (.cons rfl (.cons rfl (.cons rfl (.cons rfl (.cons rfl .nil)))))) ?_
      refine JL.at ⟨[(0, .one (.val (S (rL (rU UInt8)) t_1))), (3, .one (.val (S (rI .i64) a_4))), (5, .one (.val (PTR gb_5 0))), (6, .one (.val (PTR gb_6 0))), (24, .one (.val (S rB true)))], [cvar gb_5 r_api_Dot a_2, cvar gb_6 (rV 16 (rU UInt64)) a_3], []⟩ ?_
      refine JL.cons rfl (op_move (ltB rfl) (.tmp rfl)) ?_
      refine JL.skip (.no rfl (ltB rfl) rfl rfl) (fun d h => by cases h; exact ltB rfl) ?_
      refine JL.skip (.no rfl (ltB rfl) rfl rfl) (fun d h => by cases h; exact ltB rfl) ?_
      refine JL.skip (.no rfl (ltB rfl) rfl rfl) (fun d h => by cases h; exact ltB rfl) ?_
      refine JL.cons rfl (op_pickT (ltB rfl) (.tmp rfl) rfl .cB) ?_
      refine JL.nil ?_
      replace hx1 := Option.some.inj hx1
      subst hx1
      exact JQ.join () (Imp.norm (js := [0, 0]) rfl (.cons rfl (.cons rfl (.cons rfl (.cons rfl (.cons rfl .nil))))))
    · refine JL.run (.yes rfl (ltB rfl) rfl hc3) (op_fieldAddr (off := 0) (ltB rfl) tf48_0 (.tmp rfl)) ?_
      refine JL.pre (Imp.sub (ρ' := [(0, .one (.val (S (rL (rU UInt8)) t_1))), (3, .one (.val (S (rI .i64) a_4))), (5, .one (.val (PTR gb_5 0))), (6, .one (.val (PTR gb_6 0))), (20, .one (.val (S rB v_7))), (21, .one (.val (PTR gb_5 (0 + 0))))]) (.cons rfl (.cons rfl (.cons rfl (.cons rfl (.cons rfl (.cons rfl .nil))))))) ?_
      refine JL.at ⟨[(0, .one (.val (S (rL (rU UInt8)) t_1))), (3, .one (.val (S (rI .i64) a_4))), (5, .one (.val (PTR gb_5 0))), (6, .one (.val (PTR gb_6 0))), (20, .one (.val (S rB v_7))), (21, .one (.val (PTR gb_5 (0 + 0))))], [cvar gb_5 r_api_Dot a_2, cvar gb_6 (rV 16 (rU UInt64)) a_3], []⟩ ?_
      refine JL.run (.yes rfl (ltB rfl) rfl hc3) (op_loadS (j := 0) (ltB rfl) tS3 (.tmp rfl) rfl (Comp.trans (Comp.self r_api_Dot a_2) (comp_api_Dot_Region a_2) (Nat.le_of_ble_eq_true rfl)) rfl rfl) ?_
      replace hx1 := lt1_inv hx1
      obtain ⟨v_8, hv_v_8, hx1⟩ := hx1
      refine JL.run (.yes rfl (ltB rfl) rfl hc3) (op_cmpI (ltB rfl) (.tmp rfl) .cI (congrArg some hv_v_8)) ?_
      refine JL.cons rfl (op_pickF (ltB rfl) (.tmp rfl) hc3 (.tmp rfl)) ?_
      refine JL.cons rfl (op_move (ltB rfl) (.tmp rfl)) ?_
      rcases iteB_inv hx1 with ⟨hc5, hx1⟩ | ⟨hc5, hx1⟩
      · refine JL.skip (.no rfl (ltB rfl) rfl hc5) (fun d h => by cases h; exact ltB rfl) ?_
        refine JL.skip (.no rfl (ltB rfl) rfl hc5) (fun d h => by cases h; exact ltB rfl) ?_
        refine JL.skip (.no rfl (ltB rfl) rfl hc5) (fun d h => by cases h; exact ltB rfl) ?_
        refine JL.cons rfl (op_pickT (ltB rfl) (.tmp rfl) hc5 .cB) ?_
        refine JL.nil ?_
        replace hx1 := Option.some.inj hx1
        subst hx1
        exact JQ.join () (Imp.norm (js := [0, 0]) rfl (.cons rfl (.cons rfl (.cons rfl (.cons rfl (.cons rfl .nil))))))
      · refine JL.run (.yes rfl (ltB rfl) rfl hc5) (op_fieldAddr (off := 0) (ltB rfl) tf48_0 (.tmp rfl)) ?_
        refine JL.run (.yes rfl (ltB rfl) rfl hc5) (op_loadS (j := 0) (ltB rfl) tS3 (.tmp rfl) rfl (Comp.trans (Comp.self r_api_Dot a_2) (comp_api_Dot_Region a_2) (Nat.le_of_ble_eq_true rfl)) rfl rfl) ?_
        refine JL.pre (Imp.sub (ρ' := [(0, .one (.val (S (rL (rU UInt8)) t_1))), (3, .one (.val (S (rI .i64) a_4))), (5, .one (.val (PTR gb_5 0))), (6, .one (.val (PTR gb_6 0))), (25, .one (.val (S rB v_8))), (27, .one (.val (S (rI .i64) a_2.Region)))]) (.cons rfl (.cons rfl (.cons rfl (.cons rfl (.cons rfl (.cons rfl .nil))))))) ?_
        refine JL.at ⟨[(0, .one (.val (S (rL (rU UInt8)) t_1))), (3, .one (.val (S (rI .i64) a_4))), (5, .one (.val (PTR gb_5 0))), (6, .one (.val (PTR gb_6 0))), (25, .one (.val (S rB v_8))), (27, .one (.val (S (rI .i64) a_2.Region)))], [cvar gb_5 r_api_Dot a_2, cvar gb_6 (rV 16 (rU UInt64)) a_3], []⟩ ?_
        replace hx1 := lt1_inv hx1
        obtain ⟨v_9, hv_v_9, hx1⟩ := hx1
        refine JL.run (.yes rfl (ltB rfl) rfl hc5) (op_cmpI (ltB rfl) (.tmp rfl) .cI (congrArg some hv_v_9)) ?_
        refine JL.cons rfl (op_pickF (ltB rfl) (.tmp rfl) hc5 (.tmp rfl)) ?_
        refine JL.nil ?_
        replace hx1 := Option.some.inj hx1
        subst hx1
        exact JQ.join () (Imp.norm (js := [0, 0]) rfl (.cons rfl (.cons rfl (.cons rfl (.cons rfl (.cons rfl .nil))))))

end Go.Proofs.Ytkbkdfcakpbojaa
