/- Walks. -/
import Derived.Test.YtkbkdfcakpbojaaT
import Derived.Test.YtkbkdfcakpbojaaW0
import Derived.Test.YtkbkdfcakpbojaaW10
import Derived.Test.YtkbkdfcakpbojaaW12
import Derived.Test.YtkbkdfcakpbojaaW13
import Derived.Test.YtkbkdfcakpbojaaW3
import Derived.Test.YtkbkdfcakpbojaaW9
namespace Go.Proofs.Ytkbkdfcakpbojaa
open Go Fw
set_option linter.unusedVariables false
set_option maxRecDepth 100000
set_option maxHeartbeats 4000000

theorem sim_law01_WireParts (k : Nat) (t_1 : api_Dot) (a_2 : (Vector UInt64 16)) (a_3 : (List (List UInt8))) (a_4 : (List UInt8)) (r : Bool) (hm : law01_WireParts k t_1 a_2 a_3 a_4 = some r) : Sim Try.prog 6 [A r_api_Dot t_1, A (rV 16 (rU UInt64)) a_2, S (rL (rL (rU UInt8))) a_3, S (rL (rU UInt8)) a_4] [] (γ := Unit) (fun q => []) (fun q => .one (.val (S rB r))) := by
  unfold law01_WireParts at hm
  refine Sim.of Try.func6 rfl rfl (Nat.le_of_ble_eq_true rfl) (fun e0 w0 => ?_)
  refine JC.at ⟨[(0, .one (.val (A r_api_Dot t_1))), (1, .one (.val (A (rV 16 (rU UInt64)) a_2))), (2, .one (.val (S (rL (rL (rU UInt8))) a_3))), (3, .one (.val (S (rL (rU UInt8)) a_4)))], [], []⟩ ?_
  refine JC.seq ?_
  refine JC.region ?_
  refine JL.consX rfl (op_boxA (ltB rfl) (.tmp rfl)) (fun q => ?_)
  obtain ⟨gb_5, hqq⟩ : ∃ z, z = q := ⟨_, rfl⟩
  subst hqq
  refine JL.pre (Imp.sub (ρ' := [(1, .one (.val (A (rV 16 (rU UInt64)) a_2))), (2, .one (.val (S (rL (rL (rU UInt8))) a_3))), (3, .one (.val (S (rL (rU UInt8)) a_4))), (4, .one (.val (PTR gb_5 0)))]) (.cons rfl (.cons rfl (.cons rfl (.cons rfl .nil))))) ?_
  refine JL.at ⟨[(1, .one (.val (A (rV 16 (rU UInt64)) a_2))), (2, .one (.val (S (rL (rL (rU UInt8))) a_3))), (3, .one (.val (S (rL (rU UInt8)) a_4))), (4, .one (.val (PTR gb_5 0)))], [cvar gb_5 r_api_Dot t_1], []⟩ ?_
  refine JL.consX rfl (op_boxA (ltB rfl) (.tmp rfl)) (fun q => ?_)
  obtain ⟨gb_6, hqq⟩ : ∃ z, z = q := ⟨_, rfl⟩
  subst hqq
  refine JL.pre (Imp.sub (ρ' := [(2, .one (.val (S (rL (rL (rU UInt8))) a_3))), (3, .one (.val (S (rL (rU UInt8)) a_4))), (4, .one (.val (PTR gb_5 0))), (5, .one (.val (PTR gb_6 0)))]) (.cons rfl (.cons rfl (.cons rfl (.cons rfl .nil))))) ?_
  refine JL.at ⟨[(2, .one (.val (S (rL (rL (rU UInt8))) a_3))), (3, .one (.val (S (rL (rU UInt8)) a_4))), (4, .one (.val (PTR gb_5 0))), (5, .one (.val (PTR gb_6 0)))], [cvar gb_5 r_api_Dot t_1, cvar gb_6 (rV 16 (rU UInt64)) a_2], []⟩ ?_
  refine JL.cons rfl (op_assign (ltB rfl) .cB) ?_
  refine JL.nil ?_
  refine JQ.then ?_
  refine JC.seq ?_
  obtain ⟨x_10, hx1, hq1⟩ := bnd_inv hm
  refine JC.seqJ (γ := Unit) (stj := fun q => ⟨[(2, .one (.val (S (rL (rL (rU UInt8))) a_3))), (3, .one (.val (S (rL (rU UInt8)) a_4))), (4, .one (.val (PTR gb_5 0))), (5, .one (.val (PTR gb_6 0))), (19, .one (.val (S rB x_10)))], [cvar gb_5 r_api_Dot t_1, cvar gb_6 (rV 16 (rU UInt64)) a_2], []⟩) (fun q => ?_) ?_
  · obtain _ := q
    refine JC.at ⟨[(2, .one (.val (S (rL (rL (rU UInt8))) a_3))), (3, .one (.val (S (rL (rU UInt8)) a_4))), (4, .one (.val (PTR gb_5 0))), (5, .one (.val (PTR gb_6 0))), (19, .one (.val (S rB x_10)))], [cvar gb_5 r_api_Dot t_1, cvar gb_6 (rV 16 (rU UInt64)) a_2], []⟩ ?_
    rcases iteB_inv hq1 with ⟨hc6, hq1⟩ | ⟨hc6, hq1⟩
    · refine JC.condT (.tmp rfl) hc6 ?_
      refine JC.seq ?_
      refine JC.region ?_
      replace hq1 := bnd_inv hq1
      obtain ⟨v_11, hv_v_11, hq1⟩ := hq1
      refine JL.consX rfl (op_call (js := []) (ltD rfl) cl9 (sim_law01_known k v_11 hv_v_11) .func .nil rfl) (fun _ => ?_)
      refine JL.cons rfl (op_assign (ltB rfl) (.tmp rfl)) ?_
      refine JL.nil ?_
      refine JQ.then ?_
      refine JC.ret ?_
      refine JQ.outR ?_
      replace hq1 := Option.some.inj hq1
      subst hq1
      exact JQ.done (js := []) (ss := [.val (S rB v_11)]) () (.inl rfl) (.nil rfl) rfl (.cons (.tmp rfl) .nil) rfl rfl rfl
    · refine JC.condF (.tmp rfl) hc6 ?_
      refine JC.skip ?_
      refine JQ.then ?_
      refine JC.seq ?_
      refine JC.region ?_
      refine JL.cons rfl (op_loadA (j := 0) (ltB rfl) tA48 (.tmp rfl) rfl (Comp.self r_api_Dot t_1) rfl) ?_
      replace hq1 := bnd_inv hq1
      obtain ⟨⟨v_12, v_13⟩, hv_v_12, hq1⟩ := hq1
      refine JL.consX rfl (op_call (js := []) (ltD rfl) cl30 (sim_wire_Dot k t_1 (v_12, v_13) hv_v_12) .func (.cons (.tmp rfl) .nil) rfl) (fun q => ?_)
      obtain ⟨go_14, gc_15⟩ := q
      refine JL.pre (Imp.sub (ρ' := [(2, .one (.val (S (rL (rL (rU UInt8))) a_3))), (3, .one (.val (S (rL (rU UInt8)) a_4))), (4, .one (.val (PTR gb_5 0))), (5, .one (.val (PTR gb_6 0))), (23, .tup [.val (HDR go_14 0 (List.length v_12) gc_15), .val (S (rI .i64) v_13)])]) (.cons rfl (.cons rfl (.cons rfl (.cons rfl (.cons rfl .nil)))))) ?_
      refine JL.at ⟨[(2, .one (.val (S (rL (rL (rU UInt8))) a_3))), (3, .one (.val (S (rL (rU UInt8)) a_4))), (4, .one (.val (PTR gb_5 0))), (5, .one (.val (PTR gb_6 0))), (23, .tup [.val (HDR go_14 0 (List.length v_12) gc_15), .val (S (rI .i64) v_13)])], [cown go_14 (rU UInt8) v_12 0 gc_15, cvar gb_5 r_api_Dot t_1, cvar gb_6 (rV 16 (rU UInt64)) a_2], []⟩ ?_
      refine JL.cons rfl (op_move (ltB rfl) (.tmp rfl)) ?_
      refine JL.cons rfl (op_extract (i := 0) (ltB rfl) (.tmp rfl) rfl) ?_
      refine JL.cons rfl (op_extract (i := 1) (ltB rfl) (.tmp rfl) rfl) ?_
      refine JL.cons rfl (op_assign (ltB rfl) (.tmp rfl)) ?_
      refine JL.cons rfl (op_assign (ltB rfl) (.tmp rfl)) ?_
      refine JL.nil ?_
      refine JQ.then ?_
      obtain ⟨tv7, hx7, hq7⟩ := bnd_inv hq1
      refine JC.seqK (α := Unit) (γ := Unit) (stj := fun v q => ⟨[(2, .one (.val (S (rL (rL (rU UInt8))) a_3))), (3, .one (.val (S (rL (rU UInt8)) a_4))), (5, .one (.val (PTR gb_6 0)))], [cvar gb_6 (rV 16 (rU UInt64)) a_2], []⟩) (p := fun v => tv7 = (.inl v)) (fun v q hv => ?_) ?_
      · subst hv
        skip
        obtain _ := q
        dsimp only at hq7
        refine JC.at ⟨[(2, .one (.val (S (rL (rL (rU UInt8))) a_3))), (3, .one (.val (S (rL (rU UInt8)) a_4))), (5, .one (.val (PTR gb_6 0)))], [cvar gb_6 (rV 16 (rU UInt64)) a_2], []⟩ ?_
        refine JC.seq ?_
        refine JC.region ?_
        refine JL.cons rfl (op_move (ltB rfl) (.tmp rfl)) ?_
        replace hq7 := bnd_inv hq7
        obtain ⟨⟨v_32, v_33⟩, hv_v_32, hq7⟩ := hq7
        refine JL.consX rfl (op_call (js := []) (ltD rfl) cl31 (sim_wire_Blob k a_4 (v_32, v_33) hv_v_32) .func (.cons (.tmp rfl) .nil) rfl) (fun q => ?_)
        obtain ⟨go_34, gc_35⟩ := q
        refine JL.pre (Imp.sub (ρ' := [(2, .one (.val (S (rL (rL (rU UInt8))) a_3))), (3, .one (.val (S (rL (rU UInt8)) a_4))), (5, .one (.val (PTR gb_6 0))), (55, .tup [.val (HDR go_34 0 (List.length v_32) gc_35), .val (S (rI .i64) v_33)])]) (.cons rfl (.cons rfl (.cons rfl (.cons rfl .nil))))) ?_
        refine JL.at ⟨[(2, .one (.val (S (rL (rL (rU UInt8))) a_3))), (3, .one (.val (S (rL (rU UInt8)) a_4))), (5, .one (.val (PTR gb_6 0))), (55, .tup [.val (HDR go_34 0 (List.length v_32) gc_35), .val (S (rI .i64) v_33)])], [cown go_34 (rU UInt8) v_32 0 gc_35, cvar gb_6 (rV 16 (rU UInt64)) a_2], []⟩ ?_
        refine JL.cons rfl (op_move (ltB rfl) (.tmp rfl)) ?_
        refine JL.cons rfl (op_extract (i := 0) (ltB rfl) (.tmp rfl) rfl) ?_
        refine JL.cons rfl (op_extract (i := 1) (ltB rfl) (.tmp rfl) rfl) ?_
        refine JL.cons rfl (op_assign (ltB rfl) (.tmp rfl)) ?_
        refine JL.cons rfl (op_assign (ltB rfl) (.tmp rfl)) ?_
        refine JL.nil ?_
        refine JQ.then ?_
        obtain ⟨tv24, hx24, hq24⟩ := bnd_inv hq7
        refine JC.seqK (α := Unit) (γ := Unit) (stj := fun v q => ⟨[(2, .one (.val (S (rL (rL (rU UInt8))) a_3))), (5, .one (.val (PTR gb_6 0)))], [cvar gb_6 (rV 16 (rU UInt64)) a_2], []⟩) (p := fun v => tv24 = (.inl v)) (fun v q hv => ?_) ?_
        · subst hv
          skip
          obtain _ := q
          dsimp only at hq24
          refine JC.at ⟨[(2, .one (.val (S (rL (rL (rU UInt8))) a_3))), (5, .one (.val (PTR gb_6 0)))], [cvar gb_6 (rV 16 (rU UInt64)) a_2], []⟩ ?_
          obtain ⟨x_66, hx38, hq38⟩ := bnd_inv hq24
          refine JC.seqJ (γ := Unit) (stj := fun q => ⟨[(8, .one (.val (S rB x_66)))], [], []⟩) (fun q => ?_) ?_
          · obtain _ := q
            refine JC.at ⟨[(8, .one (.val (S rB x_66)))], [], []⟩ ?_
            refine JC.ret ?_
            replace hq38 := Option.some.inj hq38
            subst hq38
            exact JQ.done (js := []) (ss := [.val (S rB x_66)]) () (.inl rfl) (.nil rfl) rfl (.cons (.tmp rfl) .nil) rfl rfl rfl
          · replace hx38 := bnd_inv hx38
            obtain ⟨v_50, hv_v_50, hx38⟩ := hx38
            replace hx38 := bnd_inv hx38
            obtain ⟨v_53, hv_v_53, hx38⟩ := hx38
            replace hx38 := lt1_inv hx38
            obtain ⟨v_56, hv_v_56, hx38⟩ := hx38
            rcases iteB_inv hx38 with ⟨hc41, hx38⟩ | ⟨hc41, hx38⟩
            · replace hx38 := bnd_inv hx38
              obtain ⟨v_57, hv_v_57, hx38⟩ := hx38
              replace hx38 := bnd_inv hx38
              obtain ⟨v_60, hv_v_60, hx38⟩ := hx38
              replace hx38 := lt1_inv hx38
              obtain ⟨v_63, hv_v_63, hx38⟩ := hx38
              replace hx38 := bnd_inv hx38
              obtain ⟨v_64, hv_v_64, hx38⟩ := hx38
              replace hx38 := lt1_inv hx38
              obtain ⟨v_65, hv_v_65, hx38⟩ := hx38
              refine JC.anyE (base := [(2, .one (.val (S (rL (rL (rU UInt8))) a_3))), (5, .one (.val (PTR gb_6 0)))])
                  (fs := fun γ => [⟨some 80, .one (.val (A (rV 16 (rU UInt64)) a_2))⟩, ⟨some 81, .one (.val (HDR (deo (γ 1 0)) 0 (List.length v_50) (γ 1 1)))⟩, ⟨some 82, .one (.val (S rS v_50))⟩, ⟨some 83, .one (.val (A (rV 16 (rU UInt64)) a_2))⟩, ⟨some 84, .one (.val (HDR (deo (γ 4 0)) 0 (List.length v_53) (γ 4 1)))⟩, ⟨some 85, .one (.val (S rS v_53))⟩, ⟨some 86, .one (.val (S rB v_56))⟩, ⟨some 87, .one (.val (S rB v_56))⟩, ⟨some 88, bif v_56 then .one (.val (S (rL (rL (rU UInt8))) a_3)) else .one .und⟩, ⟨some 89, .one (.val (HDR (deo (γ 9 0)) 0 (List.length v_57) (γ 9 1)))⟩, ⟨some 90, .one (.val (S rS v_57))⟩, ⟨some 91, .one (.val (S (rL (rL (rU UInt8))) a_3))⟩, ⟨some 92, .one (.val (HDR (deo (γ 12 0)) 0 (List.length v_60) (γ 12 1)))⟩, ⟨some 93, .one (.val (S rS v_60))⟩, ⟨some 94, .one (.val (S rB v_63))⟩, ⟨some 95, .one (.val (S rB v_63))⟩, ⟨some 96, .one (.val (S rB v_63))⟩, ⟨some 97, bif v_63 then .one (.val (S rB v_64)) else .one .und⟩, ⟨some 98, .one (.val (S rB v_65))⟩, ⟨some 8, .one (.val (S rB v_65))⟩])
                  (rs := fun γ => [⟨cvar gb_6 (rV 16 (rU UInt64)) a_2, none, none, [0, 3]⟩, ⟨cown (deo (γ 1 0)) (rU UInt8) v_50 0 (γ 1 1), (some 1), none, [2]⟩, ⟨cown (deo (γ 4 0)) (rU UInt8) v_53 0 (γ 4 1), (some 4), none, [5]⟩, ⟨cown (deo (γ 9 0)) (rU UInt8) v_57 0 (γ 9 1), (some 9), none, [10]⟩, ⟨cown (deo (γ 12 0)) (rU UInt8) v_60 0 (γ 12 1), (some 12), none, [13]⟩])
                  (ds := [80, 81, 82, 83, 84, 85, 86, 87, 88, 89, 90, 91, 92, 93, 94, 95, 96, 97, 98, 8]) (bs := [2, 5]) (afts := [[], [1, 2, 4, 5, 6, 7, 8, 9, 10, 11, 12, 13, 14, 15, 16, 17, 18, 19], [], [], [4, 5, 6, 7, 8, 9, 10, 11, 12, 13, 14, 15, 16, 17, 18, 19], [], [], [], [], [9, 10, 12, 13, 14, 15, 16, 17, 18, 19], [], [], [12, 13, 14, 15, 16, 17, 18, 19], [], [], [], [], [], [], []]) (js := [0]) mixed (.cons rfl (.cons rfl .nil)) (fun _ => rfl)
                  (by
      refine DSteps.cons (j := 1) rfl (fun _ => rfl) (.run (fun γ ρ B hb hd => ⟨.none, OpStep.at ⟨ρ, (cvar gb_6 (rV 16 (rU UInt64)) a_2) :: B, _⟩ (setO ⟨ρ, (cvar gb_6 (rV 16 (rU UInt64)) a_2) :: B, _⟩ (some 80) (.one (.val (A (rV 16 (rU UInt64)) a_2)))) (op_loadA (j := 0) (ltB rfl) tA50 (.tmp (hb 5 _ rfl)) rfl (Comp.self (rV 16 (rU UInt64)) a_2) rfl)⟩)) ?_
      refine DSteps.cons (j := 2) rfl (fun _ => rfl) (.runX (fun _ _ => rfl) (fun γ ρ B hb hd => ⟨.none, OpX.ghost (γ := Option Nat × Nat) (st' := fun q => setO ⟨ρ, (cown q.1 (rU UInt8) v_50 0 q.2) :: B, _⟩ (some 81) (.one (.val (HDR q.1 0 (List.length v_50) q.2)))) (fun q c => bif Nat.beq c 0 then eno q.1 else q.2) (op_call (js := []) (ltD rfl) cl32 (sim_wire_Vector k a_2 v_50 hv_v_50) .func (.cons (.tmp (hdl hd 0 80 rfl (by decide +kernel))) .nil) rfl) (fun q => by obtain ⟨q0, q1⟩ := q; cases q0 <;> exact Imp.refl)⟩) (fun _ _ => rfl) (fun _ _ => rfl)) ?_
      refine DSteps.cons (j := 3) rfl (fun _ => rfl) (.run (fun γ ρ B hb hd => ⟨.none, OpStep.at ⟨ρ, (cown (deo (γ 1 0)) (rU UInt8) v_50 0 (γ 1 1)) :: B, _⟩ (setO ⟨ρ, (cown (deo (γ 1 0)) (rU UInt8) v_50 0 (γ 1 1)) :: B, _⟩ (some 82) (.one (.val (S rS v_50)))) (op_convOS (j := 0) (ltB rfl) tu23 tu5 tu9 rfl (.tmp (hdl hd 1 81 rfl (by decide +kernel))))⟩)) ?_
      refine DSteps.cons (j := 4) rfl (fun _ => rfl) (.run (fun γ ρ B hb hd => ⟨.none, OpStep.at ⟨ρ, (cvar gb_6 (rV 16 (rU UInt64)) a_2) :: B, _⟩ (setO ⟨ρ, (cvar gb_6 (rV 16 (rU UInt64)) a_2) :: B, _⟩ (some 83) (.one (.val (A (rV 16 (rU UInt64)) a_2)))) (op_loadA (j := 0) (ltB rfl) tA50 (.tmp (hb 5 _ rfl)) rfl (Comp.self (rV 16 (rU UInt64)) a_2) rfl)⟩)) ?_
      refine DSteps.cons (j := 5) rfl (fun _ => rfl) (.runX (fun _ _ => rfl) (fun γ ρ B hb hd => ⟨.none, OpX.ghost (γ := Option Nat × Nat) (st' := fun q => setO ⟨ρ, (cown q.1 (rU UInt8) v_53 0 q.2) :: B, _⟩ (some 84) (.one (.val (HDR q.1 0 (List.length v_53) q.2)))) (fun q c => bif Nat.beq c 0 then eno q.1 else q.2) (op_call (js := []) (ltD rfl) cl25 (sim_ref01_Vector k a_2 v_53 hv_v_53) .func (.cons (.tmp (hdl hd 3 83 rfl (by decide +kernel))) .nil) rfl) (fun q => by obtain ⟨q0, q1⟩ := q; cases q0 <;> exact Imp.refl)⟩) (fun _ _ => rfl) (fun _ _ => rfl)) ?_
      refine DSteps.cons (j := 6) rfl (fun _ => rfl) (.run (fun γ ρ B hb hd => ⟨.none, OpStep.at ⟨ρ, (cown (deo (γ 4 0)) (rU UInt8) v_53 0 (γ 4 1)) :: B, _⟩ (setO ⟨ρ, (cown (deo (γ 4 0)) (rU UInt8) v_53 0 (γ 4 1)) :: B, _⟩ (some 85) (.one (.val (S rS v_53)))) (op_convOS (j := 0) (ltB rfl) tu23 tu5 tu9 rfl (.tmp (hdl hd 4 84 rfl (by decide +kernel))))⟩)) ?_
      refine DSteps.cons (j := 7) rfl (fun _ => rfl) (.run (fun γ ρ B hb hd => ⟨.none, OpStep.at ⟨ρ, B, _⟩ (setO ⟨ρ, B, _⟩ (some 86) (.one (.val (S rB v_56)))) (op_cmpS (ltB rfl) (.tmp (hdl hd 2 82 rfl (by decide +kernel))) (.tmp (hdl hd 5 85 rfl (by decide +kernel))) (congrArg some hv_v_56))⟩)) ?_
      refine DSteps.cons (j := 8) rfl (fun _ => rfl) (.run (fun γ ρ B hb hd => ⟨.none, OpStep.at ⟨ρ, B, _⟩ (setO ⟨ρ, B, _⟩ (some 87) (.one (.val (S rB v_56)))) (op_move (ltB rfl) (.tmp (hdl hd 6 86 rfl (by decide +kernel))))⟩)) ?_
      refine DSteps.cons (j := 9) rfl (fun _ => rfl) (.cnd (q := v_56) (sv := fun γ => .one (.val (S (rL (rL (rU UInt8))) a_3))) (fun _ => rfl) (fun _ => rfl) (fun d h => by cases h; exact ltB rfl) (fun _ => rfl) (fun γ ρ B hb hd => ⟨(Guard.isT (ltB rfl) rfl (hdl hd 7 87 rfl (by decide +kernel))), fun hq_39 => OpStep.at ⟨ρ, B, _⟩ (setO ⟨ρ, B, _⟩ (some 88) (.one (.val (S (rL (rL (rU UInt8))) a_3)))) (op_move (ltB rfl) (.tmp (hb 2 _ rfl)))⟩)) ?_
      refine DSteps.cons (j := 10) rfl (fun _ => rfl) (.runX (fun _ _ => rfl) (fun γ ρ B hb hd => ⟨.yes rfl (ltB rfl) (hdl hd 7 87 rfl (by decide +kernel)) hc41, OpX.ghost (γ := Option Nat × Nat) (st' := fun q => setO ⟨ρ, (cown q.1 (rU UInt8) v_57 0 q.2) :: B, _⟩ (some 89) (.one (.val (HDR q.1 0 (List.length v_57) q.2)))) (fun q c => bif Nat.beq c 0 then eno q.1 else q.2) (op_call (js := []) (ltD rfl) cl33 (sim_wire_Join k a_3 v_57 hv_v_57) .func (.cons (HasO.cnd (.tmp (hdl hd 8 88 rfl (by decide +kernel))) hc41) .nil) rfl) (fun q => by obtain ⟨q0, q1⟩ := q; cases q0 <;> exact Imp.refl)⟩) (fun _ _ => rfl) (fun _ _ => rfl)) ?_
      refine DSteps.cons (j := 11) rfl (fun _ => rfl) (.run (fun γ ρ B hb hd => ⟨.yes rfl (ltB rfl) (hdl hd 7 87 rfl (by decide +kernel)) hc41, OpStep.at ⟨ρ, (cown (deo (γ 9 0)) (rU UInt8) v_57 0 (γ 9 1)) :: B, _⟩ (setO ⟨ρ, (cown (deo (γ 9 0)) (rU UInt8) v_57 0 (γ 9 1)) :: B, _⟩ (some 90) (.one (.val (S rS v_57)))) (op_convOS (j := 0) (ltB rfl) tu23 tu5 tu9 rfl (.tmp (hdl hd 9 89 rfl (by decide +kernel))))⟩)) ?_
      refine DSteps.cons (j := 12) rfl (fun _ => rfl) (.run (fun γ ρ B hb hd => ⟨.yes rfl (ltB rfl) (hdl hd 7 87 rfl (by decide +kernel)) hc41, OpStep.at ⟨ρ, B, _⟩ (setO ⟨ρ, B, _⟩ (some 91) (.one (.val (S (rL (rL (rU UInt8))) a_3)))) (op_move (ltB rfl) (.tmp (hb 2 _ rfl)))⟩)) ?_
      refine DSteps.cons (j := 13) rfl (fun _ => rfl) (.runX (fun _ _ => rfl) (fun γ ρ B hb hd => ⟨.yes rfl (ltB rfl) (hdl hd 7 87 rfl (by decide +kernel)) hc41, OpX.ghost (γ := Option Nat × Nat) (st' := fun q => setO ⟨ρ, (cown q.1 (rU UInt8) v_60 0 q.2) :: B, _⟩ (some 92) (.one (.val (HDR q.1 0 (List.length v_60) q.2)))) (fun q c => bif Nat.beq c 0 then eno q.1 else q.2) (op_call (js := []) (ltD rfl) cl34 (sim_ref01_Join k a_3 v_60 hv_v_60) .func (.cons (.tmp (hdl hd 11 91 rfl (by decide +kernel))) .nil) rfl) (fun q => by obtain ⟨q0, q1⟩ := q; cases q0 <;> exact Imp.refl)⟩) (fun _ _ => rfl) (fun _ _ => rfl)) ?_
      refine DSteps.cons (j := 14) rfl (fun _ => rfl) (.run (fun γ ρ B hb hd => ⟨.yes rfl (ltB rfl) (hdl hd 7 87 rfl (by decide +kernel)) hc41, OpStep.at ⟨ρ, (cown (deo (γ 12 0)) (rU UInt8) v_60 0 (γ 12 1)) :: B, _⟩ (setO ⟨ρ, (cown (deo (γ 12 0)) (rU UInt8) v_60 0 (γ 12 1)) :: B, _⟩ (some 93) (.one (.val (S rS v_60)))) (op_convOS (j := 0) (ltB rfl) tu23 tu5 tu9 rfl (.tmp (hdl hd 12 92 rfl (by decide +kernel))))⟩)) ?_
      refine DSteps.cons (j := 15) rfl (fun _ => rfl) (.run (fun γ ρ B hb hd => ⟨.yes rfl (ltB rfl) (hdl hd 7 87 rfl (by decide +kernel)) hc41, OpStep.at ⟨ρ, B, _⟩ (setO ⟨ρ, B, _⟩ (some 94) (.one (.val (S rB v_63)))) (op_cmpS (ltB rfl) (.tmp (hdl hd 10 90 rfl (by decide +kernel))) (.tmp (hdl hd 13 93 rfl (by decide +kernel))) (congrArg some hv_v_63))⟩)) ?_
      refine DSteps.cons (j := 16) rfl (fun _ => rfl) (.run (fun γ ρ B hb hd => ⟨.none, OpStep.at ⟨ρ, B, _⟩ (setO ⟨ρ, B, _⟩ (some 95) (.one (.val (S rB v_63)))) (op_pickT (ltB rfl) (.tmp (hdl hd 7 87 rfl (by decide +kernel))) hc41 (.tmp (hdl hd 14 94 rfl (by decide +kernel))))⟩)) ?_
      refine DSteps.cons (j := 17) rfl (fun _ => rfl) (.run (fun γ ρ B hb hd => ⟨.none, OpStep.at ⟨ρ, B, _⟩ (setO ⟨ρ, B, _⟩ (some 96) (.one (.val (S rB v_63)))) (op_move (ltB rfl) (.tmp (hdl hd 15 95 rfl (by decide +kernel))))⟩)) ?_
      refine DSteps.cons (j := 18) rfl (fun _ => rfl) (.cnd (q := v_63) (sv := fun γ => .one (.val (S rB v_64))) (fun _ => rfl) (fun _ => rfl) (fun d h => by cases h; exact ltB rfl) (fun _ => rfl) (fun γ ρ B hb hd => ⟨(Guard.isT (ltB rfl) rfl (hdl hd 16 96 rfl (by decide +kernel))), fun hq_42 => OpStep.at ⟨ρ, B, _⟩ (setO ⟨ρ, B, _⟩ (some 97) (.one (.val (S rB v_64)))) ((op_call (js := []) (ltD rfl) cl9 (sim_law01_known k v_64 (ifT hv_v_64 hq_42)) .func .nil rfl).post (fun _ => Imp.refl))⟩)) ?_
      refine DSteps.cons (j := 19) rfl (fun _ => rfl) (.run (fun γ ρ B hb hd => ⟨.none, OpStep.at ⟨ρ, B, _⟩ (setO ⟨ρ, B, _⟩ (some 98) (.one (.val (S rB v_65)))) (op_pickCS (ltB rfl) (.tmp (hdl hd 16 96 rfl (by decide +kernel))) (fun hb43 => (HasO.cnd (.tmp (hdl hd 17 97 rfl (by decide +kernel))) hb43)) (fun hb43 => .cB) hv_v_65)⟩)) ?_
      refine DSteps.cons (j := 20) rfl (fun _ => rfl) (.run (fun γ ρ B hb hd => ⟨.none, OpStep.at ⟨ρ, B, _⟩ (setO ⟨ρ, B, _⟩ (some 8) (.one (.val (S rB v_65)))) (op_assign (ltB rfl) (.tmp (hdl hd 18 98 rfl (by decide +kernel))))⟩)) ?_
      exact DSteps.nil)
                  (by decide +kernel) (fun _ => rfl) rfl (fun _ => rfl) (fun _ => rfl) rfl (by decide) (by decide)
                  (ρ' := fun γ => [(8, .one (.val (S rB v_65)))])
                  (X' := fun γ => [cvar gb_6 (rV 16 (rU UInt64)) a_2, cown (deo (γ 1 0)) (rU UInt8) v_50 0 (γ 1 1), cown (deo (γ 4 0)) (rU UInt8) v_53 0 (γ 4 1), cown (deo (γ 9 0)) (rU UInt8) v_57 0 (γ 9 1), cown (deo (γ 12 0)) (rU UInt8) v_60 0 (γ 12 1)])
                  (fun γ ρ hb hd => (.cons (hdq hd 19 8 rfl) .nil)) (fun _ => rfl) (fun γ => ?_)
              generalize (deo (γ 1 0)) = go_51
              generalize (γ 1 1) = gc_52
              generalize (deo (γ 4 0)) = go_54
              generalize (γ 4 1) = gc_55
              generalize (deo (γ 9 0)) = go_58
              generalize (γ 9 1) = gc_59
              generalize (deo (γ 12 0)) = go_61
              generalize (γ 12 1) = gc_62
              clear γ
              refine JQ.at ⟨[(8, .one (.val (S rB v_65)))], [cvar gb_6 (rV 16 (rU UInt64)) a_2, cown go_51 (rU UInt8) v_50 0 gc_52, cown go_54 (rU UInt8) v_53 0 gc_55, cown go_58 (rU UInt8) v_57 0 gc_59, cown go_61 (rU UInt8) v_60 0 gc_62], []⟩ ?_
              replace hx38 := Option.some.inj hx38
              subst hx38
              exact JQ.join () (Imp.norm (js := []) rfl (.cons rfl .nil))
            · refine JC.anyE (base := [(2, .one (.val (S (rL (rL (rU UInt8))) a_3))), (5, .one (.val (PTR gb_6 0)))])
                  (fs := fun γ => [⟨some 80, .one (.val (A (rV 16 (rU UInt64)) a_2))⟩, ⟨some 81, .one (.val (HDR (deo (γ 1 0)) 0 (List.length v_50) (γ 1 1)))⟩, ⟨some 82, .one (.val (S rS v_50))⟩, ⟨some 83, .one (.val (A (rV 16 (rU UInt64)) a_2))⟩, ⟨some 84, .one (.val (HDR (deo (γ 4 0)) 0 (List.length v_53) (γ 4 1)))⟩, ⟨some 85, .one (.val (S rS v_53))⟩, ⟨some 86, .one (.val (S rB v_56))⟩, ⟨some 87, .one (.val (S rB v_56))⟩, ⟨some 88, bif v_56 then .one (.val (S (rL (rL (rU UInt8))) a_3)) else .one .und⟩, ⟨some 89, .one (.und)⟩, ⟨some 90, .one (.und)⟩, ⟨some 91, .one (.und)⟩, ⟨some 92, .one (.und)⟩, ⟨some 93, .one (.und)⟩, ⟨some 94, .one (.und)⟩, ⟨some 95, .one (.val (S rB false))⟩, ⟨some 96, .one (.val (S rB false))⟩, ⟨some 97, .one (.und)⟩, ⟨some 98, .one (.val (S rB false))⟩, ⟨some 8, .one (.val (S rB false))⟩])
                  (rs := fun γ => [⟨cvar gb_6 (rV 16 (rU UInt64)) a_2, none, none, [0, 3]⟩, ⟨cown (deo (γ 1 0)) (rU UInt8) v_50 0 (γ 1 1), (some 1), none, [2]⟩, ⟨cown (deo (γ 4 0)) (rU UInt8) v_53 0 (γ 4 1), (some 4), none, [5]⟩])
                  (ds := [80, 81, 82, 83, 84, 85, 86, 87, 88, 89, 90, 91, 92, 93, 94, 95, 96, 97, 98, 8]) (bs := [2, 5]) (afts := [[], [1, 2, 4, 5, 6, 7, 8, 9, 10, 11, 12, 13, 14, 15, 16, 17, 18, 19], [], [], [4, 5, 6, 7, 8, 9, 10, 11, 12, 13, 14, 15, 16, 17, 18, 19], [], [], [], [], [], [], [], [], [], [], [], [], [], [], []]) (js := [0]) mixed (.cons rfl (.cons rfl .nil)) (fun _ => rfl)
                  (by
      refine DSteps.cons (j := 1) rfl (fun _ => rfl) (.run (fun γ ρ B hb hd => ⟨.none, OpStep.at ⟨ρ, (cvar gb_6 (rV 16 (rU UInt64)) a_2) :: B, _⟩ (setO ⟨ρ, (cvar gb_6 (rV 16 (rU UInt64)) a_2) :: B, _⟩ (some 80) (.one (.val (A (rV 16 (rU UInt64)) a_2)))) (op_loadA (j := 0) (ltB rfl) tA50 (.tmp (hb 5 _ rfl)) rfl (Comp.self (rV 16 (rU UInt64)) a_2) rfl)⟩)) ?_
      refine DSteps.cons (j := 2) rfl (fun _ => rfl) (.runX (fun _ _ => rfl) (fun γ ρ B hb hd => ⟨.none, OpX.ghost (γ := Option Nat × Nat) (st' := fun q => setO ⟨ρ, (cown q.1 (rU UInt8) v_50 0 q.2) :: B, _⟩ (some 81) (.one (.val (HDR q.1 0 (List.length v_50) q.2)))) (fun q c => bif Nat.beq c 0 then eno q.1 else q.2) (op_call (js := []) (ltD rfl) cl32 (sim_wire_Vector k a_2 v_50 hv_v_50) .func (.cons (.tmp (hdl hd 0 80 rfl (by decide +kernel))) .nil) rfl) (fun q => by obtain ⟨q0, q1⟩ := q; cases q0 <;> exact Imp.refl)⟩) (fun _ _ => rfl) (fun _ _ => rfl)) ?_
      refine DSteps.cons (j := 3) rfl (fun _ => rfl) (.run (fun γ ρ B hb hd => ⟨.none, OpStep.at ⟨ρ, (cown (deo (γ 1 0)) (rU UInt8) v_50 0 (γ 1 1)) :: B, _⟩ (setO ⟨ρ, (cown (deo (γ 1 0)) (rU UInt8) v_50 0 (γ 1 1)) :: B, _⟩ (some 82) (.one (.val (S rS v_50)))) (op_convOS (j := 0) (ltB rfl) tu23 tu5 tu9 rfl (.tmp (hdl hd 1 81 rfl (by decide +kernel))))⟩)) ?_
      refine DSteps.cons (j := 4) rfl (fun _ => rfl) (.run (fun γ ρ B hb hd => ⟨.none, OpStep.at ⟨ρ, (cvar gb_6 (rV 16 (rU UInt64)) a_2) :: B, _⟩ (setO ⟨ρ, (cvar gb_6 (rV 16 (rU UInt64)) a_2) :: B, _⟩ (some 83) (.one (.val (A (rV 16 (rU UInt64)) a_2)))) (op_loadA (j := 0) (ltB rfl) tA50 (.tmp (hb 5 _ rfl)) rfl (Comp.self (rV 16 (rU UInt64)) a_2) rfl)⟩)) ?_
      refine DSteps.cons (j := 5) rfl (fun _ => rfl) (.runX (fun _ _ => rfl) (fun γ ρ B hb hd => ⟨.none, OpX.ghost (γ := Option Nat × Nat) (st' := fun q => setO ⟨ρ, (cown q.1 (rU UInt8) v_53 0 q.2) :: B, _⟩ (some 84) (.one (.val (HDR q.1 0 (List.length v_53) q.2)))) (fun q c => bif Nat.beq c 0 then eno q.1 else q.2) (op_call (js := []) (ltD rfl) cl25 (sim_ref01_Vector k a_2 v_53 hv_v_53) .func (.cons (.tmp (hdl hd 3 83 rfl (by decide +kernel))) .nil) rfl) (fun q => by obtain ⟨q0, q1⟩ := q; cases q0 <;> exact Imp.refl)⟩) (fun _ _ => rfl) (fun _ _ => rfl)) ?_
      refine DSteps.cons (j := 6) rfl (fun _ => rfl) (.run (fun γ ρ B hb hd => ⟨.none, OpStep.at ⟨ρ, (cown (deo (γ 4 0)) (rU UInt8) v_53 0 (γ 4 1)) :: B, _⟩ (setO ⟨ρ, (cown (deo (γ 4 0)) (rU UInt8) v_53 0 (γ 4 1)) :: B, _⟩ (some 85) (.one (.val (S rS v_53)))) (op_convOS (j := 0) (ltB rfl) tu23 tu5 tu9 rfl (.tmp (hdl hd 4 84 rfl (by decide +kernel))))⟩)) ?_
      refine DSteps.cons (j := 7) rfl (fun _ => rfl) (.run (fun γ ρ B hb hd => ⟨.none, OpStep.at ⟨ρ, B, _⟩ (setO ⟨ρ, B, _⟩ (some 86) (.one (.val (S rB v_56)))) (op_cmpS (ltB rfl) (.tmp (hdl hd 2 82 rfl (by decide +kernel))) (.tmp (hdl hd 5 85 rfl (by decide +kernel))) (congrArg some hv_v_56))⟩)) ?_
      refine DSteps.cons (j := 8) rfl (fun _ => rfl) (.run (fun γ ρ B hb hd => ⟨.none, OpStep.at ⟨ρ, B, _⟩ (setO ⟨ρ, B, _⟩ (some 87) (.one (.val (S rB v_56)))) (op_move (ltB rfl) (.tmp (hdl hd 6 86 rfl (by decide +kernel))))⟩)) ?_
      refine DSteps.cons (j := 9) rfl (fun _ => rfl) (.cnd (q := v_56) (sv := fun γ => .one (.val (S (rL (rL (rU UInt8))) a_3))) (fun _ => rfl) (fun _ => rfl) (fun d h => by cases h; exact ltB rfl) (fun _ => rfl) (fun γ ρ B hb hd => ⟨(Guard.isT (ltB rfl) rfl (hdl hd 7 87 rfl (by decide +kernel))), fun hq_39 => OpStep.at ⟨ρ, B, _⟩ (setO ⟨ρ, B, _⟩ (some 88) (.one (.val (S (rL (rL (rU UInt8))) a_3)))) (op_move (ltB rfl) (.tmp (hb 2 _ rfl)))⟩)) ?_
      refine DSteps.cons (j := 10) rfl (fun _ => rfl) (.skip (fun γ ρ B hb hd => ⟨.no rfl (ltB rfl) (hdl hd 7 87 rfl (by decide +kernel)) hc41, rfl, rfl, rfl, fun d h => by cases h; exact ltB rfl⟩)) ?_
      refine DSteps.cons (j := 11) rfl (fun _ => rfl) (.skip (fun γ ρ B hb hd => ⟨.no rfl (ltB rfl) (hdl hd 7 87 rfl (by decide +kernel)) hc41, rfl, rfl, rfl, fun d h => by cases h; exact ltB rfl⟩)) ?_
      refine DSteps.cons (j := 12) rfl (fun _ => rfl) (.skip (fun γ ρ B hb hd => ⟨.no rfl (ltB rfl) (hdl hd 7 87 rfl (by decide +kernel)) hc41, rfl, rfl, rfl, fun d h => by cases h; exact ltB rfl⟩)) ?_
      refine DSteps.cons (j := 13) rfl (fun _ => rfl) (.skip (fun γ ρ B hb hd => ⟨.no rfl (ltB rfl) (hdl hd 7 87 rfl (by decide +kernel)) hc41, rfl, rfl, rfl, fun d h => by cases h; exact ltB rfl⟩)) ?_
      refine DSteps.cons (j := 14) rfl (fun _ => rfl) (.skip (fun γ ρ B hb hd => ⟨.no rfl (ltB rfl) (hdl hd 7 87 rfl (by decide +kernel)) hc41, rfl, rfl, rfl, fun d h => by cases h; exact ltB rfl⟩)) ?_
      refine DSteps.cons (j := 15) rfl (fun _ => rfl) (.skip (fun γ ρ B hb hd => ⟨.no rfl (ltB rfl) (hdl hd 7 87 rfl (by decide +kernel)) hc41, rfl, rfl, rfl, fun d h => by cases h; exact ltB rfl⟩)) ?_
      refine DSteps.cons (j := 16) rfl (fun _ => rfl) (.run (fun γ ρ B hb hd => ⟨.none, OpStep.at ⟨ρ, B, _⟩ (setO ⟨ρ, B, _⟩ (some 95) (.one (.val (S rB false)))) (op_pickF (ltB rfl) (.tmp (hdl hd 7 87 rfl (by decide +kernel))) hc41 .cB)⟩)) ?_
      refine DSteps.cons (j := 17) rfl (fun _ => rfl) (.run (fun γ ρ B hb hd => ⟨.none, OpStep.at ⟨ρ, B, _⟩ (setO ⟨ρ, B, _⟩ (some 96) (.one (.val (S rB false)))) (op_move (ltB rfl) (.tmp (hdl hd 15 95 rfl (by decide +kernel))))⟩)) ?_
      refine DSteps.cons (j := 18) rfl (fun _ => rfl) (.skip (fun γ ρ B hb hd => ⟨.no rfl (ltB rfl) (hdl hd 16 96 rfl (by decide +kernel)) rfl, rfl, rfl, rfl, fun d h => by cases h; exact ltB rfl⟩)) ?_
      refine DSteps.cons (j := 19) rfl (fun _ => rfl) (.run (fun γ ρ B hb hd => ⟨.none, OpStep.at ⟨ρ, B, _⟩ (setO ⟨ρ, B, _⟩ (some 98) (.one (.val (S rB false)))) (op_pickF (ltB rfl) (.tmp (hdl hd 16 96 rfl (by decide +kernel))) rfl .cB)⟩)) ?_
      refine DSteps.cons (j := 20) rfl (fun _ => rfl) (.run (fun γ ρ B hb hd => ⟨.none, OpStep.at ⟨ρ, B, _⟩ (setO ⟨ρ, B, _⟩ (some 8) (.one (.val (S rB false)))) (op_assign (ltB rfl) (.tmp (hdl hd 18 98 rfl (by decide +kernel))))⟩)) ?_
      exact DSteps.nil)
                  (by decide +kernel) (fun _ => rfl) rfl (fun _ => rfl) (fun _ => rfl) rfl (by decide) (by decide)
                  (ρ' := fun γ => [(8, .one (.val (S rB false)))])
                  (X' := fun γ => [cvar gb_6 (rV 16 (rU UInt64)) a_2, cown (deo (γ 1 0)) (rU UInt8) v_50 0 (γ 1 1), cown (deo (γ 4 0)) (rU UInt8) v_53 0 (γ 4 1)])
                  (fun γ ρ hb hd => (.cons (hdq hd 19 8 rfl) .nil)) (fun _ => rfl) (fun γ => ?_)
              generalize (deo (γ 1 0)) = go_51
              generalize (γ 1 1) = gc_52
              generalize (deo (γ 4 0)) = go_54
              generalize (γ 4 1) = gc_55
              clear γ
              refine JQ.at ⟨[(8, .one (.val (S rB false)))], [cvar gb_6 (rV 16 (rU UInt64)) a_2, cown go_51 (rU UInt8) v_50 0 gc_52, cown go_54 (rU UInt8) v_53 0 gc_55], []⟩ ?_
              replace hx38 := Option.some.inj hx38
              subst hx38
              exact JQ.join () (Imp.norm (js := []) rfl (.cons rfl .nil))
        · refine JC.seq ?_
          refine JC.region ?_
          refine JL.cons rfl (op_move (ltB rfl) (.tmp rfl)) ?_
          refine JL.pre (Imp.sub (ρ' := [(2, .one (.val (S (rL (rL (rU UInt8))) a_3))), (3, .one (.val (S (rL (rU UInt8)) a_4))), (5, .one (.val (PTR gb_6 0))), (11, .one (.val (HDR go_34 0 (List.length v_32) gc_35))), (12, .one (.val (S (rI .i64) v_33))), (58, .one (.val (S (rL (rU UInt8)) a_4)))]) (.cons rfl (.cons rfl (.cons rfl (.cons rfl (.cons rfl (.cons rfl .nil))))))) ?_
          refine JL.at ⟨[(2, .one (.val (S (rL (rL (rU UInt8))) a_3))), (3, .one (.val (S (rL (rU UInt8)) a_4))), (5, .one (.val (PTR gb_6 0))), (11, .one (.val (HDR go_34 0 (List.length v_32) gc_35))), (12, .one (.val (S (rI .i64) v_33))), (58, .one (.val (S (rL (rU UInt8)) a_4)))], [cown go_34 (rU UInt8) v_32 0 gc_35, cvar gb_6 (rV 16 (rU UInt64)) a_2], []⟩ ?_
          refine JL.cons rfl (op_lenL (ltB rfl) tu23 (.tmp rfl)) ?_
          replace hx24 := lt1_inv hx24
          obtain ⟨v_36, hv_v_36, hx24⟩ := hx24
          refine JL.cons rfl (op_cmpI (ltB rfl) (.tmp rfl) .cI (congrArg some hv_v_36)) ?_
          refine JL.nil ?_
          refine JQ.then ?_
          rcases iteB_inv hx24 with ⟨hc25, hx24⟩ | ⟨hc25, hx24⟩
          · refine JC.condT (.tmp rfl) hc25 ?_
            obtain ⟨x_44, hx26, hq26⟩ := bnd_inv hx24
            refine JC.seqJ (γ := Unit) (stj := fun q => ⟨[(2, .one (.val (S (rL (rL (rU UInt8))) a_3))), (5, .one (.val (PTR gb_6 0))), (71, .one (.val (S rB x_44)))], [cvar gb_6 (rV 16 (rU UInt64)) a_2], []⟩) (fun q => ?_) ?_
            · obtain _ := q
              refine JC.at ⟨[(2, .one (.val (S (rL (rL (rU UInt8))) a_3))), (5, .one (.val (PTR gb_6 0))), (71, .one (.val (S rB x_44)))], [cvar gb_6 (rV 16 (rU UInt64)) a_2], []⟩ ?_
              rcases iteB_inv hq26 with ⟨hc31, hq26⟩ | ⟨hc31, hq26⟩
              · refine JC.condT (.tmp rfl) hc31 ?_
                refine JC.seq ?_
                refine JC.region ?_
                refine JL.cons rfl (op_assign (ltB rfl) .cB) ?_
                refine JL.nil ?_
                refine JQ.then ?_
                refine JC.ret ?_
                replace hq26 := Option.some.inj hq26
                subst hq26
                dsimp only at hq24
                refine JQ.outR ?_
                replace hq24 := Option.some.inj hq24
                subst hq24
                exact JQ.done (js := []) (ss := [.val (S rB false)]) () (.inl rfl) (.nil rfl) rfl (.cons (.tmp rfl) .nil) rfl rfl rfl
              · refine JC.condF (.tmp rfl) hc31 ?_
                refine JC.skip ?_
                replace hq26 := Option.some.inj hq26
                subst hq26
                exact JQ.joinK () () rfl (Imp.norm (js := [0]) rfl (.cons rfl (.cons rfl .nil)))
            · replace hx26 := bnd_inv hx26
              obtain ⟨v_37, hv_v_37, hx26⟩ := hx26
              replace hx26 := lt1_inv hx26
              obtain ⟨v_40, hv_v_40, hx26⟩ := hx26
              replace hx26 := bnd_inv hx26
              obtain ⟨_, hv_u_41, hx26⟩ := hx26
              replace hx26 := lt1_inv hx26
              obtain ⟨v_42, hv_v_42, hx26⟩ := hx26
              replace hx26 := lt1_inv hx26
              obtain ⟨v_43, hv_v_43, hx26⟩ := hx26
              refine JC.anyE (base := [(2, .one (.val (S (rL (rL (rU UInt8))) a_3))), (3, .one (.val (S (rL (rU UInt8)) a_4))), (5, .one (.val (PTR gb_6 0))), (11, .one (.val (HDR go_34 0 (List.length v_32) gc_35))), (12, .one (.val (S (rI .i64) v_33)))])
                  (fs := fun γ => [⟨some 61, .one (.val (HDR go_34 0 (List.length v_32) gc_35))⟩, ⟨some 62, .one (.val (S rS v_32))⟩, ⟨some 63, .one (.val (S (rL (rU UInt8)) a_4))⟩, ⟨some 64, .one (.val (HDR (deo (γ 3 0)) 0 (List.length v_37) (γ 3 1)))⟩, ⟨some 65, .one (.val (S rS v_37))⟩, ⟨some 66, .one (.val (S rB v_40))⟩, ⟨some 67, .one (.val (S rB v_40))⟩, ⟨some 68, bif (!v_40) then .one (.val (S (rI .i64) v_33)) else .one .und⟩, ⟨some 69, bif (!v_40) then .one (.val (S (rI .i64) v_33)) else .one .und⟩, ⟨some 70, bif (!v_40) then .one (.val (S rB v_42)) else .one .und⟩, ⟨some 71, .one (.val (S rB v_43))⟩])
                  (rs := fun γ => [⟨cown go_34 (rU UInt8) v_32 0 gc_35, none, none, [1]⟩, ⟨cvar gb_6 (rV 16 (rU UInt64)) a_2, none, none, []⟩, ⟨cown (deo (γ 3 0)) (rU UInt8) v_37 0 (γ 3 1), (some 3), none, [4]⟩])
                  (ds := [61, 62, 63, 64, 65, 66, 67, 68, 69, 70, 71]) (bs := [2, 3, 5, 11, 12]) (afts := [[], [], [], [3, 4, 5, 6, 7, 8, 9, 10], [], [], [], [], [], [], []]) (js := [0, 0]) mixed (.cons rfl (.cons rfl (.cons rfl (.cons rfl (.cons rfl .nil))))) (fun _ => rfl)
                  (by
      refine DSteps.cons (j := 1) rfl (fun _ => rfl) (.run (fun γ ρ B hb hd => ⟨.none, OpStep.at ⟨ρ, B, _⟩ (setO ⟨ρ, B, _⟩ (some 61) (.one (.val (HDR go_34 0 (List.length v_32) gc_35)))) (op_move (ltB rfl) (.tmp (hb 11 _ rfl)))⟩)) ?_
      refine DSteps.cons (j := 2) rfl (fun _ => rfl) (.run (fun γ ρ B hb hd => ⟨.none, OpStep.at ⟨ρ, (cown go_34 (rU UInt8) v_32 0 gc_35) :: B, _⟩ (setO ⟨ρ, (cown go_34 (rU UInt8) v_32 0 gc_35) :: B, _⟩ (some 62) (.one (.val (S rS v_32)))) (op_convOS (j := 0) (ltB rfl) tu23 tu5 tu9 rfl (.tmp (hdl hd 0 61 rfl (by decide +kernel))))⟩)) ?_
      refine DSteps.cons (j := 3) rfl (fun _ => rfl) (.run (fun γ ρ B hb hd => ⟨.none, OpStep.at ⟨ρ, B, _⟩ (setO ⟨ρ, B, _⟩ (some 63) (.one (.val (S (rL (rU UInt8)) a_4)))) (op_move (ltB rfl) (.tmp (hb 3 _ rfl)))⟩)) ?_
      refine DSteps.cons (j := 4) rfl (fun _ => rfl) (.runX (fun _ _ => rfl) (fun γ ρ B hb hd => ⟨.none, OpX.ghost (γ := Option Nat × Nat) (st' := fun q => setO ⟨ρ, (cown q.1 (rU UInt8) v_37 0 q.2) :: B, _⟩ (some 64) (.one (.val (HDR q.1 0 (List.length v_37) q.2)))) (fun q c => bif Nat.beq c 0 then eno q.1 else q.2) (op_call (js := []) (ltD rfl) cl23 (sim_ref01_Blob k a_4 v_37 hv_v_37) .func (.cons (.tmp (hdl hd 2 63 rfl (by decide +kernel))) .nil) rfl) (fun q => by obtain ⟨q0, q1⟩ := q; cases q0 <;> exact Imp.refl)⟩) (fun _ _ => rfl) (fun _ _ => rfl)) ?_
      refine DSteps.cons (j := 5) rfl (fun _ => rfl) (.run (fun γ ρ B hb hd => ⟨.none, OpStep.at ⟨ρ, (cown (deo (γ 3 0)) (rU UInt8) v_37 0 (γ 3 1)) :: B, _⟩ (setO ⟨ρ, (cown (deo (γ 3 0)) (rU UInt8) v_37 0 (γ 3 1)) :: B, _⟩ (some 65) (.one (.val (S rS v_37)))) (op_convOS (j := 0) (ltB rfl) tu23 tu5 tu9 rfl (.tmp (hdl hd 3 64 rfl (by decide +kernel))))⟩)) ?_
      refine DSteps.cons (j := 6) rfl (fun _ => rfl) (.run (fun γ ρ B hb hd => ⟨.none, OpStep.at ⟨ρ, B, _⟩ (setO ⟨ρ, B, _⟩ (some 66) (.one (.val (S rB v_40)))) (op_cmpS (ltB rfl) (.tmp (hdl hd 1 62 rfl (by decide +kernel))) (.tmp (hdl hd 4 65 rfl (by decide +kernel))) (congrArg some hv_v_40))⟩)) ?_
      refine DSteps.cons (j := 7) rfl (fun _ => rfl) (.run (fun γ ρ B hb hd => ⟨.none, OpStep.at ⟨ρ, B, _⟩ (setO ⟨ρ, B, _⟩ (some 67) (.one (.val (S rB v_40)))) (op_move (ltB rfl) (.tmp (hdl hd 5 66 rfl (by decide +kernel))))⟩)) ?_
      refine DSteps.cons (j := 8) rfl (fun _ => rfl) (.cnd (q := (!v_40)) (sv := fun γ => .one (.val (S (rI .i64) v_33))) (fun _ => rfl) (fun _ => rfl) (fun d h => by cases h; exact ltB rfl) (fun _ => rfl) (fun γ ρ B hb hd => ⟨(Guard.isF (ltB rfl) rfl (hdl hd 6 67 rfl (by decide +kernel))), fun hq_27 => OpStep.at ⟨ρ, B, _⟩ (setO ⟨ρ, B, _⟩ (some 68) (.one (.val (S (rI .i64) v_33)))) (op_move (ltB rfl) (.tmp (hb 12 _ rfl)))⟩)) ?_
      refine DSteps.cons (j := 9) rfl (fun _ => rfl) (.cnd (q := (!v_40)) (sv := fun γ => .one (.val (S (rI .i64) v_33))) (fun _ => rfl) (fun _ => rfl) (fun d h => by cases h; exact ltB rfl) (fun _ => rfl) (fun γ ρ B hb hd => ⟨(Guard.isF (ltB rfl) rfl (hdl hd 6 67 rfl (by decide +kernel))), fun hq_28 => OpStep.at ⟨ρ, B, _⟩ (setO ⟨ρ, B, _⟩ (some 69) (.one (.val (S (rI .i64) v_33)))) ((op_call (js := []) (ltD rfl) cl13 (sim_law01_num k v_33 () (ifT hv_u_41 hq_28)) .func (.cons (HasO.cnd (.tmp (hdl hd 7 68 rfl (by decide +kernel))) (notT (notF hq_28))) .nil) rfl).post (fun _ => Imp.refl))⟩)) ?_
      refine DSteps.cons (j := 10) rfl (fun _ => rfl) (.cnd (q := (!v_40)) (sv := fun γ => .one (.val (S rB v_42))) (fun _ => rfl) (fun _ => rfl) (fun d h => by cases h; exact ltB rfl) (fun _ => rfl) (fun γ ρ B hb hd => ⟨(Guard.isF (ltB rfl) rfl (hdl hd 6 67 rfl (by decide +kernel))), fun hq_29 => OpStep.at ⟨ρ, B, _⟩ (setO ⟨ρ, B, _⟩ (some 70) (.one (.val (S rB v_42)))) (op_cmpI (ltB rfl) (HasO.cnd (.tmp (hdl hd 8 69 rfl (by decide +kernel))) (notT (notF hq_29))) .cI (congrArg some hv_v_42))⟩)) ?_
      refine DSteps.cons (j := 11) rfl (fun _ => rfl) (.run (fun γ ρ B hb hd => ⟨.none, OpStep.at ⟨ρ, B, _⟩ (setO ⟨ρ, B, _⟩ (some 71) (.one (.val (S rB v_43)))) (op_pickCS (ltB rfl) (.tmp (hdl hd 6 67 rfl (by decide +kernel))) (fun hb30 => .cB) (fun hb30 => (HasO.cnd (.tmp (hdl hd 9 70 rfl (by decide +kernel))) (notT hb30))) hv_v_43)⟩)) ?_
      exact DSteps.nil)
                  (by decide +kernel) (fun _ => rfl) rfl (fun _ => rfl) (fun _ => rfl) rfl (by decide) (by decide)
                  (ρ' := fun γ => [(2, .one (.val (S (rL (rL (rU UInt8))) a_3))), (5, .one (.val (PTR gb_6 0))), (71, .one (.val (S rB v_43)))])
                  (X' := fun γ => [cown go_34 (rU UInt8) v_32 0 gc_35, cvar gb_6 (rV 16 (rU UInt64)) a_2, cown (deo (γ 3 0)) (rU UInt8) v_37 0 (γ 3 1)])
                  (fun γ ρ hb hd => (.cons (hb 2 _ rfl) (.cons (hb 5 _ rfl) (.cons (hdq hd 10 71 rfl) .nil)))) (fun _ => rfl) (fun γ => ?_)
              generalize (deo (γ 3 0)) = go_38
              generalize (γ 3 1) = gc_39
              clear γ
              refine JQ.at ⟨[(2, .one (.val (S (rL (rL (rU UInt8))) a_3))), (5, .one (.val (PTR gb_6 0))), (71, .one (.val (S rB v_43)))], [cown go_34 (rU UInt8) v_32 0 gc_35, cvar gb_6 (rV 16 (rU UInt64)) a_2, cown go_38 (rU UInt8) v_37 0 gc_39], []⟩ ?_
              replace hx26 := Option.some.inj hx26
              subst hx26
              exact JQ.join () (Imp.norm (js := [1]) rfl (.cons rfl (.cons rfl (.cons rfl .nil))))
          · refine JC.condF (.tmp rfl) hc25 ?_
            obtain ⟨x_49, hx32, hq32⟩ := bnd_inv hx24
            refine JC.seqJ (γ := Unit) (stj := fun q => ⟨[(2, .one (.val (S (rL (rL (rU UInt8))) a_3))), (5, .one (.val (PTR gb_6 0))), (79, .one (.val (S rB x_49)))], [cvar gb_6 (rV 16 (rU UInt64)) a_2], []⟩) (fun q => ?_) ?_
            · obtain _ := q
              refine JC.at ⟨[(2, .one (.val (S (rL (rL (rU UInt8))) a_3))), (5, .one (.val (PTR gb_6 0))), (79, .one (.val (S rB x_49)))], [cvar gb_6 (rV 16 (rU UInt64)) a_2], []⟩ ?_
              rcases iteB_inv hq32 with ⟨hc37, hq32⟩ | ⟨hc37, hq32⟩
              · refine JC.condT (.tmp rfl) hc37 ?_
                refine JC.seq ?_
                refine JC.region ?_
                refine JL.cons rfl (op_assign (ltB rfl) .cB) ?_
                refine JL.nil ?_
                refine JQ.then ?_
                refine JC.ret ?_
                replace hq32 := Option.some.inj hq32
                subst hq32
                dsimp only at hq24
                refine JQ.outR ?_
                replace hq24 := Option.some.inj hq24
                subst hq24
                exact JQ.done (js := []) (ss := [.val (S rB false)]) () (.inl rfl) (.nil rfl) rfl (.cons (.tmp rfl) .nil) rfl rfl rfl
              · refine JC.condF (.tmp rfl) hc37 ?_
                refine JC.skip ?_
                replace hq32 := Option.some.inj hq32
                subst hq32
                exact JQ.joinK () () rfl (Imp.norm (js := [0]) rfl (.cons rfl (.cons rfl .nil)))
            · refine JC.region ?_
              refine JL.cons rfl (op_move (ltB rfl) (.tmp rfl)) ?_
              refine JL.cons rfl (op_lenH (ltB rfl) tu23 (.tmp rfl)) ?_
              replace hx32 := lt1_inv hx32
              obtain ⟨v_45, hv_v_45, hx32⟩ := hx32
              refine JL.cons rfl (op_cmpI (ltB rfl) (.tmp rfl) .cI (congrArg some hv_v_45)) ?_
              refine JL.cons rfl (op_move (ltB rfl) (.tmp rfl)) ?_
              refine JL.pre (Imp.norm (ρ' := [(2, .one (.val (S (rL (rL (rU UInt8))) a_3))), (5, .one (.val (PTR gb_6 0))), (12, .one (.val (S (rI .i64) v_33))), (75, .one (.val (S rB v_45)))]) (js := [1]) rfl (.cons rfl (.cons rfl (.cons rfl (.cons rfl .nil))))) ?_
              refine JL.at ⟨[(2, .one (.val (S (rL (rL (rU UInt8))) a_3))), (5, .one (.val (PTR gb_6 0))), (12, .one (.val (S (rI .i64) v_33))), (75, .one (.val (S rB v_45)))], [cvar gb_6 (rV 16 (rU UInt64)) a_2], []⟩ ?_
              refine JL.cnd (sv := .one (.val (S (rI .i64) v_33))) (Guard.isF (ltB rfl) rfl rfl) rfl (ltB rfl) (fun hq_33 => op_move (ltB rfl) (.tmp rfl)) ?_
              replace hx32 := bnd_inv hx32
              obtain ⟨_, hv_u_46, hx32⟩ := hx32
              refine JL.cnd (sv := .one (.val (S (rI .i64) v_33))) (Guard.isF (ltB rfl) rfl rfl) rfl (ltB rfl) (fun hq_34 => (op_call (js := []) (ltD rfl) cl13 (sim_law01_num k v_33 () (ifT hv_u_46 hq_34)) .func (.cons (HasO.cnd (.tmp rfl) (notT (notF hq_34))) .nil) rfl).post (fun _ => Imp.refl)) ?_
              replace hx32 := lt1_inv hx32
              obtain ⟨v_47, hv_v_47, hx32⟩ := hx32
              refine JL.cnd (sv := .one (.val (S rB v_47))) (Guard.isF (ltB rfl) rfl rfl) rfl (ltB rfl) (fun hq_35 => op_cmpI (ltB rfl) (HasO.cnd (.tmp rfl) (notT (notF hq_35))) .cI (congrArg some hv_v_47)) ?_
              replace hx32 := lt1_inv hx32
              obtain ⟨v_48, hv_v_48, hx32⟩ := hx32
              refine JL.cons rfl (op_pickCS (ltB rfl) (.tmp rfl) (fun hb36 => .cB) (fun hb36 => (HasO.cnd (.tmp rfl) (notT hb36))) hv_v_48) ?_
              refine JL.nil ?_
              replace hx32 := Option.some.inj hx32
              subst hx32
              exact JQ.join () (Imp.norm (js := [0]) rfl (.cons rfl (.cons rfl (.cons rfl .nil))))
      · obtain ⟨x_18, hx8, hq8⟩ := bnd_inv hx7
        refine JC.seqJ (γ := Unit) (stj := fun q => ⟨[(2, .one (.val (S (rL (rL (rU UInt8))) a_3))), (3, .one (.val (S (rL (rU UInt8)) a_4))), (4, .one (.val (PTR gb_5 0))), (5, .one (.val (PTR gb_6 0))), (9, .one (.val (HDR go_14 0 (List.length v_12) gc_15))), (10, .one (.val (S (rI .i64) v_13))), (33, .one (.val (S rB x_18)))], [cvar gb_5 r_api_Dot t_1, cvar gb_6 (rV 16 (rU UInt64)) a_2, cown go_14 (rU UInt8) v_12 0 gc_15], []⟩) (fun q => ?_) ?_
        · obtain _ := q
          refine JC.at ⟨[(2, .one (.val (S (rL (rL (rU UInt8))) a_3))), (3, .one (.val (S (rL (rU UInt8)) a_4))), (4, .one (.val (PTR gb_5 0))), (5, .one (.val (PTR gb_6 0))), (9, .one (.val (HDR go_14 0 (List.length v_12) gc_15))), (10, .one (.val (S (rI .i64) v_13))), (33, .one (.val (S rB x_18)))], [cvar gb_5 r_api_Dot t_1, cvar gb_6 (rV 16 (rU UInt64)) a_2, cown go_14 (rU UInt8) v_12 0 gc_15], []⟩ ?_
          rcases iteB_inv hq8 with ⟨hc11, hq8⟩ | ⟨hc11, hq8⟩
          · refine JC.condT (.tmp rfl) hc11 ?_
            obtain ⟨x_26, hx12, hq12⟩ := bnd_inv hq8
            refine JC.seqJ (γ := Unit) (stj := fun q => ⟨[(2, .one (.val (S (rL (rL (rU UInt8))) a_3))), (3, .one (.val (S (rL (rU UInt8)) a_4))), (5, .one (.val (PTR gb_6 0))), (44, .one (.val (S rB x_26)))], [cvar gb_6 (rV 16 (rU UInt64)) a_2], []⟩) (fun q => ?_) ?_
            · obtain _ := q
              refine JC.at ⟨[(2, .one (.val (S (rL (rL (rU UInt8))) a_3))), (3, .one (.val (S (rL (rU UInt8)) a_4))), (5, .one (.val (PTR gb_6 0))), (44, .one (.val (S rB x_26)))], [cvar gb_6 (rV 16 (rU UInt64)) a_2], []⟩ ?_
              rcases iteB_inv hq12 with ⟨hc17, hq12⟩ | ⟨hc17, hq12⟩
              · refine JC.condT (.tmp rfl) hc17 ?_
                refine JC.seq ?_
                refine JC.region ?_
                refine JL.cons rfl (op_assign (ltB rfl) .cB) ?_
                refine JL.nil ?_
                refine JQ.then ?_
                refine JC.ret ?_
                replace hq12 := Option.some.inj hq12
                subst hq12
                dsimp only at hq7
                refine JQ.outR ?_
                replace hq7 := Option.some.inj hq7
                subst hq7
                exact JQ.done (js := []) (ss := [.val (S rB false)]) () (.inl rfl) (.nil rfl) rfl (.cons (.tmp rfl) .nil) rfl rfl rfl
              · refine JC.condF (.tmp rfl) hc17 ?_
                refine JC.skip ?_
                replace hq12 := Option.some.inj hq12
                subst hq12
                exact JQ.joinK () () rfl (Imp.norm (js := [0]) rfl (.cons rfl (.cons rfl (.cons rfl .nil))))
            · replace hx12 := bnd_inv hx12
              obtain ⟨v_19, hv_v_19, hx12⟩ := hx12
              replace hx12 := lt1_inv hx12
              obtain ⟨v_22, hv_v_22, hx12⟩ := hx12
              replace hx12 := bnd_inv hx12
              obtain ⟨_, hv_u_23, hx12⟩ := hx12
              replace hx12 := lt1_inv hx12
              obtain ⟨v_24, hv_v_24, hx12⟩ := hx12
              replace hx12 := lt1_inv hx12
              obtain ⟨v_25, hv_v_25, hx12⟩ := hx12
              refine JC.anyE (base := [(2, .one (.val (S (rL (rL (rU UInt8))) a_3))), (3, .one (.val (S (rL (rU UInt8)) a_4))), (4, .one (.val (PTR gb_5 0))), (5, .one (.val (PTR gb_6 0))), (9, .one (.val (HDR go_14 0 (List.length v_12) gc_15))), (10, .one (.val (S (rI .i64) v_13)))])
                  (fs := fun γ => [⟨some 34, .one (.val (HDR go_14 0 (List.length v_12) gc_15))⟩, ⟨some 35, .one (.val (S rS v_12))⟩, ⟨some 36, .one (.val (A r_api_Dot t_1))⟩, ⟨some 37, .one (.val (HDR (deo (γ 3 0)) 0 (List.length v_19) (γ 3 1)))⟩, ⟨some 38, .one (.val (S rS v_19))⟩, ⟨some 39, .one (.val (S rB v_22))⟩, ⟨some 40, .one (.val (S rB v_22))⟩, ⟨some 41, bif (!v_22) then .one (.val (S (rI .i64) v_13)) else .one .und⟩, ⟨some 42, bif (!v_22) then .one (.val (S (rI .i64) v_13)) else .one .und⟩, ⟨some 43, bif (!v_22) then .one (.val (S rB v_24)) else .one .und⟩, ⟨some 44, .one (.val (S rB v_25))⟩])
                  (rs := fun γ => [⟨cvar gb_5 r_api_Dot t_1, none, none, [2]⟩, ⟨cvar gb_6 (rV 16 (rU UInt64)) a_2, none, none, []⟩, ⟨cown go_14 (rU UInt8) v_12 0 gc_15, none, none, [1]⟩, ⟨cown (deo (γ 3 0)) (rU UInt8) v_19 0 (γ 3 1), (some 3), none, [4]⟩])
                  (ds := [34, 35, 36, 37, 38, 39, 40, 41, 42, 43, 44]) (bs := [2, 3, 4, 5, 9, 10]) (afts := [[], [], [], [3, 4, 5, 6, 7, 8, 9, 10], [], [], [], [], [], [], []]) (js := [0, 0, 0]) mixed (.cons rfl (.cons rfl (.cons rfl (.cons rfl (.cons rfl (.cons rfl .nil)))))) (fun _ => rfl)
                  (by
      refine DSteps.cons (j := 1) rfl (fun _ => rfl) (.run (fun γ ρ B hb hd => ⟨.none, OpStep.at ⟨ρ, B, _⟩ (setO ⟨ρ, B, _⟩ (some 34) (.one (.val (HDR go_14 0 (List.length v_12) gc_15)))) (op_move (ltB rfl) (.tmp (hb 9 _ rfl)))⟩)) ?_
      refine DSteps.cons (j := 2) rfl (fun _ => rfl) (.run (fun γ ρ B hb hd => ⟨.none, OpStep.at ⟨ρ, (cown go_14 (rU UInt8) v_12 0 gc_15) :: B, _⟩ (setO ⟨ρ, (cown go_14 (rU UInt8) v_12 0 gc_15) :: B, _⟩ (some 35) (.one (.val (S rS v_12)))) (op_convOS (j := 0) (ltB rfl) tu23 tu5 tu9 rfl (.tmp (hdl hd 0 34 rfl (by decide +kernel))))⟩)) ?_
      refine DSteps.cons (j := 3) rfl (fun _ => rfl) (.run (fun γ ρ B hb hd => ⟨.none, OpStep.at ⟨ρ, (cvar gb_5 r_api_Dot t_1) :: B, _⟩ (setO ⟨ρ, (cvar gb_5 r_api_Dot t_1) :: B, _⟩ (some 36) (.one (.val (A r_api_Dot t_1)))) (op_loadA (j := 0) (ltB rfl) tA48 (.tmp (hb 4 _ rfl)) rfl (Comp.self r_api_Dot t_1) rfl)⟩)) ?_
      refine DSteps.cons (j := 4) rfl (fun _ => rfl) (.runX (fun _ _ => rfl) (fun γ ρ B hb hd => ⟨.none, OpX.ghost (γ := Option Nat × Nat) (st' := fun q => setO ⟨ρ, (cown q.1 (rU UInt8) v_19 0 q.2) :: B, _⟩ (some 37) (.one (.val (HDR q.1 0 (List.length v_19) q.2)))) (fun q c => bif Nat.beq c 0 then eno q.1 else q.2) (op_call (js := []) (ltD rfl) cl24 (sim_ref01_Dot k t_1 v_19 hv_v_19) .func (.cons (.tmp (hdl hd 2 36 rfl (by decide +kernel))) .nil) rfl) (fun q => by obtain ⟨q0, q1⟩ := q; cases q0 <;> exact Imp.refl)⟩) (fun _ _ => rfl) (fun _ _ => rfl)) ?_
      refine DSteps.cons (j := 5) rfl (fun _ => rfl) (.run (fun γ ρ B hb hd => ⟨.none, OpStep.at ⟨ρ, (cown (deo (γ 3 0)) (rU UInt8) v_19 0 (γ 3 1)) :: B, _⟩ (setO ⟨ρ, (cown (deo (γ 3 0)) (rU UInt8) v_19 0 (γ 3 1)) :: B, _⟩ (some 38) (.one (.val (S rS v_19)))) (op_convOS (j := 0) (ltB rfl) tu23 tu5 tu9 rfl (.tmp (hdl hd 3 37 rfl (by decide +kernel))))⟩)) ?_
      refine DSteps.cons (j := 6) rfl (fun _ => rfl) (.run (fun γ ρ B hb hd => ⟨.none, OpStep.at ⟨ρ, B, _⟩ (setO ⟨ρ, B, _⟩ (some 39) (.one (.val (S rB v_22)))) (op_cmpS (ltB rfl) (.tmp (hdl hd 1 35 rfl (by decide +kernel))) (.tmp (hdl hd 4 38 rfl (by decide +kernel))) (congrArg some hv_v_22))⟩)) ?_
      refine DSteps.cons (j := 7) rfl (fun _ => rfl) (.run (fun γ ρ B hb hd => ⟨.none, OpStep.at ⟨ρ, B, _⟩ (setO ⟨ρ, B, _⟩ (some 40) (.one (.val (S rB v_22)))) (op_move (ltB rfl) (.tmp (hdl hd 5 39 rfl (by decide +kernel))))⟩)) ?_
      refine DSteps.cons (j := 8) rfl (fun _ => rfl) (.cnd (q := (!v_22)) (sv := fun γ => .one (.val (S (rI .i64) v_13))) (fun _ => rfl) (fun _ => rfl) (fun d h => by cases h; exact ltB rfl) (fun _ => rfl) (fun γ ρ B hb hd => ⟨(Guard.isF (ltB rfl) rfl (hdl hd 6 40 rfl (by decide +kernel))), fun hq_13 => OpStep.at ⟨ρ, B, _⟩ (setO ⟨ρ, B, _⟩ (some 41) (.one (.val (S (rI .i64) v_13)))) (op_move (ltB rfl) (.tmp (hb 10 _ rfl)))⟩)) ?_
      refine DSteps.cons (j := 9) rfl (fun _ => rfl) (.cnd (q := (!v_22)) (sv := fun γ => .one (.val (S (rI .i64) v_13))) (fun _ => rfl) (fun _ => rfl) (fun d h => by cases h; exact ltB rfl) (fun _ => rfl) (fun γ ρ B hb hd => ⟨(Guard.isF (ltB rfl) rfl (hdl hd 6 40 rfl (by decide +kernel))), fun hq_14 => OpStep.at ⟨ρ, B, _⟩ (setO ⟨ρ, B, _⟩ (some 42) (.one (.val (S (rI .i64) v_13)))) ((op_call (js := []) (ltD rfl) cl13 (sim_law01_num k v_13 () (ifT hv_u_23 hq_14)) .func (.cons (HasO.cnd (.tmp (hdl hd 7 41 rfl (by decide +kernel))) (notT (notF hq_14))) .nil) rfl).post (fun _ => Imp.refl))⟩)) ?_
      refine DSteps.cons (j := 10) rfl (fun _ => rfl) (.cnd (q := (!v_22)) (sv := fun γ => .one (.val (S rB v_24))) (fun _ => rfl) (fun _ => rfl) (fun d h => by cases h; exact ltB rfl) (fun _ => rfl) (fun γ ρ B hb hd => ⟨(Guard.isF (ltB rfl) rfl (hdl hd 6 40 rfl (by decide +kernel))), fun hq_15 => OpStep.at ⟨ρ, B, _⟩ (setO ⟨ρ, B, _⟩ (some 43) (.one (.val (S rB v_24)))) (op_cmpI (ltB rfl) (HasO.cnd (.tmp (hdl hd 8 42 rfl (by decide +kernel))) (notT (notF hq_15))) .cI (congrArg some hv_v_24))⟩)) ?_
      refine DSteps.cons (j := 11) rfl (fun _ => rfl) (.run (fun γ ρ B hb hd => ⟨.none, OpStep.at ⟨ρ, B, _⟩ (setO ⟨ρ, B, _⟩ (some 44) (.one (.val (S rB v_25)))) (op_pickCS (ltB rfl) (.tmp (hdl hd 6 40 rfl (by decide +kernel))) (fun hb16 => .cB) (fun hb16 => (HasO.cnd (.tmp (hdl hd 9 43 rfl (by decide +kernel))) (notT hb16))) hv_v_25)⟩)) ?_
      exact DSteps.nil)
                  (by decide +kernel) (fun _ => rfl) rfl (fun _ => rfl) (fun _ => rfl) rfl (by decide) (by decide)
                  (ρ' := fun γ => [(2, .one (.val (S (rL (rL (rU UInt8))) a_3))), (3, .one (.val (S (rL (rU UInt8)) a_4))), (5, .one (.val (PTR gb_6 0))), (44, .one (.val (S rB v_25)))])
                  (X' := fun γ => [cvar gb_5 r_api_Dot t_1, cvar gb_6 (rV 16 (rU UInt64)) a_2, cown go_14 (rU UInt8) v_12 0 gc_15, cown (deo (γ 3 0)) (rU UInt8) v_19 0 (γ 3 1)])
                  (fun γ ρ hb hd => (.cons (hb 2 _ rfl) (.cons (hb 3 _ rfl) (.cons (hb 5 _ rfl) (.cons (hdq hd 10 44 rfl) .nil))))) (fun _ => rfl) (fun γ => ?_)
              generalize (deo (γ 3 0)) = go_20
              generalize (γ 3 1) = gc_21
              clear γ
              refine JQ.at ⟨[(2, .one (.val (S (rL (rL (rU UInt8))) a_3))), (3, .one (.val (S (rL (rU UInt8)) a_4))), (5, .one (.val (PTR gb_6 0))), (44, .one (.val (S rB v_25)))], [cvar gb_5 r_api_Dot t_1, cvar gb_6 (rV 16 (rU UInt64)) a_2, cown go_14 (rU UInt8) v_12 0 gc_15, cown go_20 (rU UInt8) v_19 0 gc_21], []⟩ ?_
              replace hx12 := Option.some.inj hx12
              subst hx12
              exact JQ.join () (Imp.norm (js := [1]) rfl (.cons rfl (.cons rfl (.cons rfl (.cons rfl .nil)))))
          · refine JC.condF (.tmp rfl) hc11 ?_
            obtain ⟨x_31, hx18, hq18⟩ := bnd_inv hq8
            refine JC.seqJ (γ := Unit) (stj := fun q => ⟨[(2, .one (.val (S (rL (rL (rU UInt8))) a_3))), (3, .one (.val (S (rL (rU UInt8)) a_4))), (5, .one (.val (PTR gb_6 0))), (52, .one (.val (S rB x_31)))], [cvar gb_6 (rV 16 (rU UInt64)) a_2], []⟩) (fun q => ?_) ?_
            · obtain _ := q
              refine JC.at ⟨[(2, .one (.val (S (rL (rL (rU UInt8))) a_3))), (3, .one (.val (S (rL (rU UInt8)) a_4))), (5, .one (.val (PTR gb_6 0))), (52, .one (.val (S rB x_31)))], [cvar gb_6 (rV 16 (rU UInt64)) a_2], []⟩ ?_
              rcases iteB_inv hq18 with ⟨hc23, hq18⟩ | ⟨hc23, hq18⟩
              · refine JC.condT (.tmp rfl) hc23 ?_
                refine JC.seq ?_
                refine JC.region ?_
                refine JL.cons rfl (op_assign (ltB rfl) .cB) ?_
                refine JL.nil ?_
                refine JQ.then ?_
                refine JC.ret ?_
                replace hq18 := Option.some.inj hq18
                subst hq18
                dsimp only at hq7
                refine JQ.outR ?_
                replace hq7 := Option.some.inj hq7
                subst hq7
                exact JQ.done (js := []) (ss := [.val (S rB false)]) () (.inl rfl) (.nil rfl) rfl (.cons (.tmp rfl) .nil) rfl rfl rfl
              · refine JC.condF (.tmp rfl) hc23 ?_
                refine JC.skip ?_
                replace hq18 := Option.some.inj hq18
                subst hq18
                exact JQ.joinK () () rfl (Imp.norm (js := [0]) rfl (.cons rfl (.cons rfl (.cons rfl .nil))))
            · refine JC.region ?_
              refine JL.cons rfl (op_move (ltB rfl) (.tmp rfl)) ?_
              refine JL.cons rfl (op_lenH (ltB rfl) tu23 (.tmp rfl)) ?_
              replace hx18 := lt1_inv hx18
              obtain ⟨v_27, hv_v_27, hx18⟩ := hx18
              refine JL.cons rfl (op_cmpI (ltB rfl) (.tmp rfl) .cI (congrArg some hv_v_27)) ?_
              refine JL.cons rfl (op_move (ltB rfl) (.tmp rfl)) ?_
              refine JL.cnd (sv := .one (.val (S (rI .i64) v_13))) (Guard.isF (ltB rfl) rfl rfl) rfl (ltB rfl) (fun hq_19 => op_move (ltB rfl) (.tmp rfl)) ?_
              replace hx18 := bnd_inv hx18
              obtain ⟨_, hv_u_28, hx18⟩ := hx18
              refine JL.cnd (sv := .one (.val (S (rI .i64) v_13))) (Guard.isF (ltB rfl) rfl rfl) rfl (ltB rfl) (fun hq_20 => (op_call (js := []) (ltD rfl) cl13 (sim_law01_num k v_13 () (ifT hv_u_28 hq_20)) .func (.cons (HasO.cnd (.tmp rfl) (notT (notF hq_20))) .nil) rfl).post (fun _ => Imp.refl)) ?_
              refine JL.pre (Imp.norm (ρ' := [(2, .one (.val (S (rL (rL (rU UInt8))) a_3))), (3, .one (.val (S (rL (rU UInt8)) a_4))), (5, .one (.val (PTR gb_6 0))), (48, .one (.val (S rB v_27))), (50, bif (!v_27) then .one (.val (S (rI .i64) v_13)) else .one .und)]) (js := [1]) rfl (.cons rfl (.cons rfl (.cons rfl (.cons rfl (.cons rfl .nil)))))) ?_
              refine JL.at ⟨[(2, .one (.val (S (rL (rL (rU UInt8))) a_3))), (3, .one (.val (S (rL (rU UInt8)) a_4))), (5, .one (.val (PTR gb_6 0))), (48, .one (.val (S rB v_27))), (50, bif (!v_27) then .one (.val (S (rI .i64) v_13)) else .one .und)], [cvar gb_6 (rV 16 (rU UInt64)) a_2], []⟩ ?_
              replace hx18 := lt1_inv hx18
              obtain ⟨v_29, hv_v_29, hx18⟩ := hx18
              refine JL.cnd (sv := .one (.val (S rB v_29))) (Guard.isF (ltB rfl) rfl rfl) rfl (ltB rfl) (fun hq_21 => op_cmpI (ltB rfl) (HasO.cnd (.tmp rfl) (notT (notF hq_21))) .cI (congrArg some hv_v_29)) ?_
              replace hx18 := lt1_inv hx18
              obtain ⟨v_30, hv_v_30, hx18⟩ := hx18
              refine JL.cons rfl (op_pickCS (ltB rfl) (.tmp rfl) (fun hb22 => .cB) (fun hb22 => (HasO.cnd (.tmp rfl) (notT hb22))) hv_v_30) ?_
              refine JL.nil ?_
              replace hx18 := Option.some.inj hx18
              subst hx18
              exact JQ.join () (Imp.norm (js := [0]) rfl (.cons rfl (.cons rfl (.cons rfl (.cons rfl .nil)))))
        · refine JC.region ?_
          refine JL.cons rfl (op_fieldAddr (off := 0) (ltB rfl) tf48_0 (.tmp rfl)) ?_
          refine JL.pre (Imp.sub (ρ' := [(2, .one (.val (S (rL (rL (rU UInt8))) a_3))), (3, .one (.val (S (rL (rU UInt8)) a_4))), (4, .one (.val (PTR gb_5 0))), (5, .one (.val (PTR gb_6 0))), (9, .one (.val (HDR go_14 0 (List.length v_12) gc_15))), (10, .one (.val (S (rI .i64) v_13))), (26, .one (.val (PTR gb_5 (0 + 0))))]) (.cons rfl (.cons rfl (.cons rfl (.cons rfl (.cons rfl (.cons rfl (.cons rfl .nil)))))))) ?_
          refine JL.at ⟨[(2, .one (.val (S (rL (rL (rU UInt8))) a_3))), (3, .one (.val (S (rL (rU UInt8)) a_4))), (4, .one (.val (PTR gb_5 0))), (5, .one (.val (PTR gb_6 0))), (9, .one (.val (HDR go_14 0 (List.length v_12) gc_15))), (10, .one (.val (S (rI .i64) v_13))), (26, .one (.val (PTR gb_5 (0 + 0))))], [cown go_14 (rU UInt8) v_12 0 gc_15, cvar gb_5 r_api_Dot t_1, cvar gb_6 (rV 16 (rU UInt64)) a_2], []⟩ ?_
          refine JL.cons rfl (op_loadS (j := 1) (ltB rfl) tS3 (.tmp rfl) rfl (Comp.trans (Comp.self r_api_Dot t_1) (comp_api_Dot_Region t_1) (Nat.le_of_ble_eq_true rfl)) rfl rfl) ?_
          replace hx8 := lt1_inv hx8
          obtain ⟨v_16, hv_v_16, hx8⟩ := hx8
          refine JL.cons rfl (op_cmpI (ltB rfl) (.tmp rfl) .cI (congrArg some hv_v_16)) ?_
          refine JL.cons rfl (op_move (ltB rfl) (.tmp rfl)) ?_
          rcases iteB_inv hx8 with ⟨hc10, hx8⟩ | ⟨hc10, hx8⟩
          · refine JL.run (.yes rfl (ltB rfl) rfl hc10) (op_fieldAddr (off := 0) (ltB rfl) tf48_0 (.tmp rfl)) ?_
            refine JL.run (.yes rfl (ltB rfl) rfl hc10) (op_loadS (j := 1) (ltB rfl) tS3 (.tmp rfl) rfl (Comp.trans (Comp.self r_api_Dot t_1) (comp_api_Dot_Region t_1) (Nat.le_of_ble_eq_true rfl)) rfl rfl) ?_
            replace hx8 := lt1_inv hx8
            obtain ⟨v_17, hv_v_17, hx8⟩ := hx8
            refine JL.run (.yes rfl (ltB rfl) rfl hc10) (op_cmpI (ltB rfl) (.tmp rfl) .cI (congrArg some hv_v_17)) ?_
            refine JL.pre (Imp.sub (ρ' := [(2, .one (.val (S (rL (rL (rU UInt8))) a_3))), (3, .one (.val (S (rL (rU UInt8)) a_4))), (4, .one (.val (PTR gb_5 0))), (5, .one (.val (PTR gb_6 0))), (9, .one (.val (HDR go_14 0 (List.length v_12) gc_15))), (10, .one (.val (S (rI .i64) v_13))), (29, .one (.val (S rB v_16))), (32, .one (.val (S rB v_17)))]) (.cons rfl (.cons rfl (.cons rfl (.cons rfl (.cons rfl (.cons rfl (.cons rfl (.cons rfl .nil))))))))) ?_
            refine JL.at ⟨[(2, .one (.val (S (rL (rL (rU UInt8))) a_3))), (3, .one (.val (S (rL (rU UInt8)) a_4))), (4, .one (.val (PTR gb_5 0))), (5, .one (.val (PTR gb_6 0))), (9, .one (.val (HDR go_14 0 (List.length v_12) gc_15))), (10, .one (.val (S (rI .i64) v_13))), (29, .one (.val (S rB v_16))), (32, .one (.val (S rB v_17)))], [cown go_14 (rU UInt8) v_12 0 gc_15, cvar gb_5 r_api_Dot t_1, cvar gb_6 (rV 16 (rU UInt64)) a_2], []⟩ ?_
            refine JL.cons rfl (op_pickT (ltB rfl) (.tmp rfl) hc10 (.tmp rfl)) ?_
            refine JL.nil ?_
            replace hx8 := Option.some.inj hx8
            subst hx8
            exact JQ.join () (Imp.norm (js := [1, 1, 0]) rfl (.cons rfl (.cons rfl (.cons rfl (.cons rfl (.cons rfl (.cons rfl (.cons rfl .nil))))))))
          · refine JL.skip (.no rfl (ltB rfl) rfl hc10) (fun d h => by cases h; exact ltB rfl) ?_
            refine JL.skip (.no rfl (ltB rfl) rfl hc10) (fun d h => by cases h; exact ltB rfl) ?_
            refine JL.skip (.no rfl (ltB rfl) rfl hc10) (fun d h => by cases h; exact ltB rfl) ?_
            refine JL.cons rfl (op_pickF (ltB rfl) (.tmp rfl) hc10 .cB) ?_
            refine JL.nil ?_
            replace hx8 := Option.some.inj hx8
            subst hx8
            exact JQ.join () (Imp.norm (js := [1, 1, 0]) rfl (.cons rfl (.cons rfl (.cons rfl (.cons rfl (.cons rfl (.cons rfl (.cons rfl .nil))))))))
  · refine JC.region ?_
    refine JL.cons rfl (op_move (ltB rfl) (.tmp rfl)) ?_
    replace hx1 := bnd_inv hx1
    obtain ⟨v_7, hv_v_7, hx1⟩ := hx1
    refine JL.consX rfl (op_call (js := []) (ltD rfl) cl29 (sim_ref01_Much k a_3 (9000 : Int) v_7 hv_v_7) .func (.cons (.tmp rfl) (.cons .cI .nil)) rfl) (fun _ => ?_)
    refine JL.cons rfl (op_move (ltB rfl) (.tmp rfl)) ?_
    refine JL.cnd (sv := .one (.val (S (rL (rU UInt8)) a_4))) (Guard.isF (ltB rfl) rfl rfl) rfl (ltB rfl) (fun hq_2 => op_move (ltB rfl) (.tmp rfl)) ?_
    refine JL.cnd (sv := .one (.val (S (rI .i64) (List.length a_4 : Int)))) (Guard.isF (ltB rfl) rfl rfl) rfl (ltB rfl) (fun hq_3 => op_lenL (ltB rfl) tu23 (HasO.cnd (.tmp rfl) (notT (notF hq_3)))) ?_
    refine JL.pre (Imp.sub (ρ' := [(2, .one (.val (S (rL (rL (rU UInt8))) a_3))), (3, .one (.val (S (rL (rU UInt8)) a_4))), (4, .one (.val (PTR gb_5 0))), (5, .one (.val (PTR gb_6 0))), (15, .one (.val (S rB v_7))), (17, bif (!v_7) then .one (.val (S (rI .i64) (List.length a_4 : Int))) else .one .und)]) (.cons rfl (.cons rfl (.cons rfl (.cons rfl (.cons rfl (.cons rfl .nil))))))) ?_
    refine JL.at ⟨[(2, .one (.val (S (rL (rL (rU UInt8))) a_3))), (3, .one (.val (S (rL (rU UInt8)) a_4))), (4, .one (.val (PTR gb_5 0))), (5, .one (.val (PTR gb_6 0))), (15, .one (.val (S rB v_7))), (17, bif (!v_7) then .one (.val (S (rI .i64) (List.length a_4 : Int))) else .one .und)], [cvar gb_5 r_api_Dot t_1, cvar gb_6 (rV 16 (rU UInt64)) a_2], []⟩ ?_
    replace hx1 := lt1_inv hx1
    obtain ⟨v_8, hv_v_8, hx1⟩ := hx1
    refine JL.cnd (sv := .one (.val (S rB v_8))) (Guard.isF (ltB rfl) rfl rfl) rfl (ltB rfl) (fun hq_4 => op_cmpI (ltB rfl) (HasO.cnd (.tmp rfl) (notT (notF hq_4))) .cI (congrArg some hv_v_8)) ?_
    replace hx1 := lt1_inv hx1
    obtain ⟨v_9, hv_v_9, hx1⟩ := hx1
    refine JL.cons rfl (op_pickCS (ltB rfl) (.tmp rfl) (fun hb5 => .cB) (fun hb5 => (HasO.cnd (.tmp rfl) (notT hb5))) hv_v_9) ?_
    refine JL.nil ?_
    replace hx1 := Option.some.inj hx1
    subst hx1
    exact JQ.join () (Imp.norm (js := [0, 0]) rfl (.cons rfl (.cons rfl (.cons rfl (.cons rfl (.cons rfl .nil))))))

end Go.Proofs.Ytkbkdfcakpbojaa
