/- Walks. -/
import Derived.Test.YtnhiiabdoichlaaT
import Derived.Test.YtnhiiabdoichlaaW0
import Derived.Test.YtnhiiabdoichlaaW3
import Derived.Test.YtnhiiabdoichlaaW6
namespace Go.Proofs.Ytnhiiabdoichlaa
open Go Fw
set_option linter.unusedVariables false
set_option maxRecDepth 100000
set_option maxHeartbeats 4000000

theorem sim_sha_Code (k : Nat) (secret_1 : (List UInt8)) (l_2 : (List (List UInt8))) (r : (Vector UInt8 32)) (hm : sha_Code k secret_1 l_2 = some r) : Sim Try.prog 32 [S (rL (rU UInt8)) secret_1, S (rL (rL (rU UInt8))) l_2] [] (γ := Unit) (fun q => []) (fun q => .one (.val (A (rV 32 (rU UInt8)) r))) := by
  unfold sha_Code at hm
  refine Sim.of Try.func32 rfl rfl (Nat.le_of_ble_eq_true rfl) (fun e0 w0 => ?_)
  refine JC.at ⟨[(0, .one (.val (S (rL (rU UInt8)) secret_1))), (1, .one (.val (S (rL (rL (rU UInt8))) l_2)))], [], []⟩ ?_
  refine JC.seq ?_
  refine JC.region ?_
  refine JL.consX rfl (op_alloc (ltB rfl) tZ45 zr45) (fun q => ?_)
  obtain ⟨gb_3, hqq⟩ : ∃ z, z = q := ⟨_, rfl⟩
  subst hqq
  refine JL.pre (Imp.sub (ρ' := [(0, .one (.val (S (rL (rU UInt8)) secret_1))), (1, .one (.val (S (rL (rL (rU UInt8))) l_2))), (4, .one (.val (PTR gb_3 0)))]) (.cons rfl (.cons rfl (.cons rfl .nil)))) ?_
  refine JL.at ⟨[(0, .one (.val (S (rL (rU UInt8)) secret_1))), (1, .one (.val (S (rL (rL (rU UInt8))) l_2))), (4, .one (.val (PTR gb_3 0)))], [cvar gb_3 (rV 32 (rU UInt8)) (Vector.replicate 32 (0 : UInt8))], []⟩ ?_
  refine JL.nil ?_
  refine JQ.then ?_
  refine JC.seq ?_
  refine JC.region ?_
  replace hm := bnd_inv hm
  obtain ⟨v_4, hv_v_4, hm⟩ := hm
  refine JL.consX rfl (op_call (js := []) (ltD rfl) cl39 (sim_sha_begun k v_4 hv_v_4) .func .nil rfl) (fun _ => ?_)
  refine JL.consX rfl (op_alloc (ltB rfl) tZ70 zr70) (fun q => ?_)
  obtain ⟨gb_5, hqq⟩ : ∃ z, z = q := ⟨_, rfl⟩
  subst hqq
  refine JL.pre (Imp.sub (ρ' := [(0, .one (.val (S (rL (rU UInt8)) secret_1))), (1, .one (.val (S (rL (rL (rU UInt8))) l_2))), (4, .one (.val (PTR gb_3 0))), (5, .one (.val (PTR gb_5 0))), (11, .one (.val (A r_sha_state v_4)))]) (.cons rfl (.cons rfl (.cons rfl (.cons rfl (.cons rfl .nil)))))) ?_
  refine JL.at ⟨[(0, .one (.val (S (rL (rU UInt8)) secret_1))), (1, .one (.val (S (rL (rL (rU UInt8))) l_2))), (4, .one (.val (PTR gb_3 0))), (5, .one (.val (PTR gb_5 0))), (11, .one (.val (A r_sha_state v_4)))], [cvar gb_3 (rV 32 (rU UInt8)) (Vector.replicate 32 (0 : UInt8)), cvar gb_5 r_sha_state (sha_state.mk (Vector.replicate 8 (0 : UInt32)) (Vector.replicate 64 (0 : UInt32)))], []⟩ ?_
  refine JL.cons rfl (op_storeA (j := 1) tA70 (.tmp rfl) (.tmp rfl) rfl (UpdR.self (by rfl)) rfl) ?_
  refine JL.pre (Imp.sub (ρ' := [(0, .one (.val (S (rL (rU UInt8)) secret_1))), (1, .one (.val (S (rL (rL (rU UInt8))) l_2))), (4, .one (.val (PTR gb_3 0))), (5, .one (.val (PTR gb_5 0)))]) (.cons rfl (.cons rfl (.cons rfl (.cons rfl .nil))))) ?_
  refine JL.at ⟨[(0, .one (.val (S (rL (rU UInt8)) secret_1))), (1, .one (.val (S (rL (rL (rU UInt8))) l_2))), (4, .one (.val (PTR gb_3 0))), (5, .one (.val (PTR gb_5 0)))], [cvar gb_3 (rV 32 (rU UInt8)) (Vector.replicate 32 (0 : UInt8)), cvar gb_5 r_sha_state v_4], []⟩ ?_
  refine JL.nil ?_
  refine JQ.then ?_
  replace hm := bnd_inv hm
  obtain ⟨secret_10, hx1, hq1⟩ := hm
  refine JC.seqJ (γ := Unit) (stj := fun q => ⟨[(0, .one (.val (S (rL (rU UInt8)) secret_10))), (1, .one (.val (S (rL (rL (rU UInt8))) l_2))), (4, .one (.val (PTR gb_3 0))), (5, .one (.val (PTR gb_5 0)))], [cvar gb_3 (rV 32 (rU UInt8)) (Vector.replicate 32 (0 : UInt8)), cvar gb_5 r_sha_state v_4], []⟩) (fun q => ?_) ?_
  · obtain _ := q
    refine JC.at ⟨[(0, .one (.val (S (rL (rU UInt8)) secret_10))), (1, .one (.val (S (rL (rL (rU UInt8))) l_2))), (4, .one (.val (PTR gb_3 0))), (5, .one (.val (PTR gb_5 0)))], [cvar gb_3 (rV 32 (rU UInt8)) (Vector.replicate 32 (0 : UInt8)), cvar gb_5 r_sha_state v_4], []⟩ ?_
    refine JC.seq ?_
    refine JC.region ?_
    refine JL.consX rfl (op_alloc (ltB rfl) tZ73 zr73) (fun q => ?_)
    obtain ⟨gb_11, hqq⟩ : ∃ z, z = q := ⟨_, rfl⟩
    subst hqq
    refine JL.pre (Imp.sub (ρ' := [(0, .one (.val (S (rL (rU UInt8)) secret_10))), (1, .one (.val (S (rL (rL (rU UInt8))) l_2))), (4, .one (.val (PTR gb_3 0))), (5, .one (.val (PTR gb_5 0))), (7, .one (.val (PTR gb_11 0)))]) (.cons rfl (.cons rfl (.cons rfl (.cons rfl (.cons rfl .nil)))))) ?_
    refine JL.at ⟨[(0, .one (.val (S (rL (rU UInt8)) secret_10))), (1, .one (.val (S (rL (rL (rU UInt8))) l_2))), (4, .one (.val (PTR gb_3 0))), (5, .one (.val (PTR gb_5 0))), (7, .one (.val (PTR gb_11 0)))], [cvar gb_3 (rV 32 (rU UInt8)) (Vector.replicate 32 (0 : UInt8)), cvar gb_5 r_sha_state v_4, cvar gb_11 (rV 64 (rU UInt8)) (Vector.replicate 64 (0 : UInt8))], []⟩ ?_
    refine JL.consX rfl (op_alloc (ltB rfl) tZ73 zr73) (fun q => ?_)
    obtain ⟨gb_12, hqq⟩ : ∃ z, z = q := ⟨_, rfl⟩
    subst hqq
    refine JL.pre (Imp.sub (ρ' := [(0, .one (.val (S (rL (rU UInt8)) secret_10))), (1, .one (.val (S (rL (rL (rU UInt8))) l_2))), (4, .one (.val (PTR gb_3 0))), (5, .one (.val (PTR gb_5 0))), (7, .one (.val (PTR gb_11 0))), (8, .one (.val (PTR gb_12 0)))]) (.cons rfl (.cons rfl (.cons rfl (.cons rfl (.cons rfl (.cons rfl .nil))))))) ?_
    refine JL.at ⟨[(0, .one (.val (S (rL (rU UInt8)) secret_10))), (1, .one (.val (S (rL (rL (rU UInt8))) l_2))), (4, .one (.val (PTR gb_3 0))), (5, .one (.val (PTR gb_5 0))), (7, .one (.val (PTR gb_11 0))), (8, .one (.val (PTR gb_12 0)))], [cvar gb_3 (rV 32 (rU UInt8)) (Vector.replicate 32 (0 : UInt8)), cvar gb_5 r_sha_state v_4, cvar gb_11 (rV 64 (rU UInt8)) (Vector.replicate 64 (0 : UInt8)), cvar gb_12 (rV 64 (rU UInt8)) (Vector.replicate 64 (0 : UInt8))], []⟩ ?_
    refine JL.nil ?_
    refine JQ.then ?_
    refine JC.seq ?_
    refine JC.region ?_
    refine JL.cons rfl (op_sliceAV (l := 0) (h := 64) (ltB rfl) tu73 tz5 (.tmp rfl) .none .none (Nat.le_of_ble_eq_true rfl) (Nat.le_of_ble_eq_true rfl) (ltB rfl)) ?_
    refine JL.cons rfl (op_move (ltB rfl) (.tmp rfl)) ?_
    replace hq1 := lt1_inv hq1
    obtain ⟨inner_13, hv_inner_13, hq1⟩ := hq1
    refine JL.cons rfl (op_copyAV (j := 2) (ltD rfl) tu22 tz5 (.tmp rfl) rfl (Comp.self (rV 64 (rU UInt8)) (Vector.replicate 64 (0 : UInt8))) (UpdR.self (by rfl)) (fun e a w => SrcN.list (.tmp rfl)) (Nat.le_of_ble_eq_true rfl) hv_inner_13 rfl rfl) ?_
    refine JL.pre (Imp.sub (ρ' := [(1, .one (.val (S (rL (rL (rU UInt8))) l_2))), (4, .one (.val (PTR gb_3 0))), (5, .one (.val (PTR gb_5 0))), (7, .one (.val (PTR gb_11 0))), (8, .one (.val (PTR gb_12 0)))]) (.cons rfl (.cons rfl (.cons rfl (.cons rfl (.cons rfl .nil)))))) ?_
    refine JL.at ⟨[(1, .one (.val (S (rL (rL (rU UInt8))) l_2))), (4, .one (.val (PTR gb_3 0))), (5, .one (.val (PTR gb_5 0))), (7, .one (.val (PTR gb_11 0))), (8, .one (.val (PTR gb_12 0)))], [cvar gb_3 (rV 32 (rU UInt8)) (Vector.replicate 32 (0 : UInt8)), cvar gb_5 r_sha_state v_4, cvar gb_11 (rV 64 (rU UInt8)) inner_13, cvar gb_12 (rV 64 (rU UInt8)) (Vector.replicate 64 (0 : UInt8))], []⟩ ?_
    refine JL.nil ?_
    refine JQ.then ?_
    refine JC.seq ?_
    refine JC.region ?_
    refine JL.cons rfl (op_loadA (j := 2) (ltB rfl) tA73 (.tmp rfl) rfl (Comp.self (rV 64 (rU UInt8)) inner_13) rfl) ?_
    refine JL.cons rfl (op_storeA (j := 3) tA73 (.tmp rfl) (.tmp rfl) rfl (UpdR.self (by rfl)) rfl) ?_
    refine JL.pre (Imp.sub (ρ' := [(1, .one (.val (S (rL (rL (rU UInt8))) l_2))), (4, .one (.val (PTR gb_3 0))), (5, .one (.val (PTR gb_5 0))), (7, .one (.val (PTR gb_11 0))), (8, .one (.val (PTR gb_12 0)))]) (.cons rfl (.cons rfl (.cons rfl (.cons rfl (.cons rfl .nil)))))) ?_
    refine JL.at ⟨[(1, .one (.val (S (rL (rL (rU UInt8))) l_2))), (4, .one (.val (PTR gb_3 0))), (5, .one (.val (PTR gb_5 0))), (7, .one (.val (PTR gb_11 0))), (8, .one (.val (PTR gb_12 0)))], [cvar gb_3 (rV 32 (rU UInt8)) (Vector.replicate 32 (0 : UInt8)), cvar gb_5 r_sha_state v_4, cvar gb_11 (rV 64 (rU UInt8)) inner_13, cvar gb_12 (rV 64 (rU UInt8)) inner_13], []⟩ ?_
    refine JL.nil ?_
    refine JQ.then ?_
    replace hq1 := bnd_inv hq1
    obtain ⟨⟨inner_29, outer_30⟩, hx3, hq3⟩ := hq1
    refine JC.seqJ (γ := Unit) (stj := fun q => ⟨[(1, .one (.val (S (rL (rL (rU UInt8))) l_2))), (4, .one (.val (PTR gb_3 0))), (5, .one (.val (PTR gb_5 0))), (7, .one (.val (PTR gb_11 0))), (8, .one (.val (PTR gb_12 0)))], [cvar gb_3 (rV 32 (rU UInt8)) (Vector.replicate 32 (0 : UInt8)), cvar gb_5 r_sha_state v_4, cvar gb_11 (rV 64 (rU UInt8)) inner_29, cvar gb_12 (rV 64 (rU UInt8)) outer_30], []⟩) (fun q => ?_) ?_
    · obtain _ := q
      refine JC.at ⟨[(1, .one (.val (S (rL (rL (rU UInt8))) l_2))), (4, .one (.val (PTR gb_3 0))), (5, .one (.val (PTR gb_5 0))), (7, .one (.val (PTR gb_11 0))), (8, .one (.val (PTR gb_12 0)))], [cvar gb_3 (rV 32 (rU UInt8)) (Vector.replicate 32 (0 : UInt8)), cvar gb_5 r_sha_state v_4, cvar gb_11 (rV 64 (rU UInt8)) inner_29, cvar gb_12 (rV 64 (rU UInt8)) outer_30], []⟩ ?_
      refine JC.seq ?_
      refine JC.pre (Imp.frzVar (j := 2) rfl (ImpK.slotP (s := 7) rfl (Comp.self (rV 64 (rU UInt8)) inner_29) ImpK.refl)) ?_
      replace hq3 := bnd_inv hq3
      obtain ⟨v_31, hv_v_31, hq3⟩ := hq3
      replace hq3 := bnd_inv hq3
      obtain ⟨x_33, hv_x_33, hq3⟩ := hq3
      replace hq3 := bnd_inv hq3
      obtain ⟨v_36, hv_v_36, hq3⟩ := hq3
      refine JC.anyE (kl := []) (kk := 0) (base := [(1, .one (.val (S (rL (rL (rU UInt8))) l_2))), (4, .one (.val (PTR gb_3 0))), (5, .one (.val (PTR gb_5 0))), (7, .one (.val (PT (rV 64 (rU UInt8)) inner_29))), (8, .one (.val (PTR gb_12 0)))])
          (fs := fun γ => [⟨some 38, .one (.val (A r_sha_state v_4))⟩, ⟨some 39, .one (.val (S (rL (rU UInt8)) v_31))⟩, ⟨some 40, .one (.val (HDR (some (γ 2 0)) 0 (List.length ([v_31] : (List (List UInt8)))) (1)))⟩, ⟨some 41, .one (.val (S (rL (rL (rU UInt8))) l_2))⟩, ⟨some 42, .one (.val (S (rL (rL (rU UInt8))) x_33))⟩, ⟨some 43, .one (.val (A (rV 32 (rU UInt8)) v_36))⟩, ⟨some 10, .one (.val (PTR (γ 6 0) 0))⟩, ⟨none, .one .any⟩])
          (rs := fun γ => [⟨cvar gb_3 (rV 32 (rU UInt8)) (Vector.replicate 32 (0 : UInt8)), none, none, []⟩, ⟨cvar gb_5 r_sha_state v_4, none, none, [0]⟩, ⟨cvar gb_12 (rV 64 (rU UInt8)) outer_30, none, none, []⟩, ⟨cown (some (γ 2 0)) (rL (rU UInt8)) ([v_31] : (List (List UInt8))) 0 (1), (some 2), (some 4), []⟩, ⟨cvar (γ 6 0) (rV 32 (rU UInt8)) (Vector.replicate 32 (0 : UInt8)), (some 6), (some 7), []⟩, ⟨cvar (γ 6 0) (rV 32 (rU UInt8)) v_36, (some 7), none, []⟩])
          (ds := [38, 39, 40, 41, 42, 43, 10]) (bs := [1, 4, 5, 7, 8]) (afts := [[], [], [2, 4, 5, 7], [], [], [], [6, 7], []]) (js := [0, 0, 0]) mixed (.cons rfl (.cons rfl (.cons rfl (.cons rfl (.cons rfl .nil))))) (fun _ => rfl)
          (by
      refine DSteps.cons (j := 1) rfl (fun _ => rfl) (.run (fun γ ρ B hb hd => ⟨.none, OpStep.at ⟨ρ, (cvar gb_5 r_sha_state v_4) :: B, _⟩ (setO ⟨ρ, (cvar gb_5 r_sha_state v_4) :: B, _⟩ (some 38) (.one (.val (A r_sha_state v_4)))) (op_loadA (j := 0) (ltB rfl) tA70 (.tmp (hb 5 _ rfl)) rfl (Comp.self r_sha_state v_4) rfl)⟩)) ?_
      refine DSteps.cons (j := 2) rfl (fun _ => rfl) (.run (fun γ ρ B hb hd => ⟨.none, OpStep.at ⟨ρ, B, _⟩ (setO ⟨ρ, B, _⟩ (some 39) (.one (.val (S (rL (rU UInt8)) v_31)))) (op_sliceP (ltB rfl) tu73 tz5 (.tmp (hb 7 _ rfl)) .none .none hv_v_31)⟩)) ?_
      refine DSteps.cons (j := 3) rfl (fun _ => rfl) (.runX (fun _ _ => rfl) (fun γ ρ B hb hd => ⟨.none, OpX.ghost (γ := Nat) (st' := fun q => setO ⟨ρ, (cown (some q) (rL (rU UInt8)) ([v_31] : (List (List UInt8))) 0 (1)) :: B, _⟩ (some 40) (.one (.val (HDR (some q) 0 (List.length ([v_31] : (List (List UInt8)))) (1))))) (fun q c => q) (OpX.front (op_buildO (r := (rL (rU UInt8))) (ltB rfl) tu65 tz22 tZ22 rfl (Nat.le_of_ble_eq_true rfl) (.S rfl (.tmp (hdl hd 1 39 rfl (by decide +kernel))) .nil) rfl)) (fun q => Imp.refl)⟩) (fun _ _ => rfl) (fun _ _ => rfl)) ?_
      refine DSteps.cons (j := 4) rfl (fun _ => rfl) (.run (fun γ ρ B hb hd => ⟨.none, OpStep.at ⟨ρ, B, _⟩ (setO ⟨ρ, B, _⟩ (some 41) (.one (.val (S (rL (rL (rU UInt8))) l_2)))) (op_move (ltB rfl) (.tmp (hb 1 _ rfl)))⟩)) ?_
      refine DSteps.cons (j := 5) rfl (fun _ => rfl) (.run (fun γ ρ B hb hd => ⟨.none, OpStep.at ⟨ρ, (cown (some (γ 2 0)) (rL (rU UInt8)) ([v_31] : (List (List UInt8))) 0 (1)) :: B, _⟩ (setO ⟨ρ, B, _⟩ (some 42) (.one (.val (S (rL (rL (rU UInt8))) x_33)))) ((op_appendL (j := 0) (ltB rfl) tu65 tu65 rfl tB22 rfl (Nat.lt_of_lt_of_le Nat.zero_lt_one (Nat.le_of_ble_eq_true rfl)) (Nat.lt_of_lt_of_le Nat.zero_lt_one (Nat.le_of_ble_eq_true rfl))  rfl (.tmp (hdl hd 2 40 rfl (by decide +kernel))) (.tmp (hdl hd 3 41 rfl (by decide +kernel))) hv_x_33).post (fun q => Imp.dropF (j := 0) rfl))⟩)) ?_
      refine DSteps.cons (j := 6) rfl (fun _ => rfl) (.run (fun γ ρ B hb hd => ⟨.none, OpStep.at ⟨ρ, B, _⟩ (setO ⟨ρ, B, _⟩ (some 43) (.one (.val (A (rV 32 (rU UInt8)) v_36)))) ((op_call (js := []) (ltD rfl) cl40 (sim_sha_state_hash k v_4 x_33 v_36 hv_v_36) .func (.cons (.tmp (hdl hd 0 38 rfl (by decide +kernel))) (.cons (.tmp (hdl hd 4 42 rfl (by decide +kernel))) .nil)) rfl).post (fun _ => Imp.refl))⟩)) ?_
      refine DSteps.cons (j := 7) rfl (fun _ => rfl) (.runX (fun _ _ => rfl) (fun γ ρ B hb hd => ⟨.none, OpX.ghost (γ := Nat) (st' := fun q => setO ⟨ρ, (cvar q (rV 32 (rU UInt8)) (Vector.replicate 32 (0 : UInt8))) :: B, _⟩ (some 10) (.one (.val (PTR q 0)))) (fun q c => q) (OpX.front (op_alloc (ltB rfl) tZ45 zr45)) (fun q => Imp.refl)⟩) (fun _ _ => rfl) (fun _ _ => rfl)) ?_
      refine DSteps.cons (j := 8) rfl (fun _ => rfl) (.run (fun γ ρ B hb hd => ⟨.none, OpStep.at ⟨ρ, (cvar (γ 6 0) (rV 32 (rU UInt8)) (Vector.replicate 32 (0 : UInt8))) :: B, _⟩ (setO ⟨ρ, (cvar (γ 6 0) (rV 32 (rU UInt8)) v_36) :: B, _⟩ (none) (.one .any)) (op_storeA (j := 0) tA45 (.tmp (hdl hd 6 10 rfl (by decide +kernel))) (.tmp (hdl hd 5 43 rfl (by decide +kernel))) rfl (UpdR.self (by rfl)) rfl)⟩)) ?_
      exact DSteps.nil)
          (by decide +kernel) (fun _ => rfl) rfl (fun _ => rfl) (fun _ => rfl) rfl (by decide) (by decide) (by decide +kernel) (fun _ d h => by cases h)
          (ρ' := fun γ => [(4, .one (.val (PTR gb_3 0))), (5, .one (.val (PTR gb_5 0))), (8, .one (.val (PTR gb_12 0))), (10, .one (.val (PTR (γ 6 0) 0)))])
          (X' := fun γ => [cvar gb_3 (rV 32 (rU UInt8)) (Vector.replicate 32 (0 : UInt8)), cvar gb_5 r_sha_state v_4, cvar gb_12 (rV 64 (rU UInt8)) outer_30, cvar (γ 6 0) (rV 32 (rU UInt8)) v_36])
          (fun γ ρ hb hd => (.cons (hb 4 _ rfl (by decide)) (.cons (hb 5 _ rfl (by decide)) (.cons (hb 8 _ rfl (by decide)) (.cons (hdq hd 6 10 rfl) .nil))))) (fun _ => rfl) (fun γ => ?_)
      generalize (γ 2 0) = gb_32
      generalize (γ 6 0) = gb_37
      clear γ
      refine JQ.at ⟨[(4, .one (.val (PTR gb_3 0))), (5, .one (.val (PTR gb_5 0))), (8, .one (.val (PTR gb_12 0))), (10, .one (.val (PTR gb_37 0)))], [cvar gb_3 (rV 32 (rU UInt8)) (Vector.replicate 32 (0 : UInt8)), cvar gb_5 r_sha_state v_4, cvar gb_12 (rV 64 (rU UInt8)) outer_30, cvar gb_37 (rV 32 (rU UInt8)) v_36], []⟩ ?_
      refine JQ.then ?_
      refine JC.seq ?_
      refine JC.pre (Imp.frzVar (j := 2) rfl (ImpK.slotP (s := 8) rfl (Comp.self (rV 64 (rU UInt8)) outer_30) ImpK.refl)) ?_
      refine JC.pre (Imp.frzVar (j := 2) rfl (ImpK.slotP (s := 10) rfl (Comp.self (rV 32 (rU UInt8)) v_36) ImpK.refl)) ?_
      replace hq3 := bnd_inv hq3
      obtain ⟨v_38, hv_v_38, hq3⟩ := hq3
      replace hq3 := bnd_inv hq3
      obtain ⟨v_39, hv_v_39, hq3⟩ := hq3
      replace hq3 := bnd_inv hq3
      obtain ⟨v_40, hv_v_40, hq3⟩ := hq3
      refine JC.anyE (kl := []) (kk := 0) (base := [(4, .one (.val (PTR gb_3 0))), (5, .one (.val (PTR gb_5 0))), (8, .one (.val (PT (rV 64 (rU UInt8)) outer_30))), (10, .one (.val (PT (rV 32 (rU UInt8)) v_36)))])
          (fs := fun γ => [⟨some 44, .one (.val (A r_sha_state v_4))⟩, ⟨some 45, .one (.val (S (rL (rU UInt8)) v_38))⟩, ⟨some 46, .one (.val (S (rL (rU UInt8)) v_39))⟩, ⟨some 47, .one (.val (S (rL (rL (rU UInt8))) ([v_38, v_39] : (List (List UInt8)))))⟩, ⟨some 48, .one (.val (A (rV 32 (rU UInt8)) v_40))⟩, ⟨none, .one .any⟩])
          (rs := fun γ => [⟨cvar gb_3 (rV 32 (rU UInt8)) (Vector.replicate 32 (0 : UInt8)), none, (some 5), []⟩, ⟨cvar gb_5 r_sha_state v_4, none, none, [0]⟩, ⟨cvar gb_3 (rV 32 (rU UInt8)) v_40, (some 5), none, []⟩])
          (ds := [44, 45, 46, 47, 48]) (bs := [4, 5, 8, 10]) (afts := [[], [], [], [], [], []]) (js := [0, 0]) mixed (.cons rfl (.cons rfl (.cons rfl (.cons rfl .nil)))) (fun _ => rfl)
          (by
      refine DSteps.cons (j := 1) rfl (fun _ => rfl) (.run (fun γ ρ B hb hd => ⟨.none, OpStep.at ⟨ρ, (cvar gb_5 r_sha_state v_4) :: B, _⟩ (setO ⟨ρ, (cvar gb_5 r_sha_state v_4) :: B, _⟩ (some 44) (.one (.val (A r_sha_state v_4)))) (op_loadA (j := 0) (ltB rfl) tA70 (.tmp (hb 5 _ rfl)) rfl (Comp.self r_sha_state v_4) rfl)⟩)) ?_
      refine DSteps.cons (j := 2) rfl (fun _ => rfl) (.run (fun γ ρ B hb hd => ⟨.none, OpStep.at ⟨ρ, B, _⟩ (setO ⟨ρ, B, _⟩ (some 45) (.one (.val (S (rL (rU UInt8)) v_38)))) (op_sliceP (ltB rfl) tu73 tz5 (.tmp (hb 8 _ rfl)) .none .none hv_v_38)⟩)) ?_
      refine DSteps.cons (j := 3) rfl (fun _ => rfl) (.run (fun γ ρ B hb hd => ⟨.none, OpStep.at ⟨ρ, B, _⟩ (setO ⟨ρ, B, _⟩ (some 46) (.one (.val (S (rL (rU UInt8)) v_39)))) (op_sliceP (ltB rfl) tu45 tz5 (.tmp (hb 10 _ rfl)) .none .none hv_v_39)⟩)) ?_
      refine DSteps.cons (j := 4) rfl (fun _ => rfl) (.run (fun γ ρ B hb hd => ⟨.none, OpStep.at ⟨ρ, B, _⟩ (setO ⟨ρ, B, _⟩ (some 47) (.one (.val (S (rL (rL (rU UInt8))) ([v_38, v_39] : (List (List UInt8))))))) (op_buildF (r := (rL (rU UInt8))) (ltB rfl) tu65 tz22 tZ22 rfl (Nat.le_of_ble_eq_true rfl) (.S rfl (.tmp (hdl hd 1 45 rfl (by decide +kernel))) (.S rfl (.tmp (hdl hd 2 46 rfl (by decide +kernel))) .nil)) rfl)⟩)) ?_
      refine DSteps.cons (j := 5) rfl (fun _ => rfl) (.run (fun γ ρ B hb hd => ⟨.none, OpStep.at ⟨ρ, B, _⟩ (setO ⟨ρ, B, _⟩ (some 48) (.one (.val (A (rV 32 (rU UInt8)) v_40)))) ((op_call (js := []) (ltD rfl) cl40 (sim_sha_state_hash k v_4 ([v_38, v_39] : (List (List UInt8))) v_40 hv_v_40) .func (.cons (.tmp (hdl hd 0 44 rfl (by decide +kernel))) (.cons (.tmp (hdl hd 3 47 rfl (by decide +kernel))) .nil)) rfl).post (fun _ => Imp.refl))⟩)) ?_
      refine DSteps.cons (j := 6) rfl (fun _ => rfl) (.run (fun γ ρ B hb hd => ⟨.none, OpStep.at ⟨ρ, (cvar gb_3 (rV 32 (rU UInt8)) (Vector.replicate 32 (0 : UInt8))) :: B, _⟩ (setO ⟨ρ, (cvar gb_3 (rV 32 (rU UInt8)) v_40) :: B, _⟩ (none) (.one .any)) (op_storeA (j := 0) tA45 (.tmp (hb 4 _ rfl)) (.tmp (hdl hd 4 48 rfl (by decide +kernel))) rfl (UpdR.self (by rfl)) rfl)⟩)) ?_
      exact DSteps.nil)
          (by decide +kernel) (fun _ => rfl) rfl (fun _ => rfl) (fun _ => rfl) rfl (by decide) (by decide) (by decide +kernel) (fun _ d h => by cases h)
          (ρ' := fun γ => [(4, .one (.val (PTR gb_3 0)))])
          (X' := fun γ => [cvar gb_5 r_sha_state v_4, cvar gb_3 (rV 32 (rU UInt8)) v_40])
          (fun γ ρ hb hd => (.cons (hb 4 _ rfl (by decide)) .nil)) (fun _ => rfl) (fun γ => ?_)
      refine JQ.at ⟨[(4, .one (.val (PTR gb_3 0)))], [cvar gb_5 r_sha_state v_4, cvar gb_3 (rV 32 (rU UInt8)) v_40], []⟩ ?_
      refine JQ.then ?_
      refine JC.ret ?_
      replace hq3 := Option.some.inj hq3
      subst hq3
      exact JQ.done (js := []) (ss := [.val (A (rV 32 (rU UInt8)) v_40)]) () (.inl rfl) (.nil rfl) rfl (.cons (.cellA (j := 1) tA45 rfl rfl) .nil) rfl rfl rfl
    · refine JC.seq ?_
      refine JC.region ?_
      refine JL.cons rfl (op_move (ltB rfl) .cI) ?_
      refine JL.nil ?_
      refine JQ.then ?_
      refine JC.block ?_
      refine JC.pre ?_ (JC.loop (γ := Unit) (stf := fun s q => ⟨[(1, .one (.val (S (rL (rL (rU UInt8))) l_2))), (4, .one (.val (PTR gb_3 0))), (5, .one (.val (PTR gb_5 0))), (7, .one (.val (PTR gb_11 0))), (8, .one (.val (PTR gb_12 0))), (24, .one (.val (S (rI .i64) s.2.2)))], [cvar gb_3 (rV 32 (rU UInt8)) (Vector.replicate 32 (0 : UInt8)), cvar gb_5 r_sha_state v_4, cvar gb_11 (rV 64 (rU UInt8)) s.1, cvar gb_12 (rV 64 (rU UInt8)) s.2.1], []⟩) (q := ()) hx3 ?_)
      · exact (Imp.norm (js := [0, 0, 0, 0]) rfl (.cons rfl (.cons rfl (.cons rfl (.cons rfl (.cons rfl (.cons rfl .nil)))))))
      · intro s q x hx hr
        obtain ⟨inner_14, outer_15, x_16⟩ := s
        obtain _ := q
        change sha_Code.b1 k inner_14 outer_15 x_16 = some x at hx
        unfold sha_Code.b1 at hx
        refine JC.at ⟨[(1, .one (.val (S (rL (rL (rU UInt8))) l_2))), (4, .one (.val (PTR gb_3 0))), (5, .one (.val (PTR gb_5 0))), (7, .one (.val (PTR gb_11 0))), (8, .one (.val (PTR gb_12 0))), (24, .one (.val (S (rI .i64) x_16)))], [cvar gb_3 (rV 32 (rU UInt8)) (Vector.replicate 32 (0 : UInt8)), cvar gb_5 r_sha_state v_4, cvar gb_11 (rV 64 (rU UInt8)) inner_14, cvar gb_12 (rV 64 (rU UInt8)) outer_15], []⟩ ?_
        refine JC.seq ?_
        refine JC.region ?_
        replace hx := lt1_inv hx
        obtain ⟨v_17, hv_v_17, hx⟩ := hx
        refine JL.cons rfl (op_cmpI (ltB rfl) (.tmp rfl) .cI (congrArg some hv_v_17)) ?_
        refine JL.nil ?_
        refine JQ.then ?_
        refine JC.seq ?_
        replace hx := iteB_inv hx
        rcases hx with ⟨hc5, hx⟩ | ⟨hc5, hx⟩
        · refine JC.condT (.tmp rfl) hc5 ?_
          refine JC.skip ?_
          refine JQ.then ?_
          refine JC.seq ?_
          refine JC.block ?_
          refine JC.seq ?_
          refine JC.region ?_
          refine JL.cons rfl (op_move (ltB rfl) (.tmp rfl)) ?_
          refine JL.cons rfl (op_assign (ltB rfl) (.tmp rfl)) ?_
          refine JL.nil ?_
          refine JQ.then ?_
          refine JC.seq ?_
          refine JC.region ?_
          refine JL.cons rfl (op_move (ltB rfl) (.tmp rfl)) ?_
          replace hx := bnd_inv hx
          obtain ⟨i_18, hv_i_18, hx⟩ := hx
          refine JL.cons rfl (op_indexAddrIF (ltB rfl) tr73 (.tmp rfl) (.tmp rfl) hv_i_18) ?_
          replace hx := lt1_inv hx
          obtain ⟨v_19, hv_v_19, hx⟩ := hx
          refine JL.cons rfl (op_loadS (j := 2) (ltB rfl) tS5 (.tmp rfl) rfl (Comp.at (Comp.self (rV 64 (rU UInt8)) inner_14) i_18.2 rfl) rfl hv_v_19) ?_
          refine JL.pre (Imp.sub (ρ' := [(1, .one (.val (S (rL (rL (rU UInt8))) l_2))), (4, .one (.val (PTR gb_3 0))), (5, .one (.val (PTR gb_5 0))), (7, .one (.val (PTR gb_11 0))), (8, .one (.val (PTR gb_12 0))), (9, .one (.val (S (rI .i64) x_16))), (24, .one (.val (S (rI .i64) x_16))), (27, .one (.val (S (rI .i64) x_16))), (29, .one (.val (S (rU UInt8) v_19)))]) (.cons rfl (.cons rfl (.cons rfl (.cons rfl (.cons rfl (.cons rfl (.cons rfl (.cons rfl (.cons rfl .nil)))))))))) ?_
          refine JL.at ⟨[(1, .one (.val (S (rL (rL (rU UInt8))) l_2))), (4, .one (.val (PTR gb_3 0))), (5, .one (.val (PTR gb_5 0))), (7, .one (.val (PTR gb_11 0))), (8, .one (.val (PTR gb_12 0))), (9, .one (.val (S (rI .i64) x_16))), (24, .one (.val (S (rI .i64) x_16))), (27, .one (.val (S (rI .i64) x_16))), (29, .one (.val (S (rU UInt8) v_19)))], [cvar gb_3 (rV 32 (rU UInt8)) (Vector.replicate 32 (0 : UInt8)), cvar gb_5 r_sha_state v_4, cvar gb_11 (rV 64 (rU UInt8)) inner_14, cvar gb_12 (rV 64 (rU UInt8)) outer_15], []⟩ ?_
          replace hx := lt1_inv hx
          obtain ⟨v_20, hv_v_20, hx⟩ := hx
          refine JL.cons rfl (op_arU (ltB rfl) (.tmp rfl) (HasO.cU (x := (54 : UInt8)) rfl (by decide)) (congrArg some hv_v_20)) ?_
          replace hx := bnd_inv hx
          obtain ⟨i_21, hv_i_21, hx⟩ := hx
          refine JL.cons rfl (op_indexAddrIF (ltB rfl) tr73 (.tmp rfl) (.tmp rfl) hv_i_21) ?_
          replace hx := lt1_inv hx
          obtain ⟨inner_22, hv_inner_22, hx⟩ := hx
          refine JL.cons rfl (op_storeS (j := 2) tS5 (.tmp rfl) (.tmp rfl) rfl rfl (Upd.at (Comp.self (rV 64 (rU UInt8)) inner_14) i_21.2 rfl (Upd.self (rV 64 (rU UInt8)) inner_14 _)).R hv_inner_22) ?_
          refine JL.pre (Imp.sub (ρ' := [(1, .one (.val (S (rL (rL (rU UInt8))) l_2))), (4, .one (.val (PTR gb_3 0))), (5, .one (.val (PTR gb_5 0))), (7, .one (.val (PTR gb_11 0))), (8, .one (.val (PTR gb_12 0))), (9, .one (.val (S (rI .i64) x_16))), (24, .one (.val (S (rI .i64) x_16)))]) (.cons rfl (.cons rfl (.cons rfl (.cons rfl (.cons rfl (.cons rfl (.cons rfl .nil)))))))) ?_
          refine JL.at ⟨[(1, .one (.val (S (rL (rL (rU UInt8))) l_2))), (4, .one (.val (PTR gb_3 0))), (5, .one (.val (PTR gb_5 0))), (7, .one (.val (PTR gb_11 0))), (8, .one (.val (PTR gb_12 0))), (9, .one (.val (S (rI .i64) x_16))), (24, .one (.val (S (rI .i64) x_16)))], [cvar gb_3 (rV 32 (rU UInt8)) (Vector.replicate 32 (0 : UInt8)), cvar gb_5 r_sha_state v_4, cvar gb_11 (rV 64 (rU UInt8)) inner_22, cvar gb_12 (rV 64 (rU UInt8)) outer_15], []⟩ ?_
          refine JL.nil ?_
          refine JQ.then ?_
          refine JC.region ?_
          refine JL.cons rfl (op_move (ltB rfl) (.tmp rfl)) ?_
          replace hx := bnd_inv hx
          obtain ⟨i_23, hv_i_23, hx⟩ := hx
          refine JL.cons rfl (op_indexAddrIF (ltB rfl) tr73 (.tmp rfl) (.tmp rfl) hv_i_23) ?_
          replace hx := lt1_inv hx
          obtain ⟨v_24, hv_v_24, hx⟩ := hx
          refine JL.cons rfl (op_loadS (j := 3) (ltB rfl) tS5 (.tmp rfl) rfl (Comp.at (Comp.self (rV 64 (rU UInt8)) outer_15) i_23.2 rfl) rfl hv_v_24) ?_
          replace hx := lt1_inv hx
          obtain ⟨v_25, hv_v_25, hx⟩ := hx
          refine JL.cons rfl (op_arU (ltB rfl) (.tmp rfl) (HasO.cU (x := (92 : UInt8)) rfl (by decide)) (congrArg some hv_v_25)) ?_
          replace hx := bnd_inv hx
          obtain ⟨i_26, hv_i_26, hx⟩ := hx
          refine JL.cons rfl (op_indexAddrIF (ltB rfl) tr73 (.tmp rfl) (.tmp rfl) hv_i_26) ?_
          replace hx := lt1_inv hx
          obtain ⟨outer_27, hv_outer_27, hx⟩ := hx
          refine JL.cons rfl (op_storeS (j := 3) tS5 (.tmp rfl) (.tmp rfl) rfl rfl (Upd.at (Comp.self (rV 64 (rU UInt8)) outer_15) i_26.2 rfl (Upd.self (rV 64 (rU UInt8)) outer_15 _)).R hv_outer_27) ?_
          refine JL.pre (Imp.sub (ρ' := [(1, .one (.val (S (rL (rL (rU UInt8))) l_2))), (4, .one (.val (PTR gb_3 0))), (5, .one (.val (PTR gb_5 0))), (7, .one (.val (PTR gb_11 0))), (8, .one (.val (PTR gb_12 0))), (24, .one (.val (S (rI .i64) x_16)))]) (.cons rfl (.cons rfl (.cons rfl (.cons rfl (.cons rfl (.cons rfl .nil))))))) ?_
          refine JL.at ⟨[(1, .one (.val (S (rL (rL (rU UInt8))) l_2))), (4, .one (.val (PTR gb_3 0))), (5, .one (.val (PTR gb_5 0))), (7, .one (.val (PTR gb_11 0))), (8, .one (.val (PTR gb_12 0))), (24, .one (.val (S (rI .i64) x_16)))], [cvar gb_3 (rV 32 (rU UInt8)) (Vector.replicate 32 (0 : UInt8)), cvar gb_5 r_sha_state v_4, cvar gb_11 (rV 64 (rU UInt8)) inner_22, cvar gb_12 (rV 64 (rU UInt8)) outer_27], []⟩ ?_
          refine JL.nil ?_
          refine JQ.outNB ?_
          refine JQ.then ?_
          refine JC.region ?_
          replace hx := lt1_inv hx
          obtain ⟨v_28, hv_v_28, hx⟩ := hx
          refine JL.cons rfl (op_arI (ltB rfl) (.tmp rfl) .cI (congrArg some hv_v_28)) ?_
          refine JL.cons rfl (op_move (ltB rfl) (.tmp rfl)) ?_
          refine JL.nil ?_
          replace hx := Option.some.inj hx
          first | subst hx | clear hx
          exact JQ.next () rfl (Imp.norm (js := [0, 0, 0, 0]) rfl (.cons rfl (.cons rfl (.cons rfl (.cons rfl (.cons rfl (.cons rfl .nil)))))))
        · refine JC.condF (.tmp rfl) hc5 ?_
          refine JC.exit ?_
          refine JQ.outX ?_
          replace hx := Option.some.inj hx
          first | subst hx | clear hx
          have ht := hr _ rfl
          have hq4 := congrArg some ht
          clear hr ht
          refine JQ.outX ?_
          refine JQ.here ?_
          replace hq4 := Option.some.inj hq4
          replace hq4 := Prod.mk.inj hq4
          obtain ⟨hq4_a, hq4⟩ := hq4
          first | subst hq4_a | clear hq4_a
          first | subst hq4 | clear hq4
          exact JQ.join () (Imp.norm (js := [0, 0, 0, 0]) rfl (.cons rfl (.cons rfl (.cons rfl (.cons rfl (.cons rfl .nil))))))
  · refine JC.seq ?_
    refine JC.region ?_
    refine JL.cons rfl (op_move (ltB rfl) (.tmp rfl)) ?_
    refine JL.cons rfl (op_lenL (ltB rfl) tu22 (.tmp rfl)) ?_
    replace hx1 := lt1_inv hx1
    obtain ⟨v_6, hv_v_6, hx1⟩ := hx1
    refine JL.cons rfl (op_cmpI (ltB rfl) (.tmp rfl) .cI (congrArg some hv_v_6)) ?_
    refine JL.nil ?_
    refine JQ.then ?_
    replace hx1 := iteB_inv hx1
    rcases hx1 with ⟨hc2, hx1⟩ | ⟨hc2, hx1⟩
    · refine JC.condT (.tmp rfl) hc2 ?_
      refine JC.seq ?_
      refine JC.region ?_
      refine JL.cons rfl (op_loadA (j := 1) (ltB rfl) tA70 (.tmp rfl) rfl (Comp.self r_sha_state v_4) rfl) ?_
      refine JL.cons rfl (op_move (ltB rfl) (.tmp rfl)) ?_
      refine JL.cons rfl (op_buildF (r := (rL (rU UInt8))) (ltB rfl) tu65 tz22 tZ22 rfl (Nat.le_of_ble_eq_true rfl) (.S rfl (.tmp rfl) .nil) rfl) ?_
      refine JL.pre (Imp.sub (ρ' := [(1, .one (.val (S (rL (rL (rU UInt8))) l_2))), (4, .one (.val (PTR gb_3 0))), (5, .one (.val (PTR gb_5 0))), (15, .one (.val (A r_sha_state v_4))), (17, .one (.val (S (rL (rL (rU UInt8))) ([secret_1] : (List (List UInt8))))))]) (.cons rfl (.cons rfl (.cons rfl (.cons rfl (.cons rfl .nil)))))) ?_
      refine JL.at ⟨[(1, .one (.val (S (rL (rL (rU UInt8))) l_2))), (4, .one (.val (PTR gb_3 0))), (5, .one (.val (PTR gb_5 0))), (15, .one (.val (A r_sha_state v_4))), (17, .one (.val (S (rL (rL (rU UInt8))) ([secret_1] : (List (List UInt8))))))], [cvar gb_3 (rV 32 (rU UInt8)) (Vector.replicate 32 (0 : UInt8)), cvar gb_5 r_sha_state v_4], []⟩ ?_
      replace hx1 := bnd_inv hx1
      obtain ⟨v_7, hv_v_7, hx1⟩ := hx1
      refine JL.consX rfl (op_call (js := []) (ltD rfl) cl40 (sim_sha_state_hash k v_4 ([secret_1] : (List (List UInt8))) v_7 hv_v_7) .func (.cons (.tmp rfl) (.cons (.tmp rfl) .nil)) rfl) (fun _ => ?_)
      refine JL.consX rfl (op_alloc (ltB rfl) tZ45 zr45) (fun q => ?_)
      obtain ⟨gb_8, hqq⟩ : ∃ z, z = q := ⟨_, rfl⟩
      subst hqq
      refine JL.pre (Imp.sub (ρ' := [(1, .one (.val (S (rL (rL (rU UInt8))) l_2))), (4, .one (.val (PTR gb_3 0))), (5, .one (.val (PTR gb_5 0))), (6, .one (.val (PTR gb_8 0))), (18, .one (.val (A (rV 32 (rU UInt8)) v_7)))]) (.cons rfl (.cons rfl (.cons rfl (.cons rfl (.cons rfl .nil)))))) ?_
      refine JL.at ⟨[(1, .one (.val (S (rL (rL (rU UInt8))) l_2))), (4, .one (.val (PTR gb_3 0))), (5, .one (.val (PTR gb_5 0))), (6, .one (.val (PTR gb_8 0))), (18, .one (.val (A (rV 32 (rU UInt8)) v_7)))], [cvar gb_3 (rV 32 (rU UInt8)) (Vector.replicate 32 (0 : UInt8)), cvar gb_5 r_sha_state v_4, cvar gb_8 (rV 32 (rU UInt8)) (Vector.replicate 32 (0 : UInt8))], []⟩ ?_
      refine JL.cons rfl (op_storeA (j := 2) tA45 (.tmp rfl) (.tmp rfl) rfl (UpdR.self (by rfl)) rfl) ?_
      refine JL.pre (Imp.sub (ρ' := [(1, .one (.val (S (rL (rL (rU UInt8))) l_2))), (4, .one (.val (PTR gb_3 0))), (5, .one (.val (PTR gb_5 0))), (6, .one (.val (PTR gb_8 0)))]) (.cons rfl (.cons rfl (.cons rfl (.cons rfl .nil))))) ?_
      refine JL.at ⟨[(1, .one (.val (S (rL (rL (rU UInt8))) l_2))), (4, .one (.val (PTR gb_3 0))), (5, .one (.val (PTR gb_5 0))), (6, .one (.val (PTR gb_8 0)))], [cvar gb_3 (rV 32 (rU UInt8)) (Vector.replicate 32 (0 : UInt8)), cvar gb_5 r_sha_state v_4, cvar gb_8 (rV 32 (rU UInt8)) v_7], []⟩ ?_
      refine JL.nil ?_
      refine JQ.then ?_
      refine JC.region ?_
      replace hx1 := bnd_inv hx1
      obtain ⟨v_9, hv_v_9, hx1⟩ := hx1
      refine JL.pre (Imp.frzVar (j := 2) rfl (ImpK.slotP (s := 6) rfl (Comp.self (rV 32 (rU UInt8)) v_7) ImpK.refl)) ?_
      refine JL.cons rfl (op_sliceP (ltB rfl) tu45 tz5 (.tmp rfl) .none .none hv_v_9) ?_
      refine JL.pre (Imp.sub (ρ' := [(1, .one (.val (S (rL (rL (rU UInt8))) l_2))), (4, .one (.val (PTR gb_3 0))), (5, .one (.val (PTR gb_5 0))), (19, .one (.val (S (rL (rU UInt8)) v_9)))]) (.cons rfl (.cons rfl (.cons rfl (.cons rfl .nil))))) ?_
      refine JL.at ⟨[(1, .one (.val (S (rL (rL (rU UInt8))) l_2))), (4, .one (.val (PTR gb_3 0))), (5, .one (.val (PTR gb_5 0))), (19, .one (.val (S (rL (rU UInt8)) v_9)))], [cvar gb_3 (rV 32 (rU UInt8)) (Vector.replicate 32 (0 : UInt8)), cvar gb_5 r_sha_state v_4], []⟩ ?_
      refine JL.cons rfl (op_assign (ltB rfl) (.tmp rfl)) ?_
      refine JL.nil ?_
      replace hx1 := Option.some.inj hx1
      first | subst hx1 | clear hx1
      exact JQ.join () (Imp.norm (js := [0, 0]) rfl (.cons rfl (.cons rfl (.cons rfl (.cons rfl .nil)))))
    · refine JC.condF (.tmp rfl) hc2 ?_
      refine JC.skip ?_
      replace hx1 := Option.some.inj hx1
      first | subst hx1 | clear hx1
      exact JQ.join () (Imp.norm (js := [0, 0]) rfl (.cons rfl (.cons rfl (.cons rfl (.cons rfl .nil)))))

theorem sim_cursor_code (k : Nat) (secret_1 : (List UInt8)) (device_2 : (List UInt8)) (v_3 : (List UInt8)) (r : (Vector UInt8 32)) (hm : cursor_code k secret_1 device_2 v_3 = some r) : Sim Try.prog 21 [S (rL (rU UInt8)) secret_1, S rS device_2, S (rL (rU UInt8)) v_3] [] (γ := Unit) (fun q => []) (fun q => .one (.val (A (rV 32 (rU UInt8)) r))) := by
  unfold cursor_code at hm
  refine Sim.of Try.func21 rfl rfl (Nat.le_of_ble_eq_true rfl) (fun e0 w0 => ?_)
  refine JC.at ⟨[(0, .one (.val (S (rL (rU UInt8)) secret_1))), (1, .one (.val (S rS device_2))), (2, .one (.val (S (rL (rU UInt8)) v_3)))], [], []⟩ ?_
  refine JC.seq ?_
  refine JC.region ?_
  refine JL.consX rfl (op_alloc (ltB rfl) tZ45 zr45) (fun q => ?_)
  obtain ⟨gb_4, hqq⟩ : ∃ z, z = q := ⟨_, rfl⟩
  subst hqq
  refine JL.pre (Imp.sub (ρ' := [(0, .one (.val (S (rL (rU UInt8)) secret_1))), (1, .one (.val (S rS device_2))), (2, .one (.val (S (rL (rU UInt8)) v_3))), (6, .one (.val (PTR gb_4 0)))]) (.cons rfl (.cons rfl (.cons rfl (.cons rfl .nil))))) ?_
  refine JL.at ⟨[(0, .one (.val (S (rL (rU UInt8)) secret_1))), (1, .one (.val (S rS device_2))), (2, .one (.val (S (rL (rU UInt8)) v_3))), (6, .one (.val (PTR gb_4 0)))], [cvar gb_4 (rV 32 (rU UInt8)) (Vector.replicate 32 (0 : UInt8))], []⟩ ?_
  refine JL.nil ?_
  refine JQ.then ?_
  refine JC.seq ?_
  refine JC.region ?_
  refine JL.cons rfl (op_move (ltB rfl) (.tmp rfl)) ?_
  refine JL.cons rfl (op_convSB (ltB rfl) tu9 tu22 tu5 (.tmp rfl)) ?_
  replace hm := bnd_inv hm
  obtain ⟨⟨v_5, v_6⟩, hv_v_5, hm⟩ := hm
  refine JL.consX rfl (op_call (js := []) (ltD rfl) cl31 (sim_wire_Blob k device_2 (v_5, v_6) hv_v_5) .func (.cons (.tmp rfl) .nil) rfl) (fun q => ?_)
  obtain ⟨go_7, gc_8⟩ := q
  refine JL.pre (Imp.sub (ρ' := [(0, .one (.val (S (rL (rU UInt8)) secret_1))), (2, .one (.val (S (rL (rU UInt8)) v_3))), (6, .one (.val (PTR gb_4 0))), (12, .tup [.val (HDR go_7 0 (List.length v_5) gc_8), .val (S (rI .i64) v_6)])]) (.cons rfl (.cons rfl (.cons rfl (.cons rfl .nil))))) ?_
  refine JL.at ⟨[(0, .one (.val (S (rL (rU UInt8)) secret_1))), (2, .one (.val (S (rL (rU UInt8)) v_3))), (6, .one (.val (PTR gb_4 0))), (12, .tup [.val (HDR go_7 0 (List.length v_5) gc_8), .val (S (rI .i64) v_6)])], [cown go_7 (rU UInt8) v_5 0 gc_8, cvar gb_4 (rV 32 (rU UInt8)) (Vector.replicate 32 (0 : UInt8))], []⟩ ?_
  refine JL.cons rfl (op_move (ltB rfl) (.tmp rfl)) ?_
  refine JL.cons rfl (op_extract (i := 0) (ltB rfl) (.tmp rfl) rfl) ?_
  refine JL.cons rfl (op_extract (i := 1) (ltB rfl) (.tmp rfl) rfl) ?_
  refine JL.cons rfl (op_assign (ltB rfl) (.tmp rfl)) ?_
  refine JL.cons rfl (op_assign (ltB rfl) (.tmp rfl)) ?_
  refine JL.nil ?_
  refine JQ.then ?_
  refine JC.seq ?_
  refine JC.region ?_
  refine JL.cons rfl (op_move (ltB rfl) (.tmp rfl)) ?_
  refine JL.pre (Imp.sub (ρ' := [(2, .one (.val (S (rL (rU UInt8)) v_3))), (6, .one (.val (PTR gb_4 0))), (7, .one (.val (HDR go_7 0 (List.length v_5) gc_8))), (15, .one (.val (S (rL (rU UInt8)) secret_1)))]) (.cons rfl (.cons rfl (.cons rfl (.cons rfl .nil))))) ?_
  refine JL.at ⟨[(2, .one (.val (S (rL (rU UInt8)) v_3))), (6, .one (.val (PTR gb_4 0))), (7, .one (.val (HDR go_7 0 (List.length v_5) gc_8))), (15, .one (.val (S (rL (rU UInt8)) secret_1)))], [cown go_7 (rU UInt8) v_5 0 gc_8, cvar gb_4 (rV 32 (rU UInt8)) (Vector.replicate 32 (0 : UInt8))], []⟩ ?_
  refine JL.cons rfl (op_move (ltB rfl) (.tmp rfl)) ?_
  refine JL.cons rfl (op_move (ltB rfl) (.tmp rfl)) ?_
  refine JL.pre (Imp.frz (j := 0) rfl (ImpK.slotH (s := 7) rfl (ImpK.slotH (s := 16) rfl ImpK.refl))) ?_
  refine JL.cons rfl (op_buildF (r := (rL (rU UInt8))) (ltB rfl) tu65 tz22 tZ22 rfl (Nat.le_of_ble_eq_true rfl) (.S rfl (HasO.wk (.tmp rfl) wkHL) (.S rfl (.tmp rfl) .nil)) rfl) ?_
  refine JL.pre (Imp.norm (ρ' := [(6, .one (.val (PTR gb_4 0))), (15, .one (.val (S (rL (rU UInt8)) secret_1))), (18, .one (.val (S (rL (rL (rU UInt8))) ([v_5, v_3] : (List (List UInt8))))))]) (js := [1]) rfl (.cons rfl (.cons rfl (.cons rfl .nil)))) ?_
  refine JL.at ⟨[(6, .one (.val (PTR gb_4 0))), (15, .one (.val (S (rL (rU UInt8)) secret_1))), (18, .one (.val (S (rL (rL (rU UInt8))) ([v_5, v_3] : (List (List UInt8))))))], [cvar gb_4 (rV 32 (rU UInt8)) (Vector.replicate 32 (0 : UInt8))], []⟩ ?_
  replace hm := bnd_inv hm
  obtain ⟨v_9, hv_v_9, hm⟩ := hm
  refine JL.consX rfl (op_call (js := []) (ltD rfl) cl32 (sim_sha_Code k secret_1 ([v_5, v_3] : (List (List UInt8))) v_9 hv_v_9) .func (.cons (.tmp rfl) (.cons (.tmp rfl) .nil)) rfl) (fun _ => ?_)
  refine JL.cons rfl (op_storeA (j := 0) tA45 (.tmp rfl) (.tmp rfl) rfl (UpdR.self (by rfl)) rfl) ?_
  refine JL.pre (Imp.sub (ρ' := [(6, .one (.val (PTR gb_4 0)))]) (.cons rfl .nil)) ?_
  refine JL.at ⟨[(6, .one (.val (PTR gb_4 0)))], [cvar gb_4 (rV 32 (rU UInt8)) v_9], []⟩ ?_
  refine JL.nil ?_
  refine JQ.then ?_
  refine JC.ret ?_
  replace hm := Option.some.inj hm
  subst hm
  exact JQ.done (js := []) (ss := [.val (A (rV 32 (rU UInt8)) v_9)]) () (.inl rfl) (.nil rfl) rfl (.cons (.cellA (j := 0) tA45 rfl rfl) .nil) rfl rfl rfl

end Go.Proofs.Ytnhiiabdoichlaa
