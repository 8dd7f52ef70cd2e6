/- Walks. -/
import Derived.Test.YtdncoiehmkcajaaT
namespace Go.Proofs.Ytdncoiehmkcajaa
open Go Fw
set_option linter.unusedVariables false
set_option maxRecDepth 100000
set_option maxHeartbeats 4000000

theorem sim_math_bits_Mul64 (k : Nat) (x_1 : UInt64) (y_2 : UInt64) (r : UInt64 × UInt64) (hm : math_bits_Mul64 k x_1 y_2 = some r) : Sim Try.prog 55 [S (rU UInt64) x_1, S (rU UInt64) y_2] [] (γ := Unit) (fun q => []) (fun q => .tup [.val (S (rU UInt64) r.1), .val (S (rU UInt64) r.2)]) := by
  unfold math_bits_Mul64 at hm
  refine Sim.of Try.func55 rfl rfl (Nat.le_of_ble_eq_true rfl) (fun e0 w0 => ?_)
  refine JC.at ⟨[(0, .one (.val (S (rU UInt64) x_1))), (1, .one (.val (S (rU UInt64) y_2)))], [], []⟩ ?_
  refine JC.seq ?_
  refine JC.region ?_
  refine JL.cons rfl (op_assign (ltB rfl) (HasO.cU (x := (0 : UInt64)) rfl (by decide))) ?_
  refine JL.cons rfl (op_assign (ltB rfl) (HasO.cU (x := (0 : UInt64)) rfl (by decide))) ?_
  refine JL.nil ?_
  refine JQ.then ?_
  refine JC.seq ?_
  refine JC.region ?_
  refine JL.cons rfl (op_move (ltB rfl) (.tmp rfl)) ?_
  replace hm := lt1_inv hm
  obtain ⟨v_3, hv_v_3, hm⟩ := hm
  refine JL.cons rfl (op_arU (ltB rfl) (.tmp rfl) (HasO.cU (x := (4294967295 : UInt64)) rfl (by decide)) (congrArg some hv_v_3)) ?_
  refine JL.cons rfl (op_assign (ltB rfl) (.tmp rfl)) ?_
  refine JL.nil ?_
  refine JQ.then ?_
  refine JC.seq ?_
  refine JC.region ?_
  refine JL.cons rfl (op_move (ltB rfl) (.tmp rfl)) ?_
  refine JL.pre (Imp.sub (ρ' := [(0, .one (.val (S (rU UInt64) x_1))), (1, .one (.val (S (rU UInt64) y_2))), (6, .one (.val (S (rU UInt64) v_3))), (16, .one (.val (S (rU UInt64) x_1)))]) (.cons rfl (.cons rfl (.cons rfl (.cons rfl .nil))))) ?_
  refine JL.at ⟨[(0, .one (.val (S (rU UInt64) x_1))), (1, .one (.val (S (rU UInt64) y_2))), (6, .one (.val (S (rU UInt64) v_3))), (16, .one (.val (S (rU UInt64) x_1)))], [], []⟩ ?_
  replace hm := lt1_inv hm
  obtain ⟨v_4, hv_v_4, hm⟩ := hm
  refine JL.cons rfl (op_shrUU (ltB rfl) (.tmp rfl) (HasO.cU (x := (32 : UInt64)) rfl (by decide)) hv_v_4) ?_
  refine JL.cons rfl (op_assign (ltB rfl) (.tmp rfl)) ?_
  refine JL.nil ?_
  refine JQ.then ?_
  refine JC.seq ?_
  refine JC.region ?_
  refine JL.cons rfl (op_move (ltB rfl) (.tmp rfl)) ?_
  replace hm := lt1_inv hm
  obtain ⟨v_5, hv_v_5, hm⟩ := hm
  refine JL.cons rfl (op_arU (ltB rfl) (.tmp rfl) (HasO.cU (x := (4294967295 : UInt64)) rfl (by decide)) (congrArg some hv_v_5)) ?_
  refine JL.cons rfl (op_assign (ltB rfl) (.tmp rfl)) ?_
  refine JL.nil ?_
  refine JQ.then ?_
  refine JC.seq ?_
  refine JC.region ?_
  refine JL.cons rfl (op_move (ltB rfl) (.tmp rfl)) ?_
  refine JL.pre (Imp.sub (ρ' := [(0, .one (.val (S (rU UInt64) x_1))), (1, .one (.val (S (rU UInt64) y_2))), (6, .one (.val (S (rU UInt64) v_3))), (7, .one (.val (S (rU UInt64) v_4))), (8, .one (.val (S (rU UInt64) v_5))), (20, .one (.val (S (rU UInt64) y_2)))]) (.cons rfl (.cons rfl (.cons rfl (.cons rfl (.cons rfl (.cons rfl .nil))))))) ?_
  refine JL.at ⟨[(0, .one (.val (S (rU UInt64) x_1))), (1, .one (.val (S (rU UInt64) y_2))), (6, .one (.val (S (rU UInt64) v_3))), (7, .one (.val (S (rU UInt64) v_4))), (8, .one (.val (S (rU UInt64) v_5))), (20, .one (.val (S (rU UInt64) y_2)))], [], []⟩ ?_
  replace hm := lt1_inv hm
  obtain ⟨v_6, hv_v_6, hm⟩ := hm
  refine JL.cons rfl (op_shrUU (ltB rfl) (.tmp rfl) (HasO.cU (x := (32 : UInt64)) rfl (by decide)) hv_v_6) ?_
  refine JL.cons rfl (op_assign (ltB rfl) (.tmp rfl)) ?_
  refine JL.nil ?_
  refine JQ.then ?_
  refine JC.seq ?_
  refine JC.region ?_
  refine JL.cons rfl (op_move (ltB rfl) (.tmp rfl)) ?_
  refine JL.cons rfl (op_move (ltB rfl) (.tmp rfl)) ?_
  replace hm := lt1_inv hm
  obtain ⟨v_7, hv_v_7, hm⟩ := hm
  refine JL.cons rfl (op_arU (ltB rfl) (.tmp rfl) (.tmp rfl) (congrArg some hv_v_7)) ?_
  refine JL.cons rfl (op_assign (ltB rfl) (.tmp rfl)) ?_
  refine JL.pre (Imp.sub (ρ' := [(0, .one (.val (S (rU UInt64) x_1))), (1, .one (.val (S (rU UInt64) y_2))), (6, .one (.val (S (rU UInt64) v_3))), (7, .one (.val (S (rU UInt64) v_4))), (8, .one (.val (S (rU UInt64) v_5))), (9, .one (.val (S (rU UInt64) v_6))), (10, .one (.val (S (rU UInt64) v_7)))]) (.cons rfl (.cons rfl (.cons rfl (.cons rfl (.cons rfl (.cons rfl (.cons rfl .nil)))))))) ?_
  refine JL.at ⟨[(0, .one (.val (S (rU UInt64) x_1))), (1, .one (.val (S (rU UInt64) y_2))), (6, .one (.val (S (rU UInt64) v_3))), (7, .one (.val (S (rU UInt64) v_4))), (8, .one (.val (S (rU UInt64) v_5))), (9, .one (.val (S (rU UInt64) v_6))), (10, .one (.val (S (rU UInt64) v_7)))], [], []⟩ ?_
  refine JL.nil ?_
  refine JQ.then ?_
  refine JC.seq ?_
  refine JC.region ?_
  refine JL.cons rfl (op_move (ltB rfl) (.tmp rfl)) ?_
  refine JL.cons rfl (op_move (ltB rfl) (.tmp rfl)) ?_
  replace hm := lt1_inv hm
  obtain ⟨v_8, hv_v_8, hm⟩ := hm
  refine JL.cons rfl (op_arU (ltB rfl) (.tmp rfl) (.tmp rfl) (congrArg some hv_v_8)) ?_
  refine JL.cons rfl (op_move (ltB rfl) (.tmp rfl)) ?_
  replace hm := lt1_inv hm
  obtain ⟨v_9, hv_v_9, hm⟩ := hm
  refine JL.cons rfl (op_shrUU (ltB rfl) (.tmp rfl) (HasO.cU (x := (32 : UInt64)) rfl (by decide)) hv_v_9) ?_
  replace hm := lt1_inv hm
  obtain ⟨v_10, hv_v_10, hm⟩ := hm
  refine JL.cons rfl (op_arU (ltB rfl) (.tmp rfl) (.tmp rfl) (congrArg some hv_v_10)) ?_
  refine JL.pre (Imp.sub (ρ' := [(0, .one (.val (S (rU UInt64) x_1))), (1, .one (.val (S (rU UInt64) y_2))), (6, .one (.val (S (rU UInt64) v_3))), (7, .one (.val (S (rU UInt64) v_4))), (9, .one (.val (S (rU UInt64) v_6))), (30, .one (.val (S (rU UInt64) v_10)))]) (.cons rfl (.cons rfl (.cons rfl (.cons rfl (.cons rfl (.cons rfl .nil))))))) ?_
  refine JL.at ⟨[(0, .one (.val (S (rU UInt64) x_1))), (1, .one (.val (S (rU UInt64) y_2))), (6, .one (.val (S (rU UInt64) v_3))), (7, .one (.val (S (rU UInt64) v_4))), (9, .one (.val (S (rU UInt64) v_6))), (30, .one (.val (S (rU UInt64) v_10)))], [], []⟩ ?_
  refine JL.cons rfl (op_assign (ltB rfl) (.tmp rfl)) ?_
  refine JL.nil ?_
  refine JQ.then ?_
  refine JC.seq ?_
  refine JC.region ?_
  refine JL.cons rfl (op_move (ltB rfl) (.tmp rfl)) ?_
  replace hm := lt1_inv hm
  obtain ⟨v_11, hv_v_11, hm⟩ := hm
  refine JL.cons rfl (op_arU (ltB rfl) (.tmp rfl) (HasO.cU (x := (4294967295 : UInt64)) rfl (by decide)) (congrArg some hv_v_11)) ?_
  refine JL.cons rfl (op_assign (ltB rfl) (.tmp rfl)) ?_
  refine JL.nil ?_
  refine JQ.then ?_
  refine JC.seq ?_
  refine JC.region ?_
  refine JL.cons rfl (op_move (ltB rfl) (.tmp rfl)) ?_
  replace hm := lt1_inv hm
  obtain ⟨v_12, hv_v_12, hm⟩ := hm
  refine JL.cons rfl (op_shrUU (ltB rfl) (.tmp rfl) (HasO.cU (x := (32 : UInt64)) rfl (by decide)) hv_v_12) ?_
  refine JL.pre (Imp.sub (ρ' := [(0, .one (.val (S (rU UInt64) x_1))), (1, .one (.val (S (rU UInt64) y_2))), (6, .one (.val (S (rU UInt64) v_3))), (7, .one (.val (S (rU UInt64) v_4))), (9, .one (.val (S (rU UInt64) v_6))), (12, .one (.val (S (rU UInt64) v_11))), (34, .one (.val (S (rU UInt64) v_12)))]) (.cons rfl (.cons rfl (.cons rfl (.cons rfl (.cons rfl (.cons rfl (.cons rfl .nil)))))))) ?_
  refine JL.at ⟨[(0, .one (.val (S (rU UInt64) x_1))), (1, .one (.val (S (rU UInt64) y_2))), (6, .one (.val (S (rU UInt64) v_3))), (7, .one (.val (S (rU UInt64) v_4))), (9, .one (.val (S (rU UInt64) v_6))), (12, .one (.val (S (rU UInt64) v_11))), (34, .one (.val (S (rU UInt64) v_12)))], [], []⟩ ?_
  refine JL.cons rfl (op_assign (ltB rfl) (.tmp rfl)) ?_
  refine JL.nil ?_
  refine JQ.then ?_
  refine JC.seq ?_
  refine JC.region ?_
  refine JL.cons rfl (op_move (ltB rfl) (.tmp rfl)) ?_
  refine JL.cons rfl (op_move (ltB rfl) (.tmp rfl)) ?_
  refine JL.cons rfl (op_move (ltB rfl) (.tmp rfl)) ?_
  replace hm := lt1_inv hm
  obtain ⟨v_13, hv_v_13, hm⟩ := hm
  refine JL.cons rfl (op_arU (ltB rfl) (.tmp rfl) (.tmp rfl) (congrArg some hv_v_13)) ?_
  replace hm := lt1_inv hm
  obtain ⟨v_14, hv_v_14, hm⟩ := hm
  refine JL.cons rfl (op_arU (ltB rfl) (.tmp rfl) (.tmp rfl) (congrArg some hv_v_14)) ?_
  refine JL.pre (Imp.sub (ρ' := [(0, .one (.val (S (rU UInt64) x_1))), (1, .one (.val (S (rU UInt64) y_2))), (7, .one (.val (S (rU UInt64) v_4))), (9, .one (.val (S (rU UInt64) v_6))), (12, .one (.val (S (rU UInt64) v_11))), (13, .one (.val (S (rU UInt64) v_12))), (39, .one (.val (S (rU UInt64) v_14)))]) (.cons rfl (.cons rfl (.cons rfl (.cons rfl (.cons rfl (.cons rfl (.cons rfl .nil)))))))) ?_
  refine JL.at ⟨[(0, .one (.val (S (rU UInt64) x_1))), (1, .one (.val (S (rU UInt64) y_2))), (7, .one (.val (S (rU UInt64) v_4))), (9, .one (.val (S (rU UInt64) v_6))), (12, .one (.val (S (rU UInt64) v_11))), (13, .one (.val (S (rU UInt64) v_12))), (39, .one (.val (S (rU UInt64) v_14)))], [], []⟩ ?_
  refine JL.cons rfl (op_assign (ltB rfl) (.tmp rfl)) ?_
  refine JL.nil ?_
  refine JQ.then ?_
  refine JC.seq ?_
  refine JC.region ?_
  refine JL.cons rfl (op_move (ltB rfl) (.tmp rfl)) ?_
  refine JL.cons rfl (op_move (ltB rfl) (.tmp rfl)) ?_
  replace hm := lt1_inv hm
  obtain ⟨v_15, hv_v_15, hm⟩ := hm
  refine JL.cons rfl (op_arU (ltB rfl) (.tmp rfl) (.tmp rfl) (congrArg some hv_v_15)) ?_
  refine JL.cons rfl (op_move (ltB rfl) (.tmp rfl)) ?_
  replace hm := lt1_inv hm
  obtain ⟨v_16, hv_v_16, hm⟩ := hm
  refine JL.cons rfl (op_arU (ltB rfl) (.tmp rfl) (.tmp rfl) (congrArg some hv_v_16)) ?_
  refine JL.pre (Imp.sub (ρ' := [(0, .one (.val (S (rU UInt64) x_1))), (1, .one (.val (S (rU UInt64) y_2))), (12, .one (.val (S (rU UInt64) v_14))), (44, .one (.val (S (rU UInt64) v_16)))]) (.cons rfl (.cons rfl (.cons rfl (.cons rfl .nil))))) ?_
  refine JL.at ⟨[(0, .one (.val (S (rU UInt64) x_1))), (1, .one (.val (S (rU UInt64) y_2))), (12, .one (.val (S (rU UInt64) v_14))), (44, .one (.val (S (rU UInt64) v_16)))], [], []⟩ ?_
  refine JL.cons rfl (op_move (ltB rfl) (.tmp rfl)) ?_
  replace hm := lt1_inv hm
  obtain ⟨v_17, hv_v_17, hm⟩ := hm
  refine JL.cons rfl (op_shrUU (ltB rfl) (.tmp rfl) (HasO.cU (x := (32 : UInt64)) rfl (by decide)) hv_v_17) ?_
  replace hm := lt1_inv hm
  obtain ⟨v_18, hv_v_18, hm⟩ := hm
  refine JL.cons rfl (op_arU (ltB rfl) (.tmp rfl) (.tmp rfl) (congrArg some hv_v_18)) ?_
  refine JL.cons rfl (op_assign (ltB rfl) (.tmp rfl)) ?_
  refine JL.nil ?_
  refine JQ.then ?_
  refine JC.seq ?_
  refine JC.region ?_
  refine JL.cons rfl (op_move (ltB rfl) (.tmp rfl)) ?_
  refine JL.cons rfl (op_move (ltB rfl) (.tmp rfl)) ?_
  refine JL.pre (Imp.sub (ρ' := [(4, .one (.val (S (rU UInt64) v_18))), (48, .one (.val (S (rU UInt64) x_1))), (49, .one (.val (S (rU UInt64) y_2)))]) (.cons rfl (.cons rfl (.cons rfl .nil)))) ?_
  refine JL.at ⟨[(4, .one (.val (S (rU UInt64) v_18))), (48, .one (.val (S (rU UInt64) x_1))), (49, .one (.val (S (rU UInt64) y_2)))], [], []⟩ ?_
  replace hm := lt1_inv hm
  obtain ⟨v_19, hv_v_19, hm⟩ := hm
  refine JL.cons rfl (op_arU (ltB rfl) (.tmp rfl) (.tmp rfl) (congrArg some hv_v_19)) ?_
  refine JL.cons rfl (op_assign (ltB rfl) (.tmp rfl)) ?_
  refine JL.nil ?_
  refine JQ.then ?_
  refine JC.ret ?_
  replace hm := Option.some.inj hm
  subst hm
  exact JQ.done (js := []) (ss := [.val (S (rU UInt64) v_18), .val (S (rU UInt64) v_19)]) () (.inl rfl) (.nil rfl) rfl (.cons (.tmp rfl) (.cons (.tmp rfl) .nil)) rfl rfl rfl

theorem sim_sha_square (k : Nat) (x_1 : UInt64) (r : (Vector UInt64 2)) (hm : sha_square k x_1 = some r) : Sim Try.prog 46 [S (rU UInt64) x_1] [] (γ := Unit) (fun q => []) (fun q => .one (.val (A (rV 2 (rU UInt64)) r))) := by
  unfold sha_square at hm
  refine Sim.of Try.func46 rfl rfl (Nat.le_of_ble_eq_true rfl) (fun e0 w0 => ?_)
  refine JC.at ⟨[(0, .one (.val (S (rU UInt64) x_1)))], [], []⟩ ?_
  refine JC.seq ?_
  refine JC.region ?_
  refine JL.consX rfl (op_alloc (ltB rfl) tZ77 zr77) (fun q => ?_)
  obtain ⟨gb_2, hqq⟩ : ∃ z, z = q := ⟨_, rfl⟩
  subst hqq
  refine JL.pre (Imp.sub (ρ' := [(0, .one (.val (S (rU UInt64) x_1))), (2, .one (.val (PTR gb_2 0)))]) (.cons rfl (.cons rfl .nil))) ?_
  refine JL.at ⟨[(0, .one (.val (S (rU UInt64) x_1))), (2, .one (.val (PTR gb_2 0)))], [cvar gb_2 (rV 2 (rU UInt64)) (Vector.replicate 2 (0 : UInt64))], []⟩ ?_
  refine JL.nil ?_
  refine JQ.then ?_
  refine JC.seq ?_
  refine JC.region ?_
  refine JL.cons rfl (op_move (ltB rfl) (.tmp rfl)) ?_
  refine JL.cons rfl (op_move (ltB rfl) (.tmp rfl)) ?_
  replace hm := bnd_inv hm
  obtain ⟨⟨v_3, v_4⟩, hv_v_3, hm⟩ := hm
  refine JL.consX rfl (op_call (js := []) (ltD rfl) cl55 (sim_math_bits_Mul64 k x_1 x_1 (v_3, v_4) hv_v_3) .func (.cons (.tmp rfl) (.cons (.tmp rfl) .nil)) rfl) (fun _ => ?_)
  refine JL.cons rfl (op_move (ltB rfl) (.tmp rfl)) ?_
  refine JL.cons rfl (op_extract (i := 0) (ltB rfl) (.tmp rfl) rfl) ?_
  refine JL.cons rfl (op_extract (i := 1) (ltB rfl) (.tmp rfl) rfl) ?_
  refine JL.pre (Imp.sub (ρ' := [(2, .one (.val (PTR gb_2 0))), (9, .one (.val (S (rU UInt64) v_3))), (10, .one (.val (S (rU UInt64) v_4)))]) (.cons rfl (.cons rfl (.cons rfl .nil)))) ?_
  refine JL.at ⟨[(2, .one (.val (PTR gb_2 0))), (9, .one (.val (S (rU UInt64) v_3))), (10, .one (.val (S (rU UInt64) v_4)))], [cvar gb_2 (rV 2 (rU UInt64)) (Vector.replicate 2 (0 : UInt64))], []⟩ ?_
  refine JL.cons rfl (op_assign (ltB rfl) (.tmp rfl)) ?_
  refine JL.cons rfl (op_assign (ltB rfl) (.tmp rfl)) ?_
  refine JL.nil ?_
  refine JQ.then ?_
  refine JC.seq ?_
  refine JC.region ?_
  refine JL.cons rfl (op_move (ltB rfl) (.tmp rfl)) ?_
  refine JL.cons rfl (op_move (ltB rfl) (.tmp rfl)) ?_
  refine JL.cons rfl (op_build (ltB rfl) tZ77 zv77 tp77 (.S (off := 0) rfl (.tmp rfl) rfl ((Upd.at (off := 0) (i := 0) (Comp.self (rV 2 (rU UInt64)) (Vector.replicate 2 (0 : UInt64))) (by decide) rfl (Upd.self (rV 2 (rU UInt64)) (Vector.replicate 2 (0 : UInt64)) _)).R.at rfl) (.S (off := 1) rfl (.tmp rfl) rfl ((Upd.at (off := 0) (i := 1) (Comp.self (rV 2 (rU UInt64)) (Vector.set (Vector.replicate 2 (0 : UInt64)) 0 v_3 (by decide))) (by decide) rfl (Upd.self (rV 2 (rU UInt64)) (Vector.set (Vector.replicate 2 (0 : UInt64)) 0 v_3 (by decide)) _)).R.at rfl) .nil)) rfl) ?_
  refine JL.cons rfl (op_storeA (j := 0) tA77 (.tmp rfl) (.tmp rfl) rfl (UpdR.self (by rfl)) rfl) ?_
  refine JL.pre (Imp.sub (ρ' := [(2, .one (.val (PTR gb_2 0)))]) (.cons rfl .nil)) ?_
  refine JL.at ⟨[(2, .one (.val (PTR gb_2 0)))], [cvar gb_2 (rV 2 (rU UInt64)) (#v[v_3, v_4] : (Vector UInt64 2))], []⟩ ?_
  refine JL.nil ?_
  refine JQ.then ?_
  refine JC.ret ?_
  replace hm := Option.some.inj hm
  subst hm
  exact JQ.done (js := []) (ss := [.val (A (rV 2 (rU UInt64)) (#v[v_3, v_4] : (Vector UInt64 2)))]) () (.inl rfl) (.nil rfl) rfl (.cons (.cellA (j := 0) tA77 rfl rfl) .nil) rfl rfl rfl

theorem sim_sha_cube (k : Nat) (x_1 : UInt64) (r : (Vector UInt64 2) × Bool) (hm : sha_cube k x_1 = some r) : Sim Try.prog 51 [S (rU UInt64) x_1] [] (γ := Unit) (fun q => []) (fun q => .tup [.val (A (rV 2 (rU UInt64)) r.1), .val (S rB r.2)]) := by
  unfold sha_cube at hm
  refine Sim.of Try.func51 rfl rfl (Nat.le_of_ble_eq_true rfl) (fun e0 w0 => ?_)
  refine JC.at ⟨[(0, .one (.val (S (rU UInt64) x_1)))], [], []⟩ ?_
  refine JC.seq ?_
  refine JC.region ?_
  refine JL.consX rfl (op_alloc (ltB rfl) tZ77 zr77) (fun q => ?_)
  obtain ⟨gb_2, hqq⟩ : ∃ z, z = q := ⟨_, rfl⟩
  subst hqq
  refine JL.pre (Imp.sub (ρ' := [(0, .one (.val (S (rU UInt64) x_1))), (2, .one (.val (PTR gb_2 0)))]) (.cons rfl (.cons rfl .nil))) ?_
  refine JL.at ⟨[(0, .one (.val (S (rU UInt64) x_1))), (2, .one (.val (PTR gb_2 0)))], [cvar gb_2 (rV 2 (rU UInt64)) (Vector.replicate 2 (0 : UInt64))], []⟩ ?_
  refine JL.cons rfl (op_assign (ltB rfl) .cB) ?_
  refine JL.nil ?_
  refine JQ.then ?_
  refine JC.seq ?_
  refine JC.region ?_
  refine JL.cons rfl (op_move (ltB rfl) (.tmp rfl)) ?_
  replace hm := bnd_inv hm
  obtain ⟨v_3, hv_v_3, hm⟩ := hm
  refine JL.consX rfl (op_call (js := []) (ltD rfl) cl46 (sim_sha_square k x_1 v_3 hv_v_3) .func (.cons (.tmp rfl) .nil) rfl) (fun _ => ?_)
  refine JL.consX rfl (op_alloc (ltB rfl) tZ77 zr77) (fun q => ?_)
  obtain ⟨gb_4, hqq⟩ : ∃ z, z = q := ⟨_, rfl⟩
  subst hqq
  refine JL.pre (Imp.sub (ρ' := [(0, .one (.val (S (rU UInt64) x_1))), (2, .one (.val (PTR gb_2 0))), (4, .one (.val (PTR gb_4 0))), (12, .one (.val (A (rV 2 (rU UInt64)) v_3)))]) (.cons rfl (.cons rfl (.cons rfl (.cons rfl .nil))))) ?_
  refine JL.at ⟨[(0, .one (.val (S (rU UInt64) x_1))), (2, .one (.val (PTR gb_2 0))), (4, .one (.val (PTR gb_4 0))), (12, .one (.val (A (rV 2 (rU UInt64)) v_3)))], [cvar gb_2 (rV 2 (rU UInt64)) (Vector.replicate 2 (0 : UInt64)), cvar gb_4 (rV 2 (rU UInt64)) (Vector.replicate 2 (0 : UInt64))], []⟩ ?_
  refine JL.cons rfl (op_storeA (j := 1) tA77 (.tmp rfl) (.tmp rfl) rfl (UpdR.self (by rfl)) rfl) ?_
  refine JL.pre (Imp.sub (ρ' := [(0, .one (.val (S (rU UInt64) x_1))), (2, .one (.val (PTR gb_2 0))), (4, .one (.val (PTR gb_4 0)))]) (.cons rfl (.cons rfl (.cons rfl .nil)))) ?_
  refine JL.at ⟨[(0, .one (.val (S (rU UInt64) x_1))), (2, .one (.val (PTR gb_2 0))), (4, .one (.val (PTR gb_4 0)))], [cvar gb_2 (rV 2 (rU UInt64)) (Vector.replicate 2 (0 : UInt64)), cvar gb_4 (rV 2 (rU UInt64)) v_3], []⟩ ?_
  refine JL.nil ?_
  refine JQ.then ?_
  refine JC.seq ?_
  refine JC.region ?_
  replace hm := bnd_inv hm
  obtain ⟨i_5, hv_i_5, hm⟩ := hm
  refine JL.cons rfl (op_indexAddrIF (ltB rfl) tr77 (.tmp rfl) .cI hv_i_5) ?_
  replace hm := lt1_inv hm
  obtain ⟨v_6, hv_v_6, hm⟩ := hm
  refine JL.cons rfl (op_loadS (j := 1) (ltB rfl) tS65 (.tmp rfl) rfl (Comp.at (Comp.self (rV 2 (rU UInt64)) v_3) i_5.2 rfl) rfl hv_v_6) ?_
  refine JL.cons rfl (op_move (ltB rfl) (.tmp rfl)) ?_
  replace hm := bnd_inv hm
  obtain ⟨⟨v_7, v_8⟩, hv_v_7, hm⟩ := hm
  refine JL.consX rfl (op_call (js := []) (ltD rfl) cl55 (sim_math_bits_Mul64 k v_6 x_1 (v_7, v_8) hv_v_7) .func (.cons (.tmp rfl) (.cons (.tmp rfl) .nil)) rfl) (fun _ => ?_)
  refine JL.cons rfl (op_move (ltB rfl) (.tmp rfl)) ?_
  refine JL.cons rfl (op_extract (i := 0) (ltB rfl) (.tmp rfl) rfl) ?_
  refine JL.pre (Imp.sub (ρ' := [(0, .one (.val (S (rU UInt64) x_1))), (2, .one (.val (PTR gb_2 0))), (4, .one (.val (PTR gb_4 0))), (13, .tup [.val (S (rU UInt64) v_7), .val (S (rU UInt64) v_8)]), (18, .one (.val (S (rU UInt64) v_7)))]) (.cons rfl (.cons rfl (.cons rfl (.cons rfl (.cons rfl .nil)))))) ?_
  refine JL.at ⟨[(0, .one (.val (S (rU UInt64) x_1))), (2, .one (.val (PTR gb_2 0))), (4, .one (.val (PTR gb_4 0))), (13, .tup [.val (S (rU UInt64) v_7), .val (S (rU UInt64) v_8)]), (18, .one (.val (S (rU UInt64) v_7)))], [cvar gb_2 (rV 2 (rU UInt64)) (Vector.replicate 2 (0 : UInt64)), cvar gb_4 (rV 2 (rU UInt64)) v_3], []⟩ ?_
  refine JL.cons rfl (op_extract (i := 1) (ltB rfl) (.tmp rfl) rfl) ?_
  refine JL.cons rfl (op_assign (ltB rfl) (.tmp rfl)) ?_
  refine JL.cons rfl (op_assign (ltB rfl) (.tmp rfl)) ?_
  refine JL.nil ?_
  refine JQ.then ?_
  refine JC.seq ?_
  refine JC.region ?_
  replace hm := bnd_inv hm
  obtain ⟨i_9, hv_i_9, hm⟩ := hm
  refine JL.cons rfl (op_indexAddrIF (ltB rfl) tr77 (.tmp rfl) .cI hv_i_9) ?_
  replace hm := lt1_inv hm
  obtain ⟨v_10, hv_v_10, hm⟩ := hm
  refine JL.cons rfl (op_loadS (j := 1) (ltB rfl) tS65 (.tmp rfl) rfl (Comp.at (Comp.self (rV 2 (rU UInt64)) v_3) i_9.2 rfl) rfl hv_v_10) ?_
  refine JL.cons rfl (op_move (ltB rfl) (.tmp rfl)) ?_
  refine JL.pre (Imp.norm (ρ' := [(2, .one (.val (PTR gb_2 0))), (5, .one (.val (S (rU UInt64) v_7))), (6, .one (.val (S (rU UInt64) v_8))), (22, .one (.val (S (rU UInt64) v_10))), (23, .one (.val (S (rU UInt64) x_1)))]) (js := [0]) rfl (.cons rfl (.cons rfl (.cons rfl (.cons rfl (.cons rfl .nil)))))) ?_
  refine JL.at ⟨[(2, .one (.val (PTR gb_2 0))), (5, .one (.val (S (rU UInt64) v_7))), (6, .one (.val (S (rU UInt64) v_8))), (22, .one (.val (S (rU UInt64) v_10))), (23, .one (.val (S (rU UInt64) x_1)))], [cvar gb_2 (rV 2 (rU UInt64)) (Vector.replicate 2 (0 : UInt64))], []⟩ ?_
  replace hm := bnd_inv hm
  obtain ⟨⟨v_11, v_12⟩, hv_v_11, hm⟩ := hm
  refine JL.consX rfl (op_call (js := []) (ltD rfl) cl55 (sim_math_bits_Mul64 k v_10 x_1 (v_11, v_12) hv_v_11) .func (.cons (.tmp rfl) (.cons (.tmp rfl) .nil)) rfl) (fun _ => ?_)
  refine JL.cons rfl (op_move (ltB rfl) (.tmp rfl)) ?_
  refine JL.cons rfl (op_extract (i := 0) (ltB rfl) (.tmp rfl) rfl) ?_
  refine JL.cons rfl (op_extract (i := 1) (ltB rfl) (.tmp rfl) rfl) ?_
  refine JL.cons rfl (op_assign (ltB rfl) (.tmp rfl)) ?_
  refine JL.cons rfl (op_assign (ltB rfl) (.tmp rfl)) ?_
  refine JL.pre (Imp.sub (ρ' := [(2, .one (.val (PTR gb_2 0))), (5, .one (.val (S (rU UInt64) v_7))), (6, .one (.val (S (rU UInt64) v_8))), (7, .one (.val (S (rU UInt64) v_11))), (8, .one (.val (S (rU UInt64) v_12)))]) (.cons rfl (.cons rfl (.cons rfl (.cons rfl (.cons rfl .nil)))))) ?_
  refine JL.at ⟨[(2, .one (.val (PTR gb_2 0))), (5, .one (.val (S (rU UInt64) v_7))), (6, .one (.val (S (rU UInt64) v_8))), (7, .one (.val (S (rU UInt64) v_11))), (8, .one (.val (S (rU UInt64) v_12)))], [cvar gb_2 (rV 2 (rU UInt64)) (Vector.replicate 2 (0 : UInt64))], []⟩ ?_
  refine JL.nil ?_
  refine JQ.then ?_
  refine JC.seq ?_
  refine JC.region ?_
  refine JL.cons rfl (op_move (ltB rfl) (.tmp rfl)) ?_
  refine JL.cons rfl (op_move (ltB rfl) (.tmp rfl)) ?_
  replace hm := bnd_inv hm
  obtain ⟨⟨s_13, o_14⟩, hv_s_13, hm⟩ := hm
  refine JL.cons rfl (op_add64 (ltB rfl) ex57 .func (.tmp rfl) (.tmp rfl) (HasO.cU (x := (0 : UInt64)) rfl (by decide)) hv_s_13) ?_
  refine JL.cons rfl (op_move (ltB rfl) (.tmp rfl)) ?_
  refine JL.cons rfl (op_extract (i := 0) (ltB rfl) (.tmp rfl) rfl) ?_
  refine JL.cons rfl (op_extract (i := 1) (ltB rfl) (.tmp rfl) rfl) ?_
  refine JL.pre (Imp.sub (ρ' := [(2, .one (.val (PTR gb_2 0))), (6, .one (.val (S (rU UInt64) v_8))), (7, .one (.val (S (rU UInt64) v_11))), (8, .one (.val (S (rU UInt64) v_12))), (31, .one (.val (S (rU UInt64) s_13))), (32, .one (.val (S (rU UInt64) o_14)))]) (.cons rfl (.cons rfl (.cons rfl (.cons rfl (.cons rfl (.cons rfl .nil))))))) ?_
  refine JL.at ⟨[(2, .one (.val (PTR gb_2 0))), (6, .one (.val (S (rU UInt64) v_8))), (7, .one (.val (S (rU UInt64) v_11))), (8, .one (.val (S (rU UInt64) v_12))), (31, .one (.val (S (rU UInt64) s_13))), (32, .one (.val (S (rU UInt64) o_14)))], [cvar gb_2 (rV 2 (rU UInt64)) (Vector.replicate 2 (0 : UInt64))], []⟩ ?_
  refine JL.cons rfl (op_assign (ltB rfl) (.tmp rfl)) ?_
  refine JL.cons rfl (op_assign (ltB rfl) (.tmp rfl)) ?_
  refine JL.nil ?_
  refine JQ.then ?_
  refine JC.seq ?_
  refine JC.region ?_
  refine JL.cons rfl (op_move (ltB rfl) (.tmp rfl)) ?_
  refine JL.cons rfl (op_move (ltB rfl) (.tmp rfl)) ?_
  replace hm := lt1_inv hm
  obtain ⟨v_15, hv_v_15, hm⟩ := hm
  refine JL.cons rfl (op_arU (ltB rfl) (.tmp rfl) (.tmp rfl) (congrArg some hv_v_15)) ?_
  refine JL.cons rfl (op_assign (ltB rfl) (.tmp rfl)) ?_
  refine JL.pre (Imp.sub (ρ' := [(2, .one (.val (PTR gb_2 0))), (6, .one (.val (S (rU UInt64) v_8))), (8, .one (.val (S (rU UInt64) s_13))), (10, .one (.val (S (rU UInt64) v_15)))]) (.cons rfl (.cons rfl (.cons rfl (.cons rfl .nil))))) ?_
  refine JL.at ⟨[(2, .one (.val (PTR gb_2 0))), (6, .one (.val (S (rU UInt64) v_8))), (8, .one (.val (S (rU UInt64) s_13))), (10, .one (.val (S (rU UInt64) v_15)))], [cvar gb_2 (rV 2 (rU UInt64)) (Vector.replicate 2 (0 : UInt64))], []⟩ ?_
  refine JL.nil ?_
  refine JQ.then ?_
  refine JC.seq ?_
  refine JC.region ?_
  refine JL.cons rfl (op_move (ltB rfl) (.tmp rfl)) ?_
  replace hm := lt1_inv hm
  obtain ⟨v_16, hv_v_16, hm⟩ := hm
  refine JL.cons rfl (op_shlUU (ltB rfl) (.tmp rfl) (HasO.cU (x := (32 : UInt64)) rfl (by decide)) hv_v_16) ?_
  refine JL.cons rfl (op_move (ltB rfl) (.tmp rfl)) ?_
  replace hm := lt1_inv hm
  obtain ⟨v_17, hv_v_17, hm⟩ := hm
  refine JL.cons rfl (op_shrUU (ltB rfl) (.tmp rfl) (HasO.cU (x := (32 : UInt64)) rfl (by decide)) hv_v_17) ?_
  replace hm := lt1_inv hm
  obtain ⟨v_18, hv_v_18, hm⟩ := hm
  refine JL.cons rfl (op_arU (ltB rfl) (.tmp rfl) (.tmp rfl) (congrArg some hv_v_18)) ?_
  refine JL.cons rfl (op_move (ltB rfl) (.tmp rfl)) ?_
  refine JL.pre (Imp.sub (ρ' := [(2, .one (.val (PTR gb_2 0))), (6, .one (.val (S (rU UInt64) v_8))), (40, .one (.val (S (rU UInt64) v_18))), (41, .one (.val (S (rU UInt64) s_13)))]) (.cons rfl (.cons rfl (.cons rfl (.cons rfl .nil))))) ?_
  refine JL.at ⟨[(2, .one (.val (PTR gb_2 0))), (6, .one (.val (S (rU UInt64) v_8))), (40, .one (.val (S (rU UInt64) v_18))), (41, .one (.val (S (rU UInt64) s_13)))], [cvar gb_2 (rV 2 (rU UInt64)) (Vector.replicate 2 (0 : UInt64))], []⟩ ?_
  replace hm := lt1_inv hm
  obtain ⟨v_19, hv_v_19, hm⟩ := hm
  refine JL.cons rfl (op_shlUU (ltB rfl) (.tmp rfl) (HasO.cU (x := (32 : UInt64)) rfl (by decide)) hv_v_19) ?_
  refine JL.cons rfl (op_move (ltB rfl) (.tmp rfl)) ?_
  replace hm := lt1_inv hm
  obtain ⟨v_20, hv_v_20, hm⟩ := hm
  refine JL.cons rfl (op_shrUU (ltB rfl) (.tmp rfl) (HasO.cU (x := (32 : UInt64)) rfl (by decide)) hv_v_20) ?_
  replace hm := lt1_inv hm
  obtain ⟨v_21, hv_v_21, hm⟩ := hm
  refine JL.cons rfl (op_arU (ltB rfl) (.tmp rfl) (.tmp rfl) (congrArg some hv_v_21)) ?_
  refine JL.cons rfl (op_build (ltB rfl) tZ77 zv77 tp77 (.S (off := 0) rfl (.tmp rfl) rfl ((Upd.at (off := 0) (i := 0) (Comp.self (rV 2 (rU UInt64)) (Vector.replicate 2 (0 : UInt64))) (by decide) rfl (Upd.self (rV 2 (rU UInt64)) (Vector.replicate 2 (0 : UInt64)) _)).R.at rfl) (.S (off := 1) rfl (.tmp rfl) rfl ((Upd.at (off := 0) (i := 1) (Comp.self (rV 2 (rU UInt64)) (Vector.set (Vector.replicate 2 (0 : UInt64)) 0 v_18 (by decide))) (by decide) rfl (Upd.self (rV 2 (rU UInt64)) (Vector.set (Vector.replicate 2 (0 : UInt64)) 0 v_18 (by decide)) _)).R.at rfl) .nil)) rfl) ?_
  refine JL.cons rfl (op_move (ltB rfl) (.tmp rfl)) ?_
  refine JL.pre (Imp.sub (ρ' := [(2, .one (.val (PTR gb_2 0))), (46, .one (.val (A (rV 2 (rU UInt64)) (#v[v_18, v_21] : (Vector UInt64 2))))), (47, .one (.val (S (rU UInt64) v_8)))]) (.cons rfl (.cons rfl (.cons rfl .nil)))) ?_
  refine JL.at ⟨[(2, .one (.val (PTR gb_2 0))), (46, .one (.val (A (rV 2 (rU UInt64)) (#v[v_18, v_21] : (Vector UInt64 2))))), (47, .one (.val (S (rU UInt64) v_8)))], [cvar gb_2 (rV 2 (rU UInt64)) (Vector.replicate 2 (0 : UInt64))], []⟩ ?_
  replace hm := lt1_inv hm
  obtain ⟨v_22, hv_v_22, hm⟩ := hm
  refine JL.cons rfl (op_shlUU (ltB rfl) (.tmp rfl) (HasO.cU (x := (32 : UInt64)) rfl (by decide)) hv_v_22) ?_
  replace hm := lt1_inv hm
  obtain ⟨v_23, hv_v_23, hm⟩ := hm
  refine JL.cons rfl (op_cmpU (ltB rfl) (.tmp rfl) (HasO.cU (x := (0 : UInt64)) rfl (by decide)) (congrArg some hv_v_23)) ?_
  refine JL.cons rfl (op_storeA (j := 0) tA77 (.tmp rfl) (.tmp rfl) rfl (UpdR.self (by rfl)) rfl) ?_
  refine JL.pre (Imp.sub (ρ' := [(2, .one (.val (PTR gb_2 0))), (49, .one (.val (S rB v_23)))]) (.cons rfl (.cons rfl .nil))) ?_
  refine JL.at ⟨[(2, .one (.val (PTR gb_2 0))), (49, .one (.val (S rB v_23)))], [cvar gb_2 (rV 2 (rU UInt64)) (#v[v_18, v_21] : (Vector UInt64 2))], []⟩ ?_
  refine JL.cons rfl (op_assign (ltB rfl) (.tmp rfl)) ?_
  refine JL.nil ?_
  refine JQ.then ?_
  refine JC.ret ?_
  replace hm := Option.some.inj hm
  subst hm
  exact JQ.done (js := []) (ss := [.val (A (rV 2 (rU UInt64)) (#v[v_18, v_21] : (Vector UInt64 2))), .val (S rB v_23)]) () (.inl rfl) (.nil rfl) rfl (.cons (.cellA (j := 0) tA77 rfl rfl) (.cons (.tmp rfl) .nil)) rfl rfl rfl

theorem sim_sha_above (k : Nat) (x_1 : (Vector UInt64 2)) (lost_2 : Bool) (p_3 : UInt64) (r : Bool) (hm : sha_above k x_1 lost_2 p_3 = some r) : Sim Try.prog 45 [A (rV 2 (rU UInt64)) x_1, S rB lost_2, S (rU UInt64) p_3] [] (γ := Unit) (fun q => []) (fun q => .one (.val (S rB r))) := by
  unfold sha_above at hm
  refine Sim.of Try.func45 rfl rfl (Nat.le_of_ble_eq_true rfl) (fun e0 w0 => ?_)
  refine JC.at ⟨[(0, .one (.val (A (rV 2 (rU UInt64)) x_1))), (1, .one (.val (S rB lost_2))), (2, .one (.val (S (rU UInt64) p_3)))], [], []⟩ ?_
  refine JC.seq ?_
  refine JC.region ?_
  refine JL.consX rfl (op_boxA (ltB rfl) (.tmp rfl)) (fun q => ?_)
  obtain ⟨gb_4, hqq⟩ : ∃ z, z = q := ⟨_, rfl⟩
  subst hqq
  refine JL.pre (Imp.sub (ρ' := [(1, .one (.val (S rB lost_2))), (2, .one (.val (S (rU UInt64) p_3))), (3, .one (.val (PTR gb_4 0)))]) (.cons rfl (.cons rfl (.cons rfl .nil)))) ?_
  refine JL.at ⟨[(1, .one (.val (S rB lost_2))), (2, .one (.val (S (rU UInt64) p_3))), (3, .one (.val (PTR gb_4 0)))], [cvar gb_4 (rV 2 (rU UInt64)) x_1], []⟩ ?_
  refine JL.cons rfl (op_assign (ltB rfl) .cB) ?_
  refine JL.nil ?_
  refine JQ.then ?_
  replace hm := bnd_inv hm
  obtain ⟨x_15, hx1, hq1⟩ := hm
  refine JC.seqJ (γ := Unit) (stj := fun q => ⟨[(6, .one (.val (S rB x_15)))], [], []⟩) (fun q => ?_) ?_
  · obtain _ := q
    refine JC.at ⟨[(6, .one (.val (S rB x_15)))], [], []⟩ ?_
    refine JC.ret ?_
    replace hq1 := Option.some.inj hq1
    subst hq1
    exact JQ.done (js := []) (ss := [.val (S rB x_15)]) () (.inl rfl) (.nil rfl) rfl (.cons (.tmp rfl) .nil) rfl rfl rfl
  · refine JC.region ?_
    replace hx1 := bnd_inv hx1
    obtain ⟨i_5, hv_i_5, hx1⟩ := hx1
    refine JL.cons rfl (op_indexAddrIF (ltB rfl) tr77 (.tmp rfl) .cI hv_i_5) ?_
    replace hx1 := lt1_inv hx1
    obtain ⟨v_6, hv_v_6, hx1⟩ := hx1
    refine JL.cons rfl (op_loadS (j := 0) (ltB rfl) tS65 (.tmp rfl) rfl (Comp.at (Comp.self (rV 2 (rU UInt64)) x_1) i_5.2 rfl) rfl hv_v_6) ?_
    refine JL.cons rfl (op_move (ltB rfl) (.tmp rfl)) ?_
    replace hx1 := lt1_inv hx1
    obtain ⟨v_7, hv_v_7, hx1⟩ := hx1
    refine JL.cons rfl (op_cmpU (ltB rfl) (.tmp rfl) (.tmp rfl) (congrArg some hv_v_7)) ?_
    refine JL.cons rfl (op_move (ltB rfl) (.tmp rfl)) ?_
    refine JL.pre (Imp.sub (ρ' := [(1, .one (.val (S rB lost_2))), (2, .one (.val (S (rU UInt64) p_3))), (3, .one (.val (PTR gb_4 0))), (6, .one (.val (S rB false))), (11, .one (.val (S rB v_7)))]) (.cons rfl (.cons rfl (.cons rfl (.cons rfl (.cons rfl .nil)))))) ?_
    refine JL.at ⟨[(1, .one (.val (S rB lost_2))), (2, .one (.val (S (rU UInt64) p_3))), (3, .one (.val (PTR gb_4 0))), (6, .one (.val (S rB false))), (11, .one (.val (S rB v_7)))], [cvar gb_4 (rV 2 (rU UInt64)) x_1], []⟩ ?_
    replace hx1 := iteB_inv hx1
    rcases hx1 with ⟨hc3, hx1⟩ | ⟨hc3, hx1⟩
    · refine JL.skip (.no rfl (ltB rfl) rfl hc3) (fun d h => by cases h; exact ltB rfl) ?_
      refine JL.skip (.no rfl (ltB rfl) rfl hc3) (fun d h => by cases h; exact ltB rfl) ?_
      refine JL.skip (.no rfl (ltB rfl) rfl hc3) (fun d h => by cases h; exact ltB rfl) ?_
      refine JL.skip (.no rfl (ltB rfl) rfl hc3) (fun d h => by cases h; exact ltB rfl) ?_
      refine JL.skip (.no rfl (ltB rfl) rfl hc3) (fun d h => by cases h; exact ltB rfl) ?_
      refine JL.skip (.und rfl (ltB rfl) rfl) (fun d h => by cases h; exact ltB rfl) ?_
      refine JL.skip (.und rfl (ltB rfl) rfl) (fun d h => by cases h; exact ltB rfl) ?_
      refine JL.skip (.und rfl (ltB rfl) rfl) (fun d h => by cases h; exact ltB rfl) ?_
      refine JL.skip (.und rfl (ltB rfl) rfl) (fun d h => by cases h; exact ltB rfl) ?_
      refine JL.skip (.und rfl (ltB rfl) rfl) (fun d h => by cases h; exact ltB rfl) ?_
      refine JL.skip (.und rfl (ltB rfl) rfl) (fun d h => by cases h; exact ltB rfl) ?_
      refine JL.skip (.no rfl (ltB rfl) rfl hc3) (fun d h => by cases h; exact ltB rfl) ?_
      refine JL.cons rfl (op_pickT (ltB rfl) (.tmp rfl) hc3 .cB) ?_
      refine JL.cons rfl (op_assign (ltB rfl) (.tmp rfl)) ?_
      refine JL.nil ?_
      replace hx1 := Option.some.inj hx1
      first | subst hx1 | clear hx1
      exact JQ.join () (Imp.norm (js := []) rfl (.cons rfl .nil))
    · replace hx1 := bnd_inv hx1
      obtain ⟨i_8, hv_i_8, hx1⟩ := hx1
      refine JL.run (.yes rfl (ltB rfl) rfl hc3) (op_indexAddrIF (ltB rfl) tr77 (.tmp rfl) .cI hv_i_8) ?_
      replace hx1 := lt1_inv hx1
      obtain ⟨v_9, hv_v_9, hx1⟩ := hx1
      refine JL.run (.yes rfl (ltB rfl) rfl hc3) (op_loadS (j := 0) (ltB rfl) tS65 (.tmp rfl) rfl (Comp.at (Comp.self (rV 2 (rU UInt64)) x_1) i_8.2 rfl) rfl hv_v_9) ?_
      refine JL.run (.yes rfl (ltB rfl) rfl hc3) (op_move (ltB rfl) (.tmp rfl)) ?_
      replace hx1 := lt1_inv hx1
      obtain ⟨v_10, hv_v_10, hx1⟩ := hx1
      refine JL.run (.yes rfl (ltB rfl) rfl hc3) (op_cmpU (ltB rfl) (.tmp rfl) (.tmp rfl) (congrArg some hv_v_10)) ?_
      refine JL.run (.yes rfl (ltB rfl) rfl hc3) (op_move (ltB rfl) (.tmp rfl)) ?_
      replace hx1 := iteB_inv hx1
      rcases hx1 with ⟨hc5, hx1⟩ | ⟨hc5, hx1⟩
      · replace hx1 := bnd_inv hx1
        obtain ⟨i_11, hv_i_11, hx1⟩ := hx1
        refine JL.run (.yes rfl (ltB rfl) rfl hc5) (op_indexAddrIF (ltB rfl) tr77 (.tmp rfl) .cI hv_i_11) ?_
        refine JL.pre (Imp.sub (ρ' := [(1, .one (.val (S rB lost_2))), (6, .one (.val (S rB false))), (11, .one (.val (S rB v_7))), (16, .one (.val (S rB v_10))), (17, .one (.val (PTR gb_4 (0 + i_11.1 * 1))))]) (.cons rfl (.cons rfl (.cons rfl (.cons rfl (.cons rfl .nil)))))) ?_
        refine JL.at ⟨[(1, .one (.val (S rB lost_2))), (6, .one (.val (S rB false))), (11, .one (.val (S rB v_7))), (16, .one (.val (S rB v_10))), (17, .one (.val (PTR gb_4 (0 + i_11.1 * 1))))], [cvar gb_4 (rV 2 (rU UInt64)) x_1], []⟩ ?_
        replace hx1 := lt1_inv hx1
        obtain ⟨v_12, hv_v_12, hx1⟩ := hx1
        refine JL.run (.yes rfl (ltB rfl) rfl hc5) (op_loadS (j := 0) (ltB rfl) tS65 (.tmp rfl) rfl (Comp.at (Comp.self (rV 2 (rU UInt64)) x_1) i_11.2 rfl) rfl hv_v_12) ?_
        replace hx1 := lt1_inv hx1
        obtain ⟨v_13, hv_v_13, hx1⟩ := hx1
        refine JL.run (.yes rfl (ltB rfl) rfl hc5) (op_cmpU (ltB rfl) (.tmp rfl) (HasO.cU (x := (0 : UInt64)) rfl (by decide)) (congrArg some hv_v_13)) ?_
        refine JL.run (.yes rfl (ltB rfl) rfl hc5) (op_move (ltB rfl) (.tmp rfl)) ?_
        refine JL.cnd (sv := .one (.val (S rB lost_2))) (Guard.isF (ltB rfl) rfl rfl) rfl (ltB rfl) (fun hq_6 => op_move (ltB rfl) (.tmp rfl)) ?_
        replace hx1 := lt1_inv hx1
        obtain ⟨v_14, hv_v_14, hx1⟩ := hx1
        refine JL.run (.yes rfl (ltB rfl) rfl hc5) (op_pickCS (ltB rfl) (.tmp rfl) (fun hb7 => .cB) (fun hb7 => (HasO.cnd (.tmp rfl) (notT hb7))) hv_v_14) ?_
        refine JL.run (.yes rfl (ltB rfl) rfl hc3) (op_pickT (ltB rfl) (.tmp rfl) hc5 (.tmp rfl)) ?_
        refine JL.pre (Imp.norm (ρ' := [(6, .one (.val (S rB false))), (11, .one (.val (S rB v_7))), (23, .one (.val (S rB v_14)))]) (js := []) rfl (.cons rfl (.cons rfl (.cons rfl .nil)))) ?_
        refine JL.at ⟨[(6, .one (.val (S rB false))), (11, .one (.val (S rB v_7))), (23, .one (.val (S rB v_14)))], [], []⟩ ?_
        refine JL.cons rfl (op_pickF (ltB rfl) (.tmp rfl) hc3 (.tmp rfl)) ?_
        refine JL.cons rfl (op_assign (ltB rfl) (.tmp rfl)) ?_
        refine JL.nil ?_
        replace hx1 := Option.some.inj hx1
        first | subst hx1 | clear hx1
        exact JQ.join () (Imp.norm (js := []) rfl (.cons rfl .nil))
      · refine JL.skip (.no rfl (ltB rfl) rfl hc5) (fun d h => by cases h; exact ltB rfl) ?_
        refine JL.skip (.no rfl (ltB rfl) rfl hc5) (fun d h => by cases h; exact ltB rfl) ?_
        refine JL.skip (.no rfl (ltB rfl) rfl hc5) (fun d h => by cases h; exact ltB rfl) ?_
        refine JL.skip (.no rfl (ltB rfl) rfl hc5) (fun d h => by cases h; exact ltB rfl) ?_
        refine JL.skip (.und rfl (ltB rfl) rfl) (fun d h => by cases h; exact ltB rfl) ?_
        refine JL.skip (.no rfl (ltB rfl) rfl hc5) (fun d h => by cases h; exact ltB rfl) ?_
        refine JL.run (.yes rfl (ltB rfl) rfl hc3) (op_pickF (ltB rfl) (.tmp rfl) hc5 .cB) ?_
        refine JL.pre (Imp.norm (ρ' := [(6, .one (.val (S rB false))), (11, .one (.val (S rB v_7))), (23, .one (.val (S rB false)))]) (js := []) rfl (.cons rfl (.cons rfl (.cons rfl .nil)))) ?_
        refine JL.at ⟨[(6, .one (.val (S rB false))), (11, .one (.val (S rB v_7))), (23, .one (.val (S rB false)))], [], []⟩ ?_
        refine JL.cons rfl (op_pickF (ltB rfl) (.tmp rfl) hc3 (.tmp rfl)) ?_
        refine JL.cons rfl (op_assign (ltB rfl) (.tmp rfl)) ?_
        refine JL.nil ?_
        replace hx1 := Option.some.inj hx1
        first | subst hx1 | clear hx1
        exact JQ.join () (Imp.norm (js := []) rfl (.cons rfl .nil))

theorem sim_sha_constant_1 (k : Nat) (x_1 : UInt64) (x_2 : UInt64) (gb_3 : Nat) (r : Bool) (hm : sha_constant_1 k x_1 x_2 = some r) : Sim Try.prog 50 [S (rU UInt64) x_1, PTR gb_3 0] [cvar gb_3 (rU UInt64) x_2] (γ := Unit) (fun q => [cvar gb_3 (rU UInt64) x_2]) (fun q => .one (.val (S rB r))) := by
  unfold sha_constant_1 at hm
  refine Sim.of Try.func50 rfl rfl (Nat.le_of_ble_eq_true rfl) (fun e0 w0 => ?_)
  refine JC.at ⟨[(0, .one (.val (S (rU UInt64) x_1))), (1, .one (.val (PTR gb_3 0)))], [cvar gb_3 (rU UInt64) x_2], []⟩ ?_
  refine JC.seq ?_
  refine JC.region ?_
  refine JL.cons rfl (op_assign (ltB rfl) .cB) ?_
  refine JL.nil ?_
  refine JQ.then ?_
  refine JC.seq ?_
  refine JC.region ?_
  refine JL.cons rfl (op_move (ltB rfl) (.tmp rfl)) ?_
  replace hm := bnd_inv hm
  obtain ⟨⟨v_4, v_5⟩, hv_v_4, hm⟩ := hm
  refine JL.consX rfl (op_call (js := []) (ltD rfl) cl51 (sim_sha_cube k x_1 (v_4, v_5) hv_v_4) .func (.cons (.tmp rfl) .nil) rfl) (fun _ => ?_)
  refine JL.cons rfl (op_move (ltB rfl) (.tmp rfl)) ?_
  refine JL.cons rfl (op_extract (i := 0) (ltB rfl) (.tmp rfl) rfl) ?_
  refine JL.cons rfl (op_extract (i := 1) (ltB rfl) (.tmp rfl) rfl) ?_
  refine JL.pre (Imp.sub (ρ' := [(1, .one (.val (PTR gb_3 0))), (9, .one (.val (A (rV 2 (rU UInt64)) v_4))), (10, .one (.val (S rB v_5)))]) (.cons rfl (.cons rfl (.cons rfl .nil)))) ?_
  refine JL.at ⟨[(1, .one (.val (PTR gb_3 0))), (9, .one (.val (A (rV 2 (rU UInt64)) v_4))), (10, .one (.val (S rB v_5)))], [cvar gb_3 (rU UInt64) x_2], []⟩ ?_
  refine JL.consX rfl (op_alloc (ltB rfl) tZ77 zr77) (fun q => ?_)
  obtain ⟨gb_6, hqq⟩ : ∃ z, z = q := ⟨_, rfl⟩
  subst hqq
  refine JL.pre (Imp.sub (ρ' := [(1, .one (.val (PTR gb_3 0))), (4, .one (.val (PTR gb_6 0))), (9, .one (.val (A (rV 2 (rU UInt64)) v_4))), (10, .one (.val (S rB v_5)))]) (.cons rfl (.cons rfl (.cons rfl (.cons rfl .nil))))) ?_
  refine JL.at ⟨[(1, .one (.val (PTR gb_3 0))), (4, .one (.val (PTR gb_6 0))), (9, .one (.val (A (rV 2 (rU UInt64)) v_4))), (10, .one (.val (S rB v_5)))], [cvar gb_3 (rU UInt64) x_2, cvar gb_6 (rV 2 (rU UInt64)) (Vector.replicate 2 (0 : UInt64))], []⟩ ?_
  refine JL.cons rfl (op_storeA (j := 1) tA77 (.tmp rfl) (.tmp rfl) rfl (UpdR.self (by rfl)) rfl) ?_
  refine JL.pre (Imp.sub (ρ' := [(1, .one (.val (PTR gb_3 0))), (4, .one (.val (PTR gb_6 0))), (10, .one (.val (S rB v_5)))]) (.cons rfl (.cons rfl (.cons rfl .nil)))) ?_
  refine JL.at ⟨[(1, .one (.val (PTR gb_3 0))), (4, .one (.val (PTR gb_6 0))), (10, .one (.val (S rB v_5)))], [cvar gb_3 (rU UInt64) x_2, cvar gb_6 (rV 2 (rU UInt64)) v_4], []⟩ ?_
  refine JL.cons rfl (op_assign (ltB rfl) (.tmp rfl)) ?_
  refine JL.nil ?_
  refine JQ.then ?_
  refine JC.seq ?_
  refine JC.region ?_
  refine JL.cons rfl (op_loadA (j := 1) (ltB rfl) tA77 (.tmp rfl) rfl (Comp.self (rV 2 (rU UInt64)) v_4) rfl) ?_
  refine JL.cons rfl (op_move (ltB rfl) (.tmp rfl)) ?_
  refine JL.cons rfl (op_loadS (j := 0) (ltB rfl) tS65 (.tmp rfl) rfl (Comp.self (rU UInt64) x_2) rfl rfl) ?_
  replace hm := bnd_inv hm
  obtain ⟨v_7, hv_v_7, hm⟩ := hm
  refine JL.consX rfl (op_call (js := []) (ltD rfl) cl45 (sim_sha_above k v_4 v_5 x_2 v_7 hv_v_7) .func (.cons (.tmp rfl) (.cons (.tmp rfl) (.cons (.tmp rfl) .nil))) rfl) (fun _ => ?_)
  refine JL.cons rfl (op_assign (ltB rfl) (.tmp rfl)) ?_
  refine JL.pre (Imp.norm (ρ' := [(3, .one (.val (S rB v_7)))]) (js := [0]) rfl (.cons rfl .nil)) ?_
  refine JL.at ⟨[(3, .one (.val (S rB v_7)))], [cvar gb_3 (rU UInt64) x_2], []⟩ ?_
  refine JL.nil ?_
  refine JQ.then ?_
  refine JC.ret ?_
  replace hm := Option.some.inj hm
  subst hm
  exact JQ.done (js := [0]) (ss := [.val (S rB v_7)]) () (.inl rfl) (.nil rfl) rfl (.cons (.tmp rfl) .nil) rfl rfl rfl

end Go.Proofs.Ytdncoiehmkcajaa
