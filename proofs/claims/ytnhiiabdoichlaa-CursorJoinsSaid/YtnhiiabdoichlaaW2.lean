/- Walks. -/
import Derived.Test.YtnhiiabdoichlaaT
import Derived.Test.YtnhiiabdoichlaaW1
namespace Go.Proofs.Ytnhiiabdoichlaa
open Go Fw
set_option linter.unusedVariables false
set_option maxRecDepth 100000
set_option maxHeartbeats 4000000

theorem sim_sha_cube (k : Nat) (x_1 : UInt64) (r : (Vector UInt64 2) × Bool) (hm : sha_cube k x_1 = some r) : Sim Try.prog 57 [S (rU UInt64) x_1] [] (γ := Unit) (fun q => []) (fun q => .tup [.val (A (rV 2 (rU UInt64)) r.1), .val (S rB r.2)]) := by
  unfold sha_cube at hm
  refine Sim.of Try.func57 rfl rfl (Nat.le_of_ble_eq_true rfl) (fun e0 w0 => ?_)
  refine JC.at ⟨[(0, .one (.val (S (rU UInt64) x_1)))], [], []⟩ ?_
  refine JC.seq ?_
  refine JC.region ?_
  refine JL.consX rfl (op_alloc (ltB rfl) tZ91 zr91) (fun q => ?_)
  obtain ⟨gb_2, hqq⟩ : ∃ z, z = q := ⟨_, rfl⟩
  subst hqq
  refine JL.pre (Imp.sub (ρ' := [(0, .one (.val (S (rU UInt64) x_1))), (2, .one (.val (PTR gb_2 0)))]) (.cons rfl (.cons rfl .nil))) ?_
  refine JL.at ⟨[(0, .one (.val (S (rU UInt64) x_1))), (2, .one (.val (PTR gb_2 0)))], [cvar gb_2 (rV 2 (rU UInt64)) (Vector.replicate 2 (0 : UInt64))], []⟩ ?_
  refine JL.cons rfl (op_assign (ltB rfl) .cB) ?_
  refine JL.nil ?_
  refine JQ.then ?_
  refine JC.seq ?_
  refine JC.region ?_
  refine JL.cons rfl (op_move (ltB rfl) (.tmp rfl)) ?_
  replace hm := bnd_inv hm
  obtain ⟨v_3, hv_v_3, hm⟩ := hm
  refine JL.consX rfl (op_call (js := []) (ltD rfl) cl60 (sim_sha_square k x_1 v_3 hv_v_3) .func (.cons (.tmp rfl) .nil) rfl) (fun _ => ?_)
  refine JL.consX rfl (op_alloc (ltB rfl) tZ91 zr91) (fun q => ?_)
  obtain ⟨gb_4, hqq⟩ : ∃ z, z = q := ⟨_, rfl⟩
  subst hqq
  refine JL.pre (Imp.sub (ρ' := [(0, .one (.val (S (rU UInt64) x_1))), (2, .one (.val (PTR gb_2 0))), (4, .one (.val (PTR gb_4 0))), (12, .one (.val (A (rV 2 (rU UInt64)) v_3)))]) (.cons rfl (.cons rfl (.cons rfl (.cons rfl .nil))))) ?_
  refine JL.at ⟨[(0, .one (.val (S (rU UInt64) x_1))), (2, .one (.val (PTR gb_2 0))), (4, .one (.val (PTR gb_4 0))), (12, .one (.val (A (rV 2 (rU UInt64)) v_3)))], [cvar gb_2 (rV 2 (rU UInt64)) (Vector.replicate 2 (0 : UInt64)), cvar gb_4 (rV 2 (rU UInt64)) (Vector.replicate 2 (0 : UInt64))], []⟩ ?_
  refine JL.cons rfl (op_storeA (j := 1) tA91 (.tmp rfl) (.tmp rfl) rfl (UpdR.self (by rfl)) rfl) ?_
  refine JL.pre (Imp.sub (ρ' := [(0, .one (.val (S (rU UInt64) x_1))), (2, .one (.val (PTR gb_2 0))), (4, .one (.val (PTR gb_4 0)))]) (.cons rfl (.cons rfl (.cons rfl .nil)))) ?_
  refine JL.at ⟨[(0, .one (.val (S (rU UInt64) x_1))), (2, .one (.val (PTR gb_2 0))), (4, .one (.val (PTR gb_4 0)))], [cvar gb_2 (rV 2 (rU UInt64)) (Vector.replicate 2 (0 : UInt64)), cvar gb_4 (rV 2 (rU UInt64)) v_3], []⟩ ?_
  refine JL.nil ?_
  refine JQ.then ?_
  refine JC.seq ?_
  refine JC.region ?_
  replace hm := bnd_inv hm
  obtain ⟨i_5, hv_i_5, hm⟩ := hm
  refine JL.cons rfl (op_indexAddrIF (ltB rfl) tr91 (.tmp rfl) .cI hv_i_5) ?_
  replace hm := lt1_inv hm
  obtain ⟨v_6, hv_v_6, hm⟩ := hm
  refine JL.cons rfl (op_loadS (j := 1) (ltB rfl) tS23 (.tmp rfl) rfl (Comp.at (Comp.self (rV 2 (rU UInt64)) v_3) i_5.2 rfl) rfl hv_v_6) ?_
  refine JL.cons rfl (op_move (ltB rfl) (.tmp rfl)) ?_
  replace hm := bnd_inv hm
  obtain ⟨⟨v_7, v_8⟩, hv_v_7, hm⟩ := hm
  refine JL.consX rfl (op_call (js := []) (ltD rfl) cl66 (sim_math_bits_Mul64 k v_6 x_1 (v_7, v_8) hv_v_7) .func (.cons (.tmp rfl) (.cons (.tmp rfl) .nil)) rfl) (fun _ => ?_)
  refine JL.cons rfl (op_move (ltB rfl) (.tmp rfl)) ?_
  refine JL.cons rfl (op_extract (i := 0) (ltB rfl) (.tmp rfl) rfl) ?_
  refine JL.pre (Imp.sub (ρ' := [(0, .one (.val (S (rU UInt64) x_1))), (2, .one (.val (PTR gb_2 0))), (4, .one (.val (PTR gb_4 0))), (13, .tup [.val (S (rU UInt64) v_7), .val (S (rU UInt64) v_8)]), (18, .one (.val (S (rU UInt64) v_7)))]) (.cons rfl (.cons rfl (.cons rfl (.cons rfl (.cons rfl .nil)))))) ?_
  refine JL.at ⟨[(0, .one (.val (S (rU UInt64) x_1))), (2, .one (.val (PTR gb_2 0))), (4, .one (.val (PTR gb_4 0))), (13, .tup [.val (S (rU UInt64) v_7), .val (S (rU UInt64) v_8)]), (18, .one (.val (S (rU UInt64) v_7)))], [cvar gb_2 (rV 2 (rU UInt64)) (Vector.replicate 2 (0 : UInt64)), cvar gb_4 (rV 2 (rU UInt64)) v_3], []⟩ ?_
  refine JL.cons rfl (op_extract (i := 1) (ltB rfl) (.tmp rfl) rfl) ?_
  refine JL.cons rfl (op_assign (ltB rfl) (.tmp rfl)) ?_
  refine JL.cons rfl (op_assign (ltB rfl) (.tmp rfl)) ?_
  refine JL.nil ?_
  refine JQ.then ?_
  refine JC.seq ?_
  refine JC.region ?_
  replace hm := bnd_inv hm
  obtain ⟨i_9, hv_i_9, hm⟩ := hm
  refine JL.cons rfl (op_indexAddrIF (ltB rfl) tr91 (.tmp rfl) .cI hv_i_9) ?_
  replace hm := lt1_inv hm
  obtain ⟨v_10, hv_v_10, hm⟩ := hm
  refine JL.cons rfl (op_loadS (j := 1) (ltB rfl) tS23 (.tmp rfl) rfl (Comp.at (Comp.self (rV 2 (rU UInt64)) v_3) i_9.2 rfl) rfl hv_v_10) ?_
  refine JL.cons rfl (op_move (ltB rfl) (.tmp rfl)) ?_
  refine JL.pre (Imp.norm (ρ' := [(2, .one (.val (PTR gb_2 0))), (5, .one (.val (S (rU UInt64) v_7))), (6, .one (.val (S (rU UInt64) v_8))), (22, .one (.val (S (rU UInt64) v_10))), (23, .one (.val (S (rU UInt64) x_1)))]) (js := [0]) rfl (.cons rfl (.cons rfl (.cons rfl (.cons rfl (.cons rfl .nil)))))) ?_
  refine JL.at ⟨[(2, .one (.val (PTR gb_2 0))), (5, .one (.val (S (rU UInt64) v_7))), (6, .one (.val (S (rU UInt64) v_8))), (22, .one (.val (S (rU UInt64) v_10))), (23, .one (.val (S (rU UInt64) x_1)))], [cvar gb_2 (rV 2 (rU UInt64)) (Vector.replicate 2 (0 : UInt64))], []⟩ ?_
  replace hm := bnd_inv hm
  obtain ⟨⟨v_11, v_12⟩, hv_v_11, hm⟩ := hm
  refine JL.consX rfl (op_call (js := []) (ltD rfl) cl66 (sim_math_bits_Mul64 k v_10 x_1 (v_11, v_12) hv_v_11) .func (.cons (.tmp rfl) (.cons (.tmp rfl) .nil)) rfl) (fun _ => ?_)
  refine JL.cons rfl (op_move (ltB rfl) (.tmp rfl)) ?_
  refine JL.cons rfl (op_extract (i := 0) (ltB rfl) (.tmp rfl) rfl) ?_
  refine JL.cons rfl (op_extract (i := 1) (ltB rfl) (.tmp rfl) rfl) ?_
  refine JL.cons rfl (op_assign (ltB rfl) (.tmp rfl)) ?_
  refine JL.cons rfl (op_assign (ltB rfl) (.tmp rfl)) ?_
  refine JL.pre (Imp.sub (ρ' := [(2, .one (.val (PTR gb_2 0))), (5, .one (.val (S (rU UInt64) v_7))), (6, .one (.val (S (rU UInt64) v_8))), (7, .one (.val (S (rU UInt64) v_11))), (8, .one (.val (S (rU UInt64) v_12)))]) (.cons rfl (.cons rfl (.cons rfl (.cons rfl (.cons rfl .nil)))))) ?_
  refine JL.at ⟨[(2, .one (.val (PTR gb_2 0))), (5, .one (.val (S (rU UInt64) v_7))), (6, .one (.val (S (rU UInt64) v_8))), (7, .one (.val (S (rU UInt64) v_11))), (8, .one (.val (S (rU UInt64) v_12)))], [cvar gb_2 (rV 2 (rU UInt64)) (Vector.replicate 2 (0 : UInt64))], []⟩ ?_
  refine JL.nil ?_
  refine JQ.then ?_
  refine JC.seq ?_
  refine JC.region ?_
  refine JL.cons rfl (op_move (ltB rfl) (.tmp rfl)) ?_
  refine JL.cons rfl (op_move (ltB rfl) (.tmp rfl)) ?_
  replace hm := bnd_inv hm
  obtain ⟨⟨s_13, o_14⟩, hv_s_13, hm⟩ := hm
  refine JL.cons rfl (op_add64 (ltB rfl) ex67 .func (.tmp rfl) (.tmp rfl) (HasO.cU (x := (0 : UInt64)) rfl (by decide)) hv_s_13) ?_
  refine JL.cons rfl (op_move (ltB rfl) (.tmp rfl)) ?_
  refine JL.cons rfl (op_extract (i := 0) (ltB rfl) (.tmp rfl) rfl) ?_
  refine JL.cons rfl (op_extract (i := 1) (ltB rfl) (.tmp rfl) rfl) ?_
  refine JL.pre (Imp.sub (ρ' := [(2, .one (.val (PTR gb_2 0))), (6, .one (.val (S (rU UInt64) v_8))), (7, .one (.val (S (rU UInt64) v_11))), (8, .one (.val (S (rU UInt64) v_12))), (31, .one (.val (S (rU UInt64) s_13))), (32, .one (.val (S (rU UInt64) o_14)))]) (.cons rfl (.cons rfl (.cons rfl (.cons rfl (.cons rfl (.cons rfl .nil))))))) ?_
  refine JL.at ⟨[(2, .one (.val (PTR gb_2 0))), (6, .one (.val (S (rU UInt64) v_8))), (7, .one (.val (S (rU UInt64) v_11))), (8, .one (.val (S (rU UInt64) v_12))), (31, .one (.val (S (rU UInt64) s_13))), (32, .one (.val (S (rU UInt64) o_14)))], [cvar gb_2 (rV 2 (rU UInt64)) (Vector.replicate 2 (0 : UInt64))], []⟩ ?_
  refine JL.cons rfl (op_assign (ltB rfl) (.tmp rfl)) ?_
  refine JL.cons rfl (op_assign (ltB rfl) (.tmp rfl)) ?_
  refine JL.nil ?_
  refine JQ.then ?_
  refine JC.seq ?_
  refine JC.region ?_
  refine JL.cons rfl (op_move (ltB rfl) (.tmp rfl)) ?_
  refine JL.cons rfl (op_move (ltB rfl) (.tmp rfl)) ?_
  replace hm := lt1_inv hm
  obtain ⟨v_15, hv_v_15, hm⟩ := hm
  refine JL.cons rfl (op_arU (ltB rfl) (.tmp rfl) (.tmp rfl) (congrArg some hv_v_15)) ?_
  refine JL.cons rfl (op_assign (ltB rfl) (.tmp rfl)) ?_
  refine JL.pre (Imp.sub (ρ' := [(2, .one (.val (PTR gb_2 0))), (6, .one (.val (S (rU UInt64) v_8))), (8, .one (.val (S (rU UInt64) s_13))), (10, .one (.val (S (rU UInt64) v_15)))]) (.cons rfl (.cons rfl (.cons rfl (.cons rfl .nil))))) ?_
  refine JL.at ⟨[(2, .one (.val (PTR gb_2 0))), (6, .one (.val (S (rU UInt64) v_8))), (8, .one (.val (S (rU UInt64) s_13))), (10, .one (.val (S (rU UInt64) v_15)))], [cvar gb_2 (rV 2 (rU UInt64)) (Vector.replicate 2 (0 : UInt64))], []⟩ ?_
  refine JL.nil ?_
  refine JQ.then ?_
  refine JC.seq ?_
  refine JC.region ?_
  refine JL.cons rfl (op_move (ltB rfl) (.tmp rfl)) ?_
  replace hm := lt1_inv hm
  obtain ⟨v_16, hv_v_16, hm⟩ := hm
  refine JL.cons rfl (op_shlUU (ltB rfl) (.tmp rfl) (HasO.cU (x := (32 : UInt64)) rfl (by decide)) hv_v_16) ?_
  refine JL.cons rfl (op_move (ltB rfl) (.tmp rfl)) ?_
  replace hm := lt1_inv hm
  obtain ⟨v_17, hv_v_17, hm⟩ := hm
  refine JL.cons rfl (op_shrUU (ltB rfl) (.tmp rfl) (HasO.cU (x := (32 : UInt64)) rfl (by decide)) hv_v_17) ?_
  replace hm := lt1_inv hm
  obtain ⟨v_18, hv_v_18, hm⟩ := hm
  refine JL.cons rfl (op_arU (ltB rfl) (.tmp rfl) (.tmp rfl) (congrArg some hv_v_18)) ?_
  refine JL.cons rfl (op_move (ltB rfl) (.tmp rfl)) ?_
  refine JL.pre (Imp.sub (ρ' := [(2, .one (.val (PTR gb_2 0))), (6, .one (.val (S (rU UInt64) v_8))), (40, .one (.val (S (rU UInt64) v_18))), (41, .one (.val (S (rU UInt64) s_13)))]) (.cons rfl (.cons rfl (.cons rfl (.cons rfl .nil))))) ?_
  refine JL.at ⟨[(2, .one (.val (PTR gb_2 0))), (6, .one (.val (S (rU UInt64) v_8))), (40, .one (.val (S (rU UInt64) v_18))), (41, .one (.val (S (rU UInt64) s_13)))], [cvar gb_2 (rV 2 (rU UInt64)) (Vector.replicate 2 (0 : UInt64))], []⟩ ?_
  replace hm := lt1_inv hm
  obtain ⟨v_19, hv_v_19, hm⟩ := hm
  refine JL.cons rfl (op_shlUU (ltB rfl) (.tmp rfl) (HasO.cU (x := (32 : UInt64)) rfl (by decide)) hv_v_19) ?_
  refine JL.cons rfl (op_move (ltB rfl) (.tmp rfl)) ?_
  replace hm := lt1_inv hm
  obtain ⟨v_20, hv_v_20, hm⟩ := hm
  refine JL.cons rfl (op_shrUU (ltB rfl) (.tmp rfl) (HasO.cU (x := (32 : UInt64)) rfl (by decide)) hv_v_20) ?_
  replace hm := lt1_inv hm
  obtain ⟨v_21, hv_v_21, hm⟩ := hm
  refine JL.cons rfl (op_arU (ltB rfl) (.tmp rfl) (.tmp rfl) (congrArg some hv_v_21)) ?_
  refine JL.cons rfl (op_build (ltB rfl) tZ91 zv91 tp91 (.S (off := 0) rfl (.tmp rfl) rfl ((Upd.at (off := 0) (i := 0) (Comp.self (rV 2 (rU UInt64)) (Vector.replicate 2 (0 : UInt64))) (by decide) rfl (Upd.self (rV 2 (rU UInt64)) (Vector.replicate 2 (0 : UInt64)) _)).R.at rfl) (.S (off := 1) rfl (.tmp rfl) rfl ((Upd.at (off := 0) (i := 1) (Comp.self (rV 2 (rU UInt64)) (Vector.set (Vector.replicate 2 (0 : UInt64)) 0 v_18 (by decide))) (by decide) rfl (Upd.self (rV 2 (rU UInt64)) (Vector.set (Vector.replicate 2 (0 : UInt64)) 0 v_18 (by decide)) _)).R.at rfl) .nil)) rfl) ?_
  refine JL.cons rfl (op_move (ltB rfl) (.tmp rfl)) ?_
  refine JL.pre (Imp.sub (ρ' := [(2, .one (.val (PTR gb_2 0))), (46, .one (.val (A (rV 2 (rU UInt64)) (#v[v_18, v_21] : (Vector UInt64 2))))), (47, .one (.val (S (rU UInt64) v_8)))]) (.cons rfl (.cons rfl (.cons rfl .nil)))) ?_
  refine JL.at ⟨[(2, .one (.val (PTR gb_2 0))), (46, .one (.val (A (rV 2 (rU UInt64)) (#v[v_18, v_21] : (Vector UInt64 2))))), (47, .one (.val (S (rU UInt64) v_8)))], [cvar gb_2 (rV 2 (rU UInt64)) (Vector.replicate 2 (0 : UInt64))], []⟩ ?_
  replace hm := lt1_inv hm
  obtain ⟨v_22, hv_v_22, hm⟩ := hm
  refine JL.cons rfl (op_shlUU (ltB rfl) (.tmp rfl) (HasO.cU (x := (32 : UInt64)) rfl (by decide)) hv_v_22) ?_
  replace hm := lt1_inv hm
  obtain ⟨v_23, hv_v_23, hm⟩ := hm
  refine JL.cons rfl (op_cmpU (ltB rfl) (.tmp rfl) (HasO.cU (x := (0 : UInt64)) rfl (by decide)) (congrArg some hv_v_23)) ?_
  refine JL.cons rfl (op_storeA (j := 0) tA91 (.tmp rfl) (.tmp rfl) rfl (UpdR.self (by rfl)) rfl) ?_
  refine JL.pre (Imp.sub (ρ' := [(2, .one (.val (PTR gb_2 0))), (49, .one (.val (S rB v_23)))]) (.cons rfl (.cons rfl .nil))) ?_
  refine JL.at ⟨[(2, .one (.val (PTR gb_2 0))), (49, .one (.val (S rB v_23)))], [cvar gb_2 (rV 2 (rU UInt64)) (#v[v_18, v_21] : (Vector UInt64 2))], []⟩ ?_
  refine JL.cons rfl (op_assign (ltB rfl) (.tmp rfl)) ?_
  refine JL.nil ?_
  refine JQ.then ?_
  refine JC.ret ?_
  replace hm := Option.some.inj hm
  subst hm
  exact JQ.done (js := []) (ss := [.val (A (rV 2 (rU UInt64)) (#v[v_18, v_21] : (Vector UInt64 2))), .val (S rB v_23)]) () (.inl rfl) (.nil rfl) rfl (.cons (.cellA (j := 0) tA91 rfl rfl) (.cons (.tmp rfl) .nil)) rfl rfl rfl

theorem sim_sha_above (k : Nat) (x_1 : (Vector UInt64 2)) (lost_2 : Bool) (p_3 : UInt64) (r : Bool) (hm : sha_above k x_1 lost_2 p_3 = some r) : Sim Try.prog 58 [A (rV 2 (rU UInt64)) x_1, S rB lost_2, S (rU UInt64) p_3] [] (γ := Unit) (fun q => []) (fun q => .one (.val (S rB r))) := by
  unfold sha_above at hm
  refine Sim.of Try.func58 rfl rfl (Nat.le_of_ble_eq_true rfl) (fun e0 w0 => ?_)
  refine JC.at ⟨[(0, .one (.val (A (rV 2 (rU UInt64)) x_1))), (1, .one (.val (S rB lost_2))), (2, .one (.val (S (rU UInt64) p_3)))], [], []⟩ ?_
  refine JC.seq ?_
  refine JC.region ?_
  refine JL.consX rfl (op_boxA (ltB rfl) (.tmp rfl)) (fun q => ?_)
  obtain ⟨gb_4, hqq⟩ : ∃ z, z = q := ⟨_, rfl⟩
  subst hqq
  refine JL.pre (Imp.sub (ρ' := [(1, .one (.val (S rB lost_2))), (2, .one (.val (S (rU UInt64) p_3))), (3, .one (.val (PTR gb_4 0)))]) (.cons rfl (.cons rfl (.cons rfl .nil)))) ?_
  refine JL.at ⟨[(1, .one (.val (S rB lost_2))), (2, .one (.val (S (rU UInt64) p_3))), (3, .one (.val (PTR gb_4 0)))], [cvar gb_4 (rV 2 (rU UInt64)) x_1], []⟩ ?_
  refine JL.cons rfl (op_assign (ltB rfl) .cB) ?_
  refine JL.nil ?_
  refine JQ.then ?_
  replace hm := bnd_inv hm
  obtain ⟨x_15, hx1, hq1⟩ := hm
  refine JC.seqJ (γ := Unit) (stj := fun q => ⟨[(6, .one (.val (S rB x_15)))], [], []⟩) (fun q => ?_) ?_
  · obtain _ := q
    refine JC.at ⟨[(6, .one (.val (S rB x_15)))], [], []⟩ ?_
    refine JC.ret ?_
    replace hq1 := Option.some.inj hq1
    subst hq1
    exact JQ.done (js := []) (ss := [.val (S rB x_15)]) () (.inl rfl) (.nil rfl) rfl (.cons (.tmp rfl) .nil) rfl rfl rfl
  · refine JC.region ?_
    replace hx1 := bnd_inv hx1
    obtain ⟨i_5, hv_i_5, hx1⟩ := hx1
    refine JL.cons rfl (op_indexAddrIF (ltB rfl) tr91 (.tmp rfl) .cI hv_i_5) ?_
    replace hx1 := lt1_inv hx1
    obtain ⟨v_6, hv_v_6, hx1⟩ := hx1
    refine JL.cons rfl (op_loadS (j := 0) (ltB rfl) tS23 (.tmp rfl) rfl (Comp.at (Comp.self (rV 2 (rU UInt64)) x_1) i_5.2 rfl) rfl hv_v_6) ?_
    refine JL.cons rfl (op_move (ltB rfl) (.tmp rfl)) ?_
    replace hx1 := lt1_inv hx1
    obtain ⟨v_7, hv_v_7, hx1⟩ := hx1
    refine JL.cons rfl (op_cmpU (ltB rfl) (.tmp rfl) (.tmp rfl) (congrArg some hv_v_7)) ?_
    refine JL.cons rfl (op_move (ltB rfl) (.tmp rfl)) ?_
    refine JL.pre (Imp.sub (ρ' := [(1, .one (.val (S rB lost_2))), (2, .one (.val (S (rU UInt64) p_3))), (3, .one (.val (PTR gb_4 0))), (6, .one (.val (S rB false))), (11, .one (.val (S rB v_7)))]) (.cons rfl (.cons rfl (.cons rfl (.cons rfl (.cons rfl .nil)))))) ?_
    refine JL.at ⟨[(1, .one (.val (S rB lost_2))), (2, .one (.val (S (rU UInt64) p_3))), (3, .one (.val (PTR gb_4 0))), (6, .one (.val (S rB false))), (11, .one (.val (S rB v_7)))], [cvar gb_4 (rV 2 (rU UInt64)) x_1], []⟩ ?_
    replace hx1 := iteB_inv hx1
    rcases hx1 with ⟨hc3, hx1⟩ | ⟨hc3, hx1⟩
    · refine JL.skip (.no rfl (ltB rfl) rfl hc3) (fun d h => by cases h; exact ltB rfl) ?_
      refine JL.skip (.no rfl (ltB rfl) rfl hc3) (fun d h => by cases h; exact ltB rfl) ?_
      refine JL.skip (.no rfl (ltB rfl) rfl hc3) (fun d h => by cases h; exact ltB rfl) ?_
      refine JL.skip (.no rfl (ltB rfl) rfl hc3) (fun d h => by cases h; exact ltB rfl) ?_
      refine JL.skip (.no rfl (ltB rfl) rfl hc3) (fun d h => by cases h; exact ltB rfl) ?_
      refine JL.skip (.und rfl (ltB rfl) rfl) (fun d h => by cases h; exact ltB rfl) ?_
      refine JL.skip (.und rfl (ltB rfl) rfl) (fun d h => by cases h; exact ltB rfl) ?_
      refine JL.skip (.und rfl (ltB rfl) rfl) (fun d h => by cases h; exact ltB rfl) ?_
      refine JL.skip (.und rfl (ltB rfl) rfl) (fun d h => by cases h; exact ltB rfl) ?_
      refine JL.skip (.und rfl (ltB rfl) rfl) (fun d h => by cases h; exact ltB rfl) ?_
      refine JL.skip (.und rfl (ltB rfl) rfl) (fun d h => by cases h; exact ltB rfl) ?_
      refine JL.skip (.no rfl (ltB rfl) rfl hc3) (fun d h => by cases h; exact ltB rfl) ?_
      refine JL.cons rfl (op_pickT (ltB rfl) (.tmp rfl) hc3 .cB) ?_
      refine JL.cons rfl (op_assign (ltB rfl) (.tmp rfl)) ?_
      refine JL.nil ?_
      replace hx1 := Option.some.inj hx1
      first | subst hx1 | clear hx1
      exact JQ.join () (Imp.norm (js := []) rfl (.cons rfl .nil))
    · replace hx1 := bnd_inv hx1
      obtain ⟨i_8, hv_i_8, hx1⟩ := hx1
      refine JL.run (.yes rfl (ltB rfl) rfl hc3) (op_indexAddrIF (ltB rfl) tr91 (.tmp rfl) .cI hv_i_8) ?_
      replace hx1 := lt1_inv hx1
      obtain ⟨v_9, hv_v_9, hx1⟩ := hx1
      refine JL.run (.yes rfl (ltB rfl) rfl hc3) (op_loadS (j := 0) (ltB rfl) tS23 (.tmp rfl) rfl (Comp.at (Comp.self (rV 2 (rU UInt64)) x_1) i_8.2 rfl) rfl hv_v_9) ?_
      refine JL.run (.yes rfl (ltB rfl) rfl hc3) (op_move (ltB rfl) (.tmp rfl)) ?_
      replace hx1 := lt1_inv hx1
      obtain ⟨v_10, hv_v_10, hx1⟩ := hx1
      refine JL.run (.yes rfl (ltB rfl) rfl hc3) (op_cmpU (ltB rfl) (.tmp rfl) (.tmp rfl) (congrArg some hv_v_10)) ?_
      refine JL.run (.yes rfl (ltB rfl) rfl hc3) (op_move (ltB rfl) (.tmp rfl)) ?_
      replace hx1 := iteB_inv hx1
      rcases hx1 with ⟨hc5, hx1⟩ | ⟨hc5, hx1⟩
      · replace hx1 := bnd_inv hx1
        obtain ⟨i_11, hv_i_11, hx1⟩ := hx1
        refine JL.run (.yes rfl (ltB rfl) rfl hc5) (op_indexAddrIF (ltB rfl) tr91 (.tmp rfl) .cI hv_i_11) ?_
        refine JL.pre (Imp.sub (ρ' := [(1, .one (.val (S rB lost_2))), (6, .one (.val (S rB false))), (11, .one (.val (S rB v_7))), (16, .one (.val (S rB v_10))), (17, .one (.val (PTR gb_4 (0 + i_11.1 * 1))))]) (.cons rfl (.cons rfl (.cons rfl (.cons rfl (.cons rfl .nil)))))) ?_
        refine JL.at ⟨[(1, .one (.val (S rB lost_2))), (6, .one (.val (S rB false))), (11, .one (.val (S rB v_7))), (16, .one (.val (S rB v_10))), (17, .one (.val (PTR gb_4 (0 + i_11.1 * 1))))], [cvar gb_4 (rV 2 (rU UInt64)) x_1], []⟩ ?_
        replace hx1 := lt1_inv hx1
        obtain ⟨v_12, hv_v_12, hx1⟩ := hx1
        refine JL.run (.yes rfl (ltB rfl) rfl hc5) (op_loadS (j := 0) (ltB rfl) tS23 (.tmp rfl) rfl (Comp.at (Comp.self (rV 2 (rU UInt64)) x_1) i_11.2 rfl) rfl hv_v_12) ?_
        replace hx1 := lt1_inv hx1
        obtain ⟨v_13, hv_v_13, hx1⟩ := hx1
        refine JL.run (.yes rfl (ltB rfl) rfl hc5) (op_cmpU (ltB rfl) (.tmp rfl) (HasO.cU (x := (0 : UInt64)) rfl (by decide)) (congrArg some hv_v_13)) ?_
        refine JL.run (.yes rfl (ltB rfl) rfl hc5) (op_move (ltB rfl) (.tmp rfl)) ?_
        refine JL.cnd (sv := .one (.val (S rB lost_2))) (Guard.isF (ltB rfl) rfl rfl) rfl (ltB rfl) (fun hq_6 => op_move (ltB rfl) (.tmp rfl)) ?_
        replace hx1 := lt1_inv hx1
        obtain ⟨v_14, hv_v_14, hx1⟩ := hx1
        refine JL.run (.yes rfl (ltB rfl) rfl hc5) (op_pickCS (ltB rfl) (.tmp rfl) (fun hb7 => .cB) (fun hb7 => (HasO.cnd (.tmp rfl) (notT hb7))) hv_v_14) ?_
        refine JL.run (.yes rfl (ltB rfl) rfl hc3) (op_pickT (ltB rfl) (.tmp rfl) hc5 (.tmp rfl)) ?_
        refine JL.pre (Imp.norm (ρ' := [(6, .one (.val (S rB false))), (11, .one (.val (S rB v_7))), (23, .one (.val (S rB v_14)))]) (js := []) rfl (.cons rfl (.cons rfl (.cons rfl .nil)))) ?_
        refine JL.at ⟨[(6, .one (.val (S rB false))), (11, .one (.val (S rB v_7))), (23, .one (.val (S rB v_14)))], [], []⟩ ?_
        refine JL.cons rfl (op_pickF (ltB rfl) (.tmp rfl) hc3 (.tmp rfl)) ?_
        refine JL.cons rfl (op_assign (ltB rfl) (.tmp rfl)) ?_
        refine JL.nil ?_
        replace hx1 := Option.some.inj hx1
        first | subst hx1 | clear hx1
        exact JQ.join () (Imp.norm (js := []) rfl (.cons rfl .nil))
      · refine JL.skip (.no rfl (ltB rfl) rfl hc5) (fun d h => by cases h; exact ltB rfl) ?_
        refine JL.skip (.no rfl (ltB rfl) rfl hc5) (fun d h => by cases h; exact ltB rfl) ?_
        refine JL.skip (.no rfl (ltB rfl) rfl hc5) (fun d h => by cases h; exact ltB rfl) ?_
        refine JL.skip (.no rfl (ltB rfl) rfl hc5) (fun d h => by cases h; exact ltB rfl) ?_
        refine JL.skip (.und rfl (ltB rfl) rfl) (fun d h => by cases h; exact ltB rfl) ?_
        refine JL.skip (.no rfl (ltB rfl) rfl hc5) (fun d h => by cases h; exact ltB rfl) ?_
        refine JL.run (.yes rfl (ltB rfl) rfl hc3) (op_pickF (ltB rfl) (.tmp rfl) hc5 .cB) ?_
        refine JL.pre (Imp.norm (ρ' := [(6, .one (.val (S rB false))), (11, .one (.val (S rB v_7))), (23, .one (.val (S rB false)))]) (js := []) rfl (.cons rfl (.cons rfl (.cons rfl .nil)))) ?_
        refine JL.at ⟨[(6, .one (.val (S rB false))), (11, .one (.val (S rB v_7))), (23, .one (.val (S rB false)))], [], []⟩ ?_
        refine JL.cons rfl (op_pickF (ltB rfl) (.tmp rfl) hc3 (.tmp rfl)) ?_
        refine JL.cons rfl (op_assign (ltB rfl) (.tmp rfl)) ?_
        refine JL.nil ?_
        replace hx1 := Option.some.inj hx1
        first | subst hx1 | clear hx1
        exact JQ.join () (Imp.norm (js := []) rfl (.cons rfl .nil))

theorem sim_sha_constant_1 (k : Nat) (x_1 : UInt64) (x_2 : UInt64) (gb_3 : Nat) (r : Bool) (hm : sha_constant_1 k x_1 x_2 = some r) : Sim Try.prog 56 [S (rU UInt64) x_1, PTR gb_3 0] [cvar gb_3 (rU UInt64) x_2] (γ := Unit) (fun q => [cvar gb_3 (rU UInt64) x_2]) (fun q => .one (.val (S rB r))) := by
  unfold sha_constant_1 at hm
  refine Sim.of Try.func56 rfl rfl (Nat.le_of_ble_eq_true rfl) (fun e0 w0 => ?_)
  refine JC.at ⟨[(0, .one (.val (S (rU UInt64) x_1))), (1, .one (.val (PTR gb_3 0)))], [cvar gb_3 (rU UInt64) x_2], []⟩ ?_
  refine JC.seq ?_
  refine JC.region ?_
  refine JL.cons rfl (op_assign (ltB rfl) .cB) ?_
  refine JL.nil ?_
  refine JQ.then ?_
  refine JC.seq ?_
  refine JC.region ?_
  refine JL.cons rfl (op_move (ltB rfl) (.tmp rfl)) ?_
  replace hm := bnd_inv hm
  obtain ⟨⟨v_4, v_5⟩, hv_v_4, hm⟩ := hm
  refine JL.consX rfl (op_call (js := []) (ltD rfl) cl57 (sim_sha_cube k x_1 (v_4, v_5) hv_v_4) .func (.cons (.tmp rfl) .nil) rfl) (fun _ => ?_)
  refine JL.cons rfl (op_move (ltB rfl) (.tmp rfl)) ?_
  refine JL.cons rfl (op_extract (i := 0) (ltB rfl) (.tmp rfl) rfl) ?_
  refine JL.cons rfl (op_extract (i := 1) (ltB rfl) (.tmp rfl) rfl) ?_
  refine JL.pre (Imp.sub (ρ' := [(1, .one (.val (PTR gb_3 0))), (9, .one (.val (A (rV 2 (rU UInt64)) v_4))), (10, .one (.val (S rB v_5)))]) (.cons rfl (.cons rfl (.cons rfl .nil)))) ?_
  refine JL.at ⟨[(1, .one (.val (PTR gb_3 0))), (9, .one (.val (A (rV 2 (rU UInt64)) v_4))), (10, .one (.val (S rB v_5)))], [cvar gb_3 (rU UInt64) x_2], []⟩ ?_
  refine JL.consX rfl (op_alloc (ltB rfl) tZ91 zr91) (fun q => ?_)
  obtain ⟨gb_6, hqq⟩ : ∃ z, z = q := ⟨_, rfl⟩
  subst hqq
  refine JL.pre (Imp.sub (ρ' := [(1, .one (.val (PTR gb_3 0))), (4, .one (.val (PTR gb_6 0))), (9, .one (.val (A (rV 2 (rU UInt64)) v_4))), (10, .one (.val (S rB v_5)))]) (.cons rfl (.cons rfl (.cons rfl (.cons rfl .nil))))) ?_
  refine JL.at ⟨[(1, .one (.val (PTR gb_3 0))), (4, .one (.val (PTR gb_6 0))), (9, .one (.val (A (rV 2 (rU UInt64)) v_4))), (10, .one (.val (S rB v_5)))], [cvar gb_3 (rU UInt64) x_2, cvar gb_6 (rV 2 (rU UInt64)) (Vector.replicate 2 (0 : UInt64))], []⟩ ?_
  refine JL.cons rfl (op_storeA (j := 1) tA91 (.tmp rfl) (.tmp rfl) rfl (UpdR.self (by rfl)) rfl) ?_
  refine JL.pre (Imp.sub (ρ' := [(1, .one (.val (PTR gb_3 0))), (4, .one (.val (PTR gb_6 0))), (10, .one (.val (S rB v_5)))]) (.cons rfl (.cons rfl (.cons rfl .nil)))) ?_
  refine JL.at ⟨[(1, .one (.val (PTR gb_3 0))), (4, .one (.val (PTR gb_6 0))), (10, .one (.val (S rB v_5)))], [cvar gb_3 (rU UInt64) x_2, cvar gb_6 (rV 2 (rU UInt64)) v_4], []⟩ ?_
  refine JL.cons rfl (op_assign (ltB rfl) (.tmp rfl)) ?_
  refine JL.nil ?_
  refine JQ.then ?_
  refine JC.seq ?_
  refine JC.region ?_
  refine JL.cons rfl (op_loadA (j := 1) (ltB rfl) tA91 (.tmp rfl) rfl (Comp.self (rV 2 (rU UInt64)) v_4) rfl) ?_
  refine JL.cons rfl (op_move (ltB rfl) (.tmp rfl)) ?_
  refine JL.cons rfl (op_loadS (j := 0) (ltB rfl) tS23 (.tmp rfl) rfl (Comp.self (rU UInt64) x_2) rfl rfl) ?_
  replace hm := bnd_inv hm
  obtain ⟨v_7, hv_v_7, hm⟩ := hm
  refine JL.consX rfl (op_call (js := []) (ltD rfl) cl58 (sim_sha_above k v_4 v_5 x_2 v_7 hv_v_7) .func (.cons (.tmp rfl) (.cons (.tmp rfl) (.cons (.tmp rfl) .nil))) rfl) (fun _ => ?_)
  refine JL.cons rfl (op_assign (ltB rfl) (.tmp rfl)) ?_
  refine JL.pre (Imp.norm (ρ' := [(3, .one (.val (S rB v_7)))]) (js := [0]) rfl (.cons rfl .nil)) ?_
  refine JL.at ⟨[(3, .one (.val (S rB v_7)))], [cvar gb_3 (rU UInt64) x_2], []⟩ ?_
  refine JL.nil ?_
  refine JQ.then ?_
  refine JC.ret ?_
  replace hm := Option.some.inj hm
  subst hm
  exact JQ.done (js := [0]) (ss := [.val (S rB v_7)]) () (.inl rfl) (.nil rfl) rfl (.cons (.tmp rfl) .nil) rfl rfl rfl

theorem sim_sha_root (k : Nat) (x_1 : UInt64) (gb_2 : Nat) (r : UInt32) (hm : sha_root k x_1 = some r) : Sim Try.prog 55 [CLO 56 [PTR gb_2 0]] [cvar gb_2 (rU UInt64) x_1] (γ := Unit) (fun q => [cvar gb_2 (rU UInt64) x_1]) (fun q => .one (.val (S (rU UInt32) r))) := by
  unfold sha_root at hm
  refine Sim.of Try.func55 rfl rfl (Nat.le_of_ble_eq_true rfl) (fun e0 w0 => ?_)
  refine JC.at ⟨[(0, .one (.val (CLO 56 [PTR gb_2 0])))], [cvar gb_2 (rU UInt64) x_1], []⟩ ?_
  refine JC.seq ?_
  refine JC.region ?_
  refine JL.cons rfl (op_assign (ltB rfl) (HasO.cU (x := (0 : UInt32)) rfl (by decide))) ?_
  refine JL.nil ?_
  refine JQ.then ?_
  refine JC.seq ?_
  refine JC.region ?_
  refine JL.cons rfl (op_assign (ltB rfl) (HasO.cU (x := (0 : UInt64)) rfl (by decide))) ?_
  refine JL.nil ?_
  refine JQ.then ?_
  replace hm := bnd_inv hm
  obtain ⟨x_13, hx1, hq1⟩ := hm
  refine JC.seqJ (γ := Unit) (stj := fun q => ⟨[(3, .one (.val (S (rU UInt64) x_13)))], [cvar gb_2 (rU UInt64) x_1], []⟩) (fun q => ?_) ?_
  · obtain _ := q
    refine JC.at ⟨[(3, .one (.val (S (rU UInt64) x_13)))], [cvar gb_2 (rU UInt64) x_1], []⟩ ?_
    refine JC.seq ?_
    refine JC.region ?_
    refine JL.cons rfl (op_move (ltB rfl) (.tmp rfl)) ?_
    replace hq1 := lt1_inv hq1
    obtain ⟨v_14, hv_v_14, hq1⟩ := hq1
    refine JL.cons rfl (op_convUU (ltB rfl) tu23 tu66 (.tmp rfl) hv_v_14) ?_
    refine JL.cons rfl (op_assign (ltB rfl) (.tmp rfl)) ?_
    refine JL.nil ?_
    refine JQ.then ?_
    refine JC.ret ?_
    replace hq1 := Option.some.inj hq1
    subst hq1
    exact JQ.done (js := [0]) (ss := [.val (S (rU UInt32) v_14)]) () (.inl rfl) (.nil rfl) rfl (.cons (.tmp rfl) .nil) rfl rfl rfl
  · refine JC.seq ?_
    refine JC.region ?_
    refine JL.cons rfl (op_move (ltB rfl) .cI) ?_
    refine JL.nil ?_
    refine JQ.then ?_
    refine JC.block ?_
    refine JC.pre ?_ (JC.loop (γ := Unit) (stf := fun s q => ⟨[(0, .one (.val (CLO 56 [PTR gb_2 0]))), (3, .one (.val (S (rU UInt64) s.1))), (6, .one (.val (S (rI .i64) s.2)))], [cvar gb_2 (rU UInt64) x_1], []⟩) (q := ()) hx1 ?_)
    · exact (Imp.norm (js := [0]) rfl (.cons rfl (.cons rfl (.cons rfl .nil))))
    · intro s q x hx hr
      obtain ⟨x_3, x_4⟩ := s
      obtain _ := q
      change sha_root.b1 k x_1 x_3 x_4 = some x at hx
      unfold sha_root.b1 at hx
      refine JC.at ⟨[(0, .one (.val (CLO 56 [PTR gb_2 0]))), (3, .one (.val (S (rU UInt64) x_3))), (6, .one (.val (S (rI .i64) x_4)))], [cvar gb_2 (rU UInt64) x_1], []⟩ ?_
      refine JC.seq ?_
      refine JC.region ?_
      replace hx := lt1_inv hx
      obtain ⟨v_5, hv_v_5, hx⟩ := hx
      refine JL.cons rfl (op_cmpI (ltB rfl) (.tmp rfl) .cI (congrArg some hv_v_5)) ?_
      refine JL.nil ?_
      refine JQ.then ?_
      refine JC.seq ?_
      replace hx := iteB_inv hx
      rcases hx with ⟨hc3, hx⟩ | ⟨hc3, hx⟩
      · refine JC.condT (.tmp rfl) hc3 ?_
        refine JC.skip ?_
        refine JQ.then ?_
        replace hx := bnd_inv hx
        obtain ⟨x_11, hx4, hq4⟩ := hx
        refine JC.seqJ (γ := Unit) (stj := fun q => ⟨[(0, .one (.val (CLO 56 [PTR gb_2 0]))), (3, .one (.val (S (rU UInt64) x_11))), (6, .one (.val (S (rI .i64) x_4)))], [cvar gb_2 (rU UInt64) x_1], []⟩) (fun q => ?_) ?_
        · obtain _ := q
          refine JC.at ⟨[(0, .one (.val (CLO 56 [PTR gb_2 0]))), (3, .one (.val (S (rU UInt64) x_11))), (6, .one (.val (S (rI .i64) x_4)))], [cvar gb_2 (rU UInt64) x_1], []⟩ ?_
          refine JC.region ?_
          replace hq4 := lt1_inv hq4
          obtain ⟨v_12, hv_v_12, hq4⟩ := hq4
          refine JL.cons rfl (op_arI (ltB rfl) (.tmp rfl) .cI (congrArg some hv_v_12)) ?_
          refine JL.cons rfl (op_move (ltB rfl) (.tmp rfl)) ?_
          refine JL.nil ?_
          replace hq4 := Option.some.inj hq4
          first | subst hq4 | clear hq4
          exact JQ.next () rfl (Imp.norm (js := [0]) rfl (.cons rfl (.cons rfl (.cons rfl .nil))))
        · refine JC.block ?_
          refine JC.seq ?_
          refine JC.region ?_
          refine JL.cons rfl (op_move (ltB rfl) (.tmp rfl)) ?_
          refine JL.cons rfl (op_assign (ltB rfl) (.tmp rfl)) ?_
          refine JL.nil ?_
          refine JQ.then ?_
          refine JC.seq ?_
          refine JC.region ?_
          refine JL.cons rfl (op_move (ltB rfl) (.tmp rfl)) ?_
          refine JL.cons rfl (op_move (ltB rfl) (.tmp rfl)) ?_
          replace hx4 := lt1_inv hx4
          obtain ⟨v_6, hv_v_6, hx4⟩ := hx4
          refine JL.cons rfl (op_arI (ltB rfl) .cI (.tmp rfl) (congrArg some hv_v_6)) ?_
          refine JL.pre (Imp.sub (ρ' := [(0, .one (.val (CLO 56 [PTR gb_2 0]))), (3, .one (.val (S (rU UInt64) x_3))), (6, .one (.val (S (rI .i64) x_4))), (9, .one (.val (S (rU UInt64) x_3))), (11, .one (.val (S (rI .i64) v_6)))]) (.cons rfl (.cons rfl (.cons rfl (.cons rfl (.cons rfl .nil)))))) ?_
          refine JL.at ⟨[(0, .one (.val (CLO 56 [PTR gb_2 0]))), (3, .one (.val (S (rU UInt64) x_3))), (6, .one (.val (S (rI .i64) x_4))), (9, .one (.val (S (rU UInt64) x_3))), (11, .one (.val (S (rI .i64) v_6)))], [cvar gb_2 (rU UInt64) x_1], []⟩ ?_
          replace hx4 := bnd_inv hx4
          obtain ⟨v_7, hv_v_7, hx4⟩ := hx4
          refine JL.cons rfl (op_shlUI (ltB rfl) (HasO.cU (x := (1 : UInt64)) rfl (by decide)) (.tmp rfl) hv_v_7) ?_
          replace hx4 := lt1_inv hx4
          obtain ⟨v_8, hv_v_8, hx4⟩ := hx4
          refine JL.cons rfl (op_arU (ltB rfl) (.tmp rfl) (.tmp rfl) (congrArg some hv_v_8)) ?_
          refine JL.cons rfl (op_assign (ltB rfl) (.tmp rfl)) ?_
          refine JL.nil ?_
          refine JQ.then ?_
          refine JC.seq ?_
          refine JC.region ?_
          refine JL.cons rfl (op_move (ltB rfl) (.tmp rfl)) ?_
          refine JL.cons rfl (op_move (ltB rfl) (.tmp rfl)) ?_
          replace hx4 := bnd_inv hx4
          obtain ⟨v_9, hv_v_9, hx4⟩ := hx4
          refine JL.consX rfl (op_call (js := [0]) (ltD rfl) cl56 (sim_sha_constant_1 k v_8 x_1 gb_2 v_9 hv_v_9) (.tmp rfl) (.cons (.tmp rfl) .nil) rfl) (fun _ => ?_)
          refine JL.pre (Imp.sub (ρ' := [(0, .one (.val (CLO 56 [PTR gb_2 0]))), (3, .one (.val (S (rU UInt64) x_3))), (5, .one (.val (S (rU UInt64) v_8))), (6, .one (.val (S (rI .i64) x_4))), (16, .one (.val (S rB v_9)))]) (.cons rfl (.cons rfl (.cons rfl (.cons rfl (.cons rfl .nil)))))) ?_
          refine JL.at ⟨[(0, .one (.val (CLO 56 [PTR gb_2 0]))), (3, .one (.val (S (rU UInt64) x_3))), (5, .one (.val (S (rU UInt64) v_8))), (6, .one (.val (S (rI .i64) x_4))), (16, .one (.val (S rB v_9)))], [cvar gb_2 (rU UInt64) x_1], []⟩ ?_
          replace hx4 := lt1_inv hx4
          obtain ⟨v_10, hv_v_10, hx4⟩ := hx4
          refine JL.cons rfl (op_not (ltB rfl) (.tmp rfl) hv_v_10) ?_
          refine JL.nil ?_
          refine JQ.then ?_
          replace hx4 := iteB_inv hx4
          rcases hx4 with ⟨hc5, hx4⟩ | ⟨hc5, hx4⟩
          · refine JC.condT (.tmp rfl) hc5 ?_
            refine JC.region ?_
            refine JL.cons rfl (op_move (ltB rfl) (.tmp rfl)) ?_
            refine JL.cons rfl (op_assign (ltB rfl) (.tmp rfl)) ?_
            refine JL.nil ?_
            refine JQ.outNB ?_
            replace hx4 := Option.some.inj hx4
            first | subst hx4 | clear hx4
            exact JQ.join () (Imp.norm (js := [0]) rfl (.cons rfl (.cons rfl (.cons rfl .nil))))
          · refine JC.condF (.tmp rfl) hc5 ?_
            refine JC.skip ?_
            refine JQ.outNB ?_
            replace hx4 := Option.some.inj hx4
            first | subst hx4 | clear hx4
            exact JQ.join () (Imp.norm (js := [0]) rfl (.cons rfl (.cons rfl (.cons rfl .nil))))
      · refine JC.condF (.tmp rfl) hc3 ?_
        refine JC.exit ?_
        refine JQ.outX ?_
        replace hx := Option.some.inj hx
        first | subst hx | clear hx
        have ht := hr _ rfl
        have hq2 := congrArg some ht
        clear hr ht
        refine JQ.outX ?_
        refine JQ.here ?_
        replace hq2 := Option.some.inj hq2
        first | subst hq2 | clear hq2
        exact JQ.join () (Imp.norm (js := [0]) rfl (.cons rfl .nil))

theorem sim_sha_constant (k : Nat) (p_1 : UInt64) (r : UInt32) (hm : sha_constant k p_1 = some r) : Sim Try.prog 47 [S (rU UInt64) p_1] [] (γ := Unit) (fun q => []) (fun q => .one (.val (S (rU UInt32) r))) := by
  unfold sha_constant at hm
  refine Sim.of Try.func47 rfl rfl (Nat.le_of_ble_eq_true rfl) (fun e0 w0 => ?_)
  refine JC.at ⟨[(0, .one (.val (S (rU UInt64) p_1)))], [], []⟩ ?_
  refine JC.seq ?_
  refine JC.region ?_
  refine JL.consX rfl (op_boxS (ltB rfl) (.tmp rfl)) (fun q => ?_)
  obtain ⟨gb_2, hqq⟩ : ∃ z, z = q := ⟨_, rfl⟩
  subst hqq
  refine JL.pre (Imp.sub (ρ' := [(1, .one (.val (PTR gb_2 0)))]) (.cons rfl .nil)) ?_
  refine JL.at ⟨[(1, .one (.val (PTR gb_2 0)))], [cvar gb_2 (rU UInt64) p_1], []⟩ ?_
  refine JL.cons rfl (op_assign (ltB rfl) (HasO.cU (x := (0 : UInt32)) rfl (by decide))) ?_
  refine JL.nil ?_
  refine JQ.then ?_
  refine JC.seq ?_
  refine JC.region ?_
  refine JL.cons rfl (op_makeFunc (ltB rfl) (.cons (.tmp rfl) .nil)) ?_
  replace hm := bnd_inv hm
  obtain ⟨v_3, hv_v_3, hm⟩ := hm
  refine JL.consX rfl (op_call (js := [0]) (ltD rfl) cl55 (sim_sha_root k p_1 gb_2 v_3 hv_v_3) .func (.cons (.tmp rfl) .nil) rfl) (fun _ => ?_)
  refine JL.pre (Imp.norm (ρ' := [(2, .one (.val (S (rU UInt32) (0 : UInt32)))), (4, .one (.val (S (rU UInt32) v_3)))]) (js := []) rfl (.cons rfl (.cons rfl .nil))) ?_
  refine JL.at ⟨[(2, .one (.val (S (rU UInt32) (0 : UInt32)))), (4, .one (.val (S (rU UInt32) v_3)))], [], []⟩ ?_
  refine JL.cons rfl (op_assign (ltB rfl) (.tmp rfl)) ?_
  refine JL.nil ?_
  refine JQ.then ?_
  refine JC.ret ?_
  replace hm := Option.some.inj hm
  subst hm
  exact JQ.done (js := []) (ss := [.val (S (rU UInt32) v_3)]) () (.inl rfl) (.nil rfl) rfl (.cons (.tmp rfl) .nil) rfl rfl rfl

theorem sim_sha_start_1 (k : Nat) (x_1 : UInt64) (x_2 : UInt64) (gb_3 : Nat) (r : Bool) (hm : sha_start_1 k x_1 x_2 = some r) : Sim Try.prog 59 [S (rU UInt64) x_1, PTR gb_3 0] [cvar gb_3 (rU UInt64) x_2] (γ := Unit) (fun q => [cvar gb_3 (rU UInt64) x_2]) (fun q => .one (.val (S rB r))) := by
  unfold sha_start_1 at hm
  refine Sim.of Try.func59 rfl rfl (Nat.le_of_ble_eq_true rfl) (fun e0 w0 => ?_)
  refine JC.at ⟨[(0, .one (.val (S (rU UInt64) x_1))), (1, .one (.val (PTR gb_3 0)))], [cvar gb_3 (rU UInt64) x_2], []⟩ ?_
  refine JC.seq ?_
  refine JC.region ?_
  refine JL.cons rfl (op_assign (ltB rfl) .cB) ?_
  refine JL.nil ?_
  refine JQ.then ?_
  refine JC.seq ?_
  replace hm := bnd_inv hm
  obtain ⟨v_4, hv_v_4, hm⟩ := hm
  replace hm := bnd_inv hm
  obtain ⟨v_5, hv_v_5, hm⟩ := hm
  refine JC.anyE (kl := []) (kk := 0) (base := [(0, .one (.val (S (rU UInt64) x_1))), (1, .one (.val (PTR gb_3 0)))])
      (fs := fun γ => [⟨some 4, .one (.val (S (rU UInt64) x_1))⟩, ⟨some 5, .one (.val (A (rV 2 (rU UInt64)) v_4))⟩, ⟨some 6, .one (.val (S (rU UInt64) x_2))⟩, ⟨some 7, .one (.val (S rB v_5))⟩, ⟨some 3, .one (.val (S rB v_5))⟩])
      (rs := fun γ => [⟨cvar gb_3 (rU UInt64) x_2, none, none, [2]⟩])
      (ds := [4, 5, 6, 7, 3]) (bs := [0, 1]) (afts := [[], [], [], [], []]) (js := [0]) mixed (.cons rfl (.cons rfl .nil)) (fun _ => rfl)
      (by
      refine DSteps.cons (j := 1) rfl (fun _ => rfl) (.run (fun γ ρ B hb hd => ⟨.none, OpStep.at ⟨ρ, B, _⟩ (setO ⟨ρ, B, _⟩ (some 4) (.one (.val (S (rU UInt64) x_1)))) (op_move (ltB rfl) (.tmp (hb 0 _ rfl)))⟩)) ?_
      refine DSteps.cons (j := 2) rfl (fun _ => rfl) (.run (fun γ ρ B hb hd => ⟨.none, OpStep.at ⟨ρ, B, _⟩ (setO ⟨ρ, B, _⟩ (some 5) (.one (.val (A (rV 2 (rU UInt64)) v_4)))) ((op_call (js := []) (ltD rfl) cl60 (sim_sha_square k x_1 v_4 hv_v_4) .func (.cons (.tmp (hdl hd 0 4 rfl (by decide +kernel))) .nil) rfl).post (fun _ => Imp.refl))⟩)) ?_
      refine DSteps.cons (j := 3) rfl (fun _ => rfl) (.run (fun γ ρ B hb hd => ⟨.none, OpStep.at ⟨ρ, (cvar gb_3 (rU UInt64) x_2) :: B, _⟩ (setO ⟨ρ, (cvar gb_3 (rU UInt64) x_2) :: B, _⟩ (some 6) (.one (.val (S (rU UInt64) x_2)))) (op_loadS (j := 0) (ltB rfl) tS23 (.tmp (hb 1 _ rfl)) rfl (Comp.self (rU UInt64) x_2) rfl rfl)⟩)) ?_
      refine DSteps.cons (j := 4) rfl (fun _ => rfl) (.run (fun γ ρ B hb hd => ⟨.none, OpStep.at ⟨ρ, B, _⟩ (setO ⟨ρ, B, _⟩ (some 7) (.one (.val (S rB v_5)))) ((op_call (js := []) (ltD rfl) cl58 (sim_sha_above k v_4 false x_2 v_5 hv_v_5) .func (.cons (.tmp (hdl hd 1 5 rfl (by decide +kernel))) (.cons .cB (.cons (.tmp (hdl hd 2 6 rfl (by decide +kernel))) .nil))) rfl).post (fun _ => Imp.refl))⟩)) ?_
      refine DSteps.cons (j := 5) rfl (fun _ => rfl) (.run (fun γ ρ B hb hd => ⟨.none, OpStep.at ⟨ρ, B, _⟩ (setO ⟨ρ, B, _⟩ (some 3) (.one (.val (S rB v_5)))) (op_assign (ltB rfl) (.tmp (hdl hd 3 7 rfl (by decide +kernel))))⟩)) ?_
      exact DSteps.nil)
      (by decide +kernel) (fun _ => rfl) rfl (fun _ => rfl) (fun _ => rfl) rfl (by decide) (by decide) (by decide +kernel) (fun _ d h => by cases h)
      (ρ' := fun γ => [(3, .one (.val (S rB v_5)))])
      (X' := fun γ => [cvar gb_3 (rU UInt64) x_2])
      (fun γ ρ hb hd => (.cons (hdq hd 4 3 rfl) .nil)) (fun _ => rfl) (fun γ => ?_)
  refine JQ.at ⟨[(3, .one (.val (S rB v_5)))], [cvar gb_3 (rU UInt64) x_2], []⟩ ?_
  refine JQ.then ?_
  refine JC.ret ?_
  replace hm := Option.some.inj hm
  subst hm
  exact JQ.done (js := [0]) (ss := [.val (S rB v_5)]) () (.inl rfl) (.nil rfl) rfl (.cons (.tmp rfl) .nil) rfl rfl rfl

end Go.Proofs.Ytnhiiabdoichlaa
