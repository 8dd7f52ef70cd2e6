/- Walks. -/
import Derived.Test.YtnhiiabdoichlaaT
import Derived.Test.YtnhiiabdoichlaaW11
import Derived.Test.YtnhiiabdoichlaaW12
import Derived.Test.YtnhiiabdoichlaaW8
namespace Go.Proofs.Ytnhiiabdoichlaa
open Go Fw
set_option linter.unusedVariables false
set_option maxRecDepth 100000
set_option maxHeartbeats 4000000

theorem sim_law10_CursorApart (k : Nat) (t_1 : (List UInt8)) (a_2 : (List UInt8)) (a_3 : (Vector UInt64 16)) (a_4 : (Vector UInt64 16)) (r : Bool) (hm : law10_CursorApart k t_1 a_2 a_3 a_4 = some r) : Sim Try.prog 3 [S (rL (rU UInt8)) t_1, S rS a_2, A (rV 16 (rU UInt64)) a_3, A (rV 16 (rU UInt64)) a_4] [] (γ := Unit) (fun q => []) (fun q => .one (.val (S rB r))) := by
  unfold law10_CursorApart at hm
  refine Sim.of Try.func3 rfl rfl (Nat.le_of_ble_eq_true rfl) (fun e0 w0 => ?_)
  refine JC.at ⟨[(0, .one (.val (S (rL (rU UInt8)) t_1))), (1, .one (.val (S rS a_2))), (2, .one (.val (A (rV 16 (rU UInt64)) a_3))), (3, .one (.val (A (rV 16 (rU UInt64)) a_4)))], [], []⟩ ?_
  refine JC.seq ?_
  refine JC.region ?_
  refine JL.consX rfl (op_boxA (ltB rfl) (.tmp rfl)) (fun q => ?_)
  obtain ⟨gb_5, hqq⟩ : ∃ z, z = q := ⟨_, rfl⟩
  subst hqq
  refine JL.pre (Imp.sub (ρ' := [(0, .one (.val (S (rL (rU UInt8)) t_1))), (1, .one (.val (S rS a_2))), (3, .one (.val (A (rV 16 (rU UInt64)) a_4))), (6, .one (.val (PTR gb_5 0)))]) (.cons rfl (.cons rfl (.cons rfl (.cons rfl .nil))))) ?_
  refine JL.at ⟨[(0, .one (.val (S (rL (rU UInt8)) t_1))), (1, .one (.val (S rS a_2))), (3, .one (.val (A (rV 16 (rU UInt64)) a_4))), (6, .one (.val (PTR gb_5 0)))], [cvar gb_5 (rV 16 (rU UInt64)) a_3], []⟩ ?_
  refine JL.consX rfl (op_boxA (ltB rfl) (.tmp rfl)) (fun q => ?_)
  obtain ⟨gb_6, hqq⟩ : ∃ z, z = q := ⟨_, rfl⟩
  subst hqq
  refine JL.pre (Imp.sub (ρ' := [(0, .one (.val (S (rL (rU UInt8)) t_1))), (1, .one (.val (S rS a_2))), (6, .one (.val (PTR gb_5 0))), (7, .one (.val (PTR gb_6 0)))]) (.cons rfl (.cons rfl (.cons rfl (.cons rfl .nil))))) ?_
  refine JL.at ⟨[(0, .one (.val (S (rL (rU UInt8)) t_1))), (1, .one (.val (S rS a_2))), (6, .one (.val (PTR gb_5 0))), (7, .one (.val (PTR gb_6 0)))], [cvar gb_5 (rV 16 (rU UInt64)) a_3, cvar gb_6 (rV 16 (rU UInt64)) a_4], []⟩ ?_
  refine JL.cons rfl (op_assign (ltB rfl) .cB) ?_
  refine JL.nil ?_
  refine JQ.then ?_
  refine JC.seq ?_
  refine JC.seq ?_
  refine JC.region ?_
  refine JL.cons rfl (op_move (ltB rfl) (.tmp rfl)) ?_
  refine JL.cons rfl (op_lenL (ltB rfl) tu22 (.tmp rfl)) ?_
  replace hm := lt1_inv hm
  obtain ⟨v_7, hv_v_7, hm⟩ := hm
  refine JL.cons rfl (op_cmpI (ltB rfl) (.tmp rfl) .cI (congrArg some hv_v_7)) ?_
  refine JL.nil ?_
  refine JQ.then ?_
  replace hm := iteB_inv hm
  rcases hm with ⟨hc1, hm⟩ | ⟨hc1, hm⟩
  · refine JC.condT (.tmp rfl) hc1 ?_
    refine JC.seq ?_
    refine JC.region ?_
    replace hm := bnd_inv hm
    obtain ⟨v_8, hv_v_8, hm⟩ := hm
    refine JL.consX rfl (op_call (js := []) (ltD rfl) cl6 (sim_law10_known k v_8 hv_v_8) .func .nil rfl) (fun _ => ?_)
    refine JL.cons rfl (op_assign (ltB rfl) (.tmp rfl)) ?_
    refine JL.pre (Imp.norm (ρ' := [(8, .one (.val (S rB v_8)))]) (js := []) rfl (.cons rfl .nil)) ?_
    refine JL.at ⟨[(8, .one (.val (S rB v_8)))], [], []⟩ ?_
    refine JL.nil ?_
    refine JQ.then ?_
    refine JC.ret ?_
    refine JQ.outR ?_
    replace hm := Option.some.inj hm
    subst hm
    exact JQ.done (js := []) (ss := [.val (S rB v_8)]) () (.inl rfl) (.nil rfl) rfl (.cons (.tmp rfl) .nil) rfl rfl rfl
  · refine JC.condF (.tmp rfl) hc1 ?_
    refine JC.skip ?_
    refine JQ.then ?_
    refine JC.seq ?_
    refine JC.region ?_
    refine JL.cons rfl (op_move (ltB rfl) (.tmp rfl)) ?_
    refine JL.cons rfl (op_move (ltB rfl) (.tmp rfl)) ?_
    refine JL.pre (Imp.sub (ρ' := [(0, .one (.val (S (rL (rU UInt8)) t_1))), (1, .one (.val (S rS a_2))), (6, .one (.val (PTR gb_5 0))), (7, .one (.val (PTR gb_6 0))), (22, .one (.val (S (rL (rU UInt8)) t_1))), (23, .one (.val (S rS a_2)))]) (.cons rfl (.cons rfl (.cons rfl (.cons rfl (.cons rfl (.cons rfl .nil))))))) ?_
    refine JL.at ⟨[(0, .one (.val (S (rL (rU UInt8)) t_1))), (1, .one (.val (S rS a_2))), (6, .one (.val (PTR gb_5 0))), (7, .one (.val (PTR gb_6 0))), (22, .one (.val (S (rL (rU UInt8)) t_1))), (23, .one (.val (S rS a_2)))], [cvar gb_5 (rV 16 (rU UInt64)) a_3, cvar gb_6 (rV 16 (rU UInt64)) a_4], []⟩ ?_
    refine JL.cons rfl (op_loadA (j := 0) (ltB rfl) tA25 (.tmp rfl) rfl (Comp.self (rV 16 (rU UInt64)) a_3) rfl) ?_
    replace hm := bnd_inv hm
    obtain ⟨⟨v_9, v_10⟩, hv_v_9, hm⟩ := hm
    refine JL.consX rfl (op_call (js := []) (ltD rfl) cl7 (sim_cursor_Bytes k t_1 a_2 a_3 (v_9, v_10) hv_v_9) .func (.cons (.tmp rfl) (.cons (.tmp rfl) (.cons (.tmp rfl) .nil))) rfl) (fun q => ?_)
    obtain ⟨go_11, gc_12⟩ := q
    refine JL.pre (Imp.sub (ρ' := [(0, .one (.val (S (rL (rU UInt8)) t_1))), (1, .one (.val (S rS a_2))), (6, .one (.val (PTR gb_5 0))), (7, .one (.val (PTR gb_6 0))), (25, .tup [.val (HDR go_11 0 (List.length v_9) gc_12), .val (S (rI .i64) v_10)])]) (.cons rfl (.cons rfl (.cons rfl (.cons rfl (.cons rfl .nil)))))) ?_
    refine JL.at ⟨[(0, .one (.val (S (rL (rU UInt8)) t_1))), (1, .one (.val (S rS a_2))), (6, .one (.val (PTR gb_5 0))), (7, .one (.val (PTR gb_6 0))), (25, .tup [.val (HDR go_11 0 (List.length v_9) gc_12), .val (S (rI .i64) v_10)])], [cown go_11 (rU UInt8) v_9 (List.length v_9) gc_12, cvar gb_5 (rV 16 (rU UInt64)) a_3, cvar gb_6 (rV 16 (rU UInt64)) a_4], []⟩ ?_
    refine JL.cons rfl (op_move (ltB rfl) (.tmp rfl)) ?_
    refine JL.cons rfl (op_extract (i := 0) (ltB rfl) (.tmp rfl) rfl) ?_
    refine JL.cons rfl (op_extract (i := 1) (ltB rfl) (.tmp rfl) rfl) ?_
    refine JL.cons rfl (op_assign (ltB rfl) (.tmp rfl)) ?_
    refine JL.cons rfl (op_assign (ltB rfl) (.tmp rfl)) ?_
    refine JL.nil ?_
    refine JQ.then ?_
    refine JC.seq ?_
    refine JC.region ?_
    refine JL.cons rfl (op_move (ltB rfl) (.tmp rfl)) ?_
    refine JL.pre (Imp.sub (ρ' := [(0, .one (.val (S (rL (rU UInt8)) t_1))), (1, .one (.val (S rS a_2))), (6, .one (.val (PTR gb_5 0))), (7, .one (.val (PTR gb_6 0))), (9, .one (.val (HDR go_11 0 (List.length v_9) gc_12))), (10, .one (.val (S (rI .i64) v_10))), (29, .one (.val (S (rL (rU UInt8)) t_1)))]) (.cons rfl (.cons rfl (.cons rfl (.cons rfl (.cons rfl (.cons rfl (.cons rfl .nil)))))))) ?_
    refine JL.at ⟨[(0, .one (.val (S (rL (rU UInt8)) t_1))), (1, .one (.val (S rS a_2))), (6, .one (.val (PTR gb_5 0))), (7, .one (.val (PTR gb_6 0))), (9, .one (.val (HDR go_11 0 (List.length v_9) gc_12))), (10, .one (.val (S (rI .i64) v_10))), (29, .one (.val (S (rL (rU UInt8)) t_1)))], [cown go_11 (rU UInt8) v_9 (List.length v_9) gc_12, cvar gb_5 (rV 16 (rU UInt64)) a_3, cvar gb_6 (rV 16 (rU UInt64)) a_4], []⟩ ?_
    refine JL.cons rfl (op_move (ltB rfl) (.tmp rfl)) ?_
    refine JL.cons rfl (op_loadA (j := 2) (ltB rfl) tA25 (.tmp rfl) rfl (Comp.self (rV 16 (rU UInt64)) a_4) rfl) ?_
    replace hm := bnd_inv hm
    obtain ⟨⟨v_13, v_14⟩, hv_v_13, hm⟩ := hm
    refine JL.consX rfl (op_call (js := []) (ltD rfl) cl7 (sim_cursor_Bytes k t_1 a_2 a_4 (v_13, v_14) hv_v_13) .func (.cons (.tmp rfl) (.cons (.tmp rfl) (.cons (.tmp rfl) .nil))) rfl) (fun q => ?_)
    obtain ⟨go_15, gc_16⟩ := q
    refine JL.pre (Imp.sub (ρ' := [(0, .one (.val (S (rL (rU UInt8)) t_1))), (1, .one (.val (S rS a_2))), (6, .one (.val (PTR gb_5 0))), (7, .one (.val (PTR gb_6 0))), (9, .one (.val (HDR go_11 0 (List.length v_9) gc_12))), (10, .one (.val (S (rI .i64) v_10))), (32, .tup [.val (HDR go_15 0 (List.length v_13) gc_16), .val (S (rI .i64) v_14)])]) (.cons rfl (.cons rfl (.cons rfl (.cons rfl (.cons rfl (.cons rfl (.cons rfl .nil)))))))) ?_
    refine JL.at ⟨[(0, .one (.val (S (rL (rU UInt8)) t_1))), (1, .one (.val (S rS a_2))), (6, .one (.val (PTR gb_5 0))), (7, .one (.val (PTR gb_6 0))), (9, .one (.val (HDR go_11 0 (List.length v_9) gc_12))), (10, .one (.val (S (rI .i64) v_10))), (32, .tup [.val (HDR go_15 0 (List.length v_13) gc_16), .val (S (rI .i64) v_14)])], [cown go_15 (rU UInt8) v_13 (List.length v_13) gc_16, cown go_11 (rU UInt8) v_9 (List.length v_9) gc_12, cvar gb_5 (rV 16 (rU UInt64)) a_3, cvar gb_6 (rV 16 (rU UInt64)) a_4], []⟩ ?_
    refine JL.cons rfl (op_move (ltB rfl) (.tmp rfl)) ?_
    refine JL.cons rfl (op_extract (i := 0) (ltB rfl) (.tmp rfl) rfl) ?_
    refine JL.cons rfl (op_extract (i := 1) (ltB rfl) (.tmp rfl) rfl) ?_
    refine JL.cons rfl (op_assign (ltB rfl) (.tmp rfl)) ?_
    refine JL.cons rfl (op_assign (ltB rfl) (.tmp rfl)) ?_
    refine JL.nil ?_
    refine JQ.then ?_
    refine JC.seq ?_
    refine JC.seq ?_
    refine JC.region ?_
    refine JL.cons rfl (op_move (ltB rfl) (.tmp rfl)) ?_
    refine JL.pre (Imp.sub (ρ' := [(0, .one (.val (S (rL (rU UInt8)) t_1))), (1, .one (.val (S rS a_2))), (6, .one (.val (PTR gb_5 0))), (7, .one (.val (PTR gb_6 0))), (9, .one (.val (HDR go_11 0 (List.length v_9) gc_12))), (11, .one (.val (HDR go_15 0 (List.length v_13) gc_16))), (12, .one (.val (S (rI .i64) v_14))), (35, .one (.val (S (rI .i64) v_10)))]) (.cons rfl (.cons rfl (.cons rfl (.cons rfl (.cons rfl (.cons rfl (.cons rfl (.cons rfl .nil))))))))) ?_
    refine JL.at ⟨[(0, .one (.val (S (rL (rU UInt8)) t_1))), (1, .one (.val (S rS a_2))), (6, .one (.val (PTR gb_5 0))), (7, .one (.val (PTR gb_6 0))), (9, .one (.val (HDR go_11 0 (List.length v_9) gc_12))), (11, .one (.val (HDR go_15 0 (List.length v_13) gc_16))), (12, .one (.val (S (rI .i64) v_14))), (35, .one (.val (S (rI .i64) v_10)))], [cown go_15 (rU UInt8) v_13 (List.length v_13) gc_16, cown go_11 (rU UInt8) v_9 (List.length v_9) gc_12, cvar gb_5 (rV 16 (rU UInt64)) a_3, cvar gb_6 (rV 16 (rU UInt64)) a_4], []⟩ ?_
    replace hm := bnd_inv hm
    obtain ⟨_, hv_u_17, hm⟩ := hm
    refine JL.consX rfl (op_call (js := []) (ltD rfl) cl8 (sim_law10_num k v_10 () hv_u_17) .func (.cons (.tmp rfl) .nil) rfl) (fun _ => ?_)
    refine JL.cons rfl (op_move (ltB rfl) (.tmp rfl)) ?_
    replace hm := bnd_inv hm
    obtain ⟨_, hv_u_18, hm⟩ := hm
    refine JL.consX rfl (op_call (js := []) (ltD rfl) cl8 (sim_law10_num k v_14 () hv_u_18) .func (.cons (.tmp rfl) .nil) rfl) (fun _ => ?_)
    replace hm := lt1_inv hm
    obtain ⟨v_19, hv_v_19, hm⟩ := hm
    refine JL.cons rfl (op_arI (ltB rfl) (.tmp rfl) (.tmp rfl) (congrArg some hv_v_19)) ?_
    replace hm := lt1_inv hm
    obtain ⟨v_20, hv_v_20, hm⟩ := hm
    refine JL.cons rfl (op_cmpI (ltB rfl) (.tmp rfl) .cI (congrArg some hv_v_20)) ?_
    refine JL.nil ?_
    refine JQ.then ?_
    replace hm := iteB_inv hm
    rcases hm with ⟨hc2, hm⟩ | ⟨hc2, hm⟩
    · refine JC.condT (.tmp rfl) hc2 ?_
      refine JC.seq ?_
      refine JC.region ?_
      replace hm := bnd_inv hm
      obtain ⟨v_21, hv_v_21, hm⟩ := hm
      refine JL.consX rfl (op_call (js := []) (ltD rfl) cl6 (sim_law10_known k v_21 hv_v_21) .func .nil rfl) (fun _ => ?_)
      refine JL.pre (Imp.norm (ρ' := [(41, .one (.val (S rB v_21)))]) (js := []) rfl (.cons rfl .nil)) ?_
      refine JL.at ⟨[(41, .one (.val (S rB v_21)))], [], []⟩ ?_
      refine JL.cons rfl (op_assign (ltB rfl) (.tmp rfl)) ?_
      refine JL.nil ?_
      refine JQ.then ?_
      refine JC.ret ?_
      refine JQ.outR ?_
      replace hm := Option.some.inj hm
      subst hm
      exact JQ.done (js := []) (ss := [.val (S rB v_21)]) () (.inl rfl) (.nil rfl) rfl (.cons (.tmp rfl) .nil) rfl rfl rfl
    · refine JC.condF (.tmp rfl) hc2 ?_
      refine JC.skip ?_
      refine JQ.then ?_
      refine JC.seq ?_
      refine JC.region ?_
      refine JL.cons rfl (op_move (ltB rfl) (.tmp rfl)) ?_
      refine JL.pre (Imp.sub (ρ' := [(0, .one (.val (S (rL (rU UInt8)) t_1))), (1, .one (.val (S rS a_2))), (6, .one (.val (PTR gb_5 0))), (7, .one (.val (PTR gb_6 0))), (9, .one (.val (HDR go_11 0 (List.length v_9) gc_12))), (11, .one (.val (HDR go_15 0 (List.length v_13) gc_16))), (43, .one (.val (S (rL (rU UInt8)) t_1)))]) (.cons rfl (.cons rfl (.cons rfl (.cons rfl (.cons rfl (.cons rfl (.cons rfl .nil)))))))) ?_
      refine JL.at ⟨[(0, .one (.val (S (rL (rU UInt8)) t_1))), (1, .one (.val (S rS a_2))), (6, .one (.val (PTR gb_5 0))), (7, .one (.val (PTR gb_6 0))), (9, .one (.val (HDR go_11 0 (List.length v_9) gc_12))), (11, .one (.val (HDR go_15 0 (List.length v_13) gc_16))), (43, .one (.val (S (rL (rU UInt8)) t_1)))], [cown go_15 (rU UInt8) v_13 (List.length v_13) gc_16, cown go_11 (rU UInt8) v_9 (List.length v_9) gc_12, cvar gb_5 (rV 16 (rU UInt64)) a_3, cvar gb_6 (rV 16 (rU UInt64)) a_4], []⟩ ?_
      refine JL.cons rfl (op_move (ltB rfl) (.tmp rfl)) ?_
      refine JL.cons rfl (op_move (ltB rfl) (.tmp rfl)) ?_
      replace hm := bnd_inv hm
      obtain ⟨⟨v_22, v_23⟩, hv_v_22, hm⟩ := hm
      refine JL.pre (Imp.frz (j := 1) rfl (ImpK.slotH (s := 9) rfl (ImpK.slotH (s := 45) rfl ImpK.refl))) ?_
      refine JL.consX rfl (op_call (js := []) (ltD rfl) cl9 (sim_cursor_Of k t_1 a_2 v_9 (v_22, v_23) hv_v_22) .func (.cons (.tmp rfl) (.cons (.tmp rfl) (.cons (HasO.wk (.tmp rfl) wkHL) .nil))) rfl) (fun _ => ?_)
      refine JL.cons rfl (op_move (ltB rfl) (.tmp rfl)) ?_
      refine JL.cons rfl (op_extract (i := 0) (ltB rfl) (.tmp rfl) rfl) ?_
      refine JL.cons rfl (op_extract (i := 1) (ltB rfl) (.tmp rfl) rfl) ?_
      refine JL.pre (Imp.sub (ρ' := [(0, .one (.val (S (rL (rU UInt8)) t_1))), (1, .one (.val (S rS a_2))), (6, .one (.val (PTR gb_5 0))), (7, .one (.val (PTR gb_6 0))), (9, .one (.val (HL go_11 (rU UInt8) v_9 gc_12))), (11, .one (.val (HDR go_15 0 (List.length v_13) gc_16))), (47, .one (.val (A (rV 16 (rU UInt64)) v_22))), (48, .one (.val (S (rI .i64) v_23)))]) (.cons rfl (.cons rfl (.cons rfl (.cons rfl (.cons rfl (.cons rfl (.cons rfl (.cons rfl .nil))))))))) ?_
      refine JL.at ⟨[(0, .one (.val (S (rL (rU UInt8)) t_1))), (1, .one (.val (S rS a_2))), (6, .one (.val (PTR gb_5 0))), (7, .one (.val (PTR gb_6 0))), (9, .one (.val (HL go_11 (rU UInt8) v_9 gc_12))), (11, .one (.val (HDR go_15 0 (List.length v_13) gc_16))), (47, .one (.val (A (rV 16 (rU UInt64)) v_22))), (48, .one (.val (S (rI .i64) v_23)))], [cown go_15 (rU UInt8) v_13 (List.length v_13) gc_16, cown go_11 (rU UInt8) v_9 (List.length v_9) gc_12, cvar gb_5 (rV 16 (rU UInt64)) a_3, cvar gb_6 (rV 16 (rU UInt64)) a_4], []⟩ ?_
      refine JL.consX rfl (op_alloc (ltB rfl) tZ25 zr25) (fun q => ?_)
      obtain ⟨gb_24, hqq⟩ : ∃ z, z = q := ⟨_, rfl⟩
      subst hqq
      refine JL.pre (Imp.sub (ρ' := [(0, .one (.val (S (rL (rU UInt8)) t_1))), (1, .one (.val (S rS a_2))), (6, .one (.val (PTR gb_5 0))), (7, .one (.val (PTR gb_6 0))), (9, .one (.val (HL go_11 (rU UInt8) v_9 gc_12))), (11, .one (.val (HDR go_15 0 (List.length v_13) gc_16))), (13, .one (.val (PTR gb_24 0))), (47, .one (.val (A (rV 16 (rU UInt64)) v_22))), (48, .one (.val (S (rI .i64) v_23)))]) (.cons rfl (.cons rfl (.cons rfl (.cons rfl (.cons rfl (.cons rfl (.cons rfl (.cons rfl (.cons rfl .nil)))))))))) ?_
      refine JL.at ⟨[(0, .one (.val (S (rL (rU UInt8)) t_1))), (1, .one (.val (S rS a_2))), (6, .one (.val (PTR gb_5 0))), (7, .one (.val (PTR gb_6 0))), (9, .one (.val (HL go_11 (rU UInt8) v_9 gc_12))), (11, .one (.val (HDR go_15 0 (List.length v_13) gc_16))), (13, .one (.val (PTR gb_24 0))), (47, .one (.val (A (rV 16 (rU UInt64)) v_22))), (48, .one (.val (S (rI .i64) v_23)))], [cown go_15 (rU UInt8) v_13 (List.length v_13) gc_16, cown go_11 (rU UInt8) v_9 (List.length v_9) gc_12, cvar gb_5 (rV 16 (rU UInt64)) a_3, cvar gb_6 (rV 16 (rU UInt64)) a_4, cvar gb_24 (rV 16 (rU UInt64)) (Vector.replicate 16 (0 : UInt64))], []⟩ ?_
      refine JL.cons rfl (op_storeA (j := 4) tA25 (.tmp rfl) (.tmp rfl) rfl (UpdR.self (by rfl)) rfl) ?_
      refine JL.pre (Imp.sub (ρ' := [(0, .one (.val (S (rL (rU UInt8)) t_1))), (1, .one (.val (S rS a_2))), (6, .one (.val (PTR gb_5 0))), (7, .one (.val (PTR gb_6 0))), (9, .one (.val (HL go_11 (rU UInt8) v_9 gc_12))), (11, .one (.val (HDR go_15 0 (List.length v_13) gc_16))), (13, .one (.val (PTR gb_24 0))), (48, .one (.val (S (rI .i64) v_23)))]) (.cons rfl (.cons rfl (.cons rfl (.cons rfl (.cons rfl (.cons rfl (.cons rfl (.cons rfl .nil))))))))) ?_
      refine JL.at ⟨[(0, .one (.val (S (rL (rU UInt8)) t_1))), (1, .one (.val (S rS a_2))), (6, .one (.val (PTR gb_5 0))), (7, .one (.val (PTR gb_6 0))), (9, .one (.val (HL go_11 (rU UInt8) v_9 gc_12))), (11, .one (.val (HDR go_15 0 (List.length v_13) gc_16))), (13, .one (.val (PTR gb_24 0))), (48, .one (.val (S (rI .i64) v_23)))], [cown go_15 (rU UInt8) v_13 (List.length v_13) gc_16, cown go_11 (rU UInt8) v_9 (List.length v_9) gc_12, cvar gb_5 (rV 16 (rU UInt64)) a_3, cvar gb_6 (rV 16 (rU UInt64)) a_4, cvar gb_24 (rV 16 (rU UInt64)) v_22], []⟩ ?_
      refine JL.cons rfl (op_assign (ltB rfl) (.tmp rfl)) ?_
      refine JL.nil ?_
      refine JQ.then ?_
      refine JC.seq ?_
      refine JC.region ?_
      refine JL.cons rfl (op_move (ltB rfl) (.tmp rfl)) ?_
      refine JL.cons rfl (op_move (ltB rfl) (.tmp rfl)) ?_
      refine JL.cons rfl (op_move (ltB rfl) (.tmp rfl)) ?_
      replace hm := bnd_inv hm
      obtain ⟨⟨v_25, v_26⟩, hv_v_25, hm⟩ := hm
      refine JL.pre (Imp.frz (j := 0) rfl (ImpK.slotH (s := 11) rfl (ImpK.slotH (s := 52) rfl ImpK.refl))) ?_
      refine JL.consX rfl (op_call (js := []) (ltD rfl) cl9 (sim_cursor_Of k t_1 a_2 v_13 (v_25, v_26) hv_v_25) .func (.cons (.tmp rfl) (.cons (.tmp rfl) (.cons (HasO.wk (.tmp rfl) wkHL) .nil))) rfl) (fun _ => ?_)
      refine JL.cons rfl (op_move (ltB rfl) (.tmp rfl)) ?_
      refine JL.pre (Imp.sub (ρ' := [(6, .one (.val (PTR gb_5 0))), (7, .one (.val (PTR gb_6 0))), (9, .one (.val (HL go_11 (rU UInt8) v_9 gc_12))), (11, .one (.val (HL go_15 (rU UInt8) v_13 gc_16))), (13, .one (.val (PTR gb_24 0))), (14, .one (.val (S (rI .i64) v_23))), (49, .tup [.val (A (rV 16 (rU UInt64)) v_25), .val (S (rI .i64) v_26)])]) (.cons rfl (.cons rfl (.cons rfl (.cons rfl (.cons rfl (.cons rfl (.cons rfl .nil)))))))) ?_
      refine JL.at ⟨[(6, .one (.val (PTR gb_5 0))), (7, .one (.val (PTR gb_6 0))), (9, .one (.val (HL go_11 (rU UInt8) v_9 gc_12))), (11, .one (.val (HL go_15 (rU UInt8) v_13 gc_16))), (13, .one (.val (PTR gb_24 0))), (14, .one (.val (S (rI .i64) v_23))), (49, .tup [.val (A (rV 16 (rU UInt64)) v_25), .val (S (rI .i64) v_26)])], [cown go_15 (rU UInt8) v_13 (List.length v_13) gc_16, cown go_11 (rU UInt8) v_9 (List.length v_9) gc_12, cvar gb_5 (rV 16 (rU UInt64)) a_3, cvar gb_6 (rV 16 (rU UInt64)) a_4, cvar gb_24 (rV 16 (rU UInt64)) v_22], []⟩ ?_
      refine JL.cons rfl (op_extract (i := 0) (ltB rfl) (.tmp rfl) rfl) ?_
      refine JL.cons rfl (op_extract (i := 1) (ltB rfl) (.tmp rfl) rfl) ?_
      refine JL.consX rfl (op_alloc (ltB rfl) tZ25 zr25) (fun q => ?_)
      obtain ⟨gb_27, hqq⟩ : ∃ z, z = q := ⟨_, rfl⟩
      subst hqq
      refine JL.pre (Imp.sub (ρ' := [(6, .one (.val (PTR gb_5 0))), (7, .one (.val (PTR gb_6 0))), (9, .one (.val (HL go_11 (rU UInt8) v_9 gc_12))), (11, .one (.val (HL go_15 (rU UInt8) v_13 gc_16))), (13, .one (.val (PTR gb_24 0))), (14, .one (.val (S (rI .i64) v_23))), (15, .one (.val (PTR gb_27 0))), (54, .one (.val (A (rV 16 (rU UInt64)) v_25))), (55, .one (.val (S (rI .i64) v_26)))]) (.cons rfl (.cons rfl (.cons rfl (.cons rfl (.cons rfl (.cons rfl (.cons rfl (.cons rfl (.cons rfl .nil)))))))))) ?_
      refine JL.at ⟨[(6, .one (.val (PTR gb_5 0))), (7, .one (.val (PTR gb_6 0))), (9, .one (.val (HL go_11 (rU UInt8) v_9 gc_12))), (11, .one (.val (HL go_15 (rU UInt8) v_13 gc_16))), (13, .one (.val (PTR gb_24 0))), (14, .one (.val (S (rI .i64) v_23))), (15, .one (.val (PTR gb_27 0))), (54, .one (.val (A (rV 16 (rU UInt64)) v_25))), (55, .one (.val (S (rI .i64) v_26)))], [cown go_15 (rU UInt8) v_13 (List.length v_13) gc_16, cown go_11 (rU UInt8) v_9 (List.length v_9) gc_12, cvar gb_5 (rV 16 (rU UInt64)) a_3, cvar gb_6 (rV 16 (rU UInt64)) a_4, cvar gb_24 (rV 16 (rU UInt64)) v_22, cvar gb_27 (rV 16 (rU UInt64)) (Vector.replicate 16 (0 : UInt64))], []⟩ ?_
      refine JL.cons rfl (op_storeA (j := 5) tA25 (.tmp rfl) (.tmp rfl) rfl (UpdR.self (by rfl)) rfl) ?_
      refine JL.pre (Imp.sub (ρ' := [(6, .one (.val (PTR gb_5 0))), (7, .one (.val (PTR gb_6 0))), (9, .one (.val (HL go_11 (rU UInt8) v_9 gc_12))), (11, .one (.val (HL go_15 (rU UInt8) v_13 gc_16))), (13, .one (.val (PTR gb_24 0))), (14, .one (.val (S (rI .i64) v_23))), (15, .one (.val (PTR gb_27 0))), (55, .one (.val (S (rI .i64) v_26)))]) (.cons rfl (.cons rfl (.cons rfl (.cons rfl (.cons rfl (.cons rfl (.cons rfl (.cons rfl .nil))))))))) ?_
      refine JL.at ⟨[(6, .one (.val (PTR gb_5 0))), (7, .one (.val (PTR gb_6 0))), (9, .one (.val (HL go_11 (rU UInt8) v_9 gc_12))), (11, .one (.val (HL go_15 (rU UInt8) v_13 gc_16))), (13, .one (.val (PTR gb_24 0))), (14, .one (.val (S (rI .i64) v_23))), (15, .one (.val (PTR gb_27 0))), (55, .one (.val (S (rI .i64) v_26)))], [cown go_15 (rU UInt8) v_13 (List.length v_13) gc_16, cown go_11 (rU UInt8) v_9 (List.length v_9) gc_12, cvar gb_5 (rV 16 (rU UInt64)) a_3, cvar gb_6 (rV 16 (rU UInt64)) a_4, cvar gb_24 (rV 16 (rU UInt64)) v_22, cvar gb_27 (rV 16 (rU UInt64)) v_25], []⟩ ?_
      refine JL.cons rfl (op_assign (ltB rfl) (.tmp rfl)) ?_
      refine JL.nil ?_
      refine JQ.then ?_
      replace hm := bnd_inv hm
      obtain ⟨x_42, hx3, hq3⟩ := hm
      refine JC.seqJ (γ := Unit) (stj := fun q => ⟨[(8, .one (.val (S rB x_42)))], [], []⟩) (fun q => ?_) ?_
      · obtain _ := q
        refine JC.at ⟨[(8, .one (.val (S rB x_42)))], [], []⟩ ?_
        refine JC.ret ?_
        replace hq3 := Option.some.inj hq3
        subst hq3
        exact JQ.done (js := []) (ss := [.val (S rB x_42)]) () (.inl rfl) (.nil rfl) rfl (.cons (.tmp rfl) .nil) rfl rfl rfl
      · replace hx3 := lt1_inv hx3
        obtain ⟨v_28, hv_v_28, hx3⟩ := hx3
        replace hx3 := lt1_inv hx3
        obtain ⟨v_29, hv_v_29, hx3⟩ := hx3
        replace hx3 := lt1_inv hx3
        obtain ⟨v_30, hv_v_30, hx3⟩ := hx3
        replace hx3 := lt1_inv hx3
        obtain ⟨v_31, hv_v_31, hx3⟩ := hx3
        replace hx3 := lt1_inv hx3
        obtain ⟨v_32, hv_v_32, hx3⟩ := hx3
        replace hx3 := lt1_inv hx3
        obtain ⟨v_33, hv_v_33, hx3⟩ := hx3
        replace hx3 := lt1_inv hx3
        obtain ⟨v_34, hv_v_34, hx3⟩ := hx3
        replace hx3 := bnd_inv hx3
        obtain ⟨_, hv_u_35, hx3⟩ := hx3
        replace hx3 := bnd_inv hx3
        obtain ⟨_, hv_u_36, hx3⟩ := hx3
        replace hx3 := lt1_inv hx3
        obtain ⟨v_37, hv_v_37, hx3⟩ := hx3
        replace hx3 := lt1_inv hx3
        obtain ⟨v_38, hv_v_38, hx3⟩ := hx3
        replace hx3 := lt1_inv hx3
        obtain ⟨v_39, hv_v_39, hx3⟩ := hx3
        replace hx3 := bnd_inv hx3
        obtain ⟨v_40, hv_v_40, hx3⟩ := hx3
        replace hx3 := lt1_inv hx3
        obtain ⟨v_41, hv_v_41, hx3⟩ := hx3
        refine JC.anyE (kl := []) (kk := 0) (base := [(6, .one (.val (PTR gb_5 0))), (7, .one (.val (PTR gb_6 0))), (9, .one (.val (HL go_11 (rU UInt8) v_9 gc_12))), (11, .one (.val (HL go_15 (rU UInt8) v_13 gc_16))), (13, .one (.val (PTR gb_24 0))), (14, .one (.val (S (rI .i64) v_23))), (15, .one (.val (PTR gb_27 0))), (16, .one (.val (S (rI .i64) v_26)))])
            (fs := fun γ => [⟨some 56, .one (.val (HL go_11 (rU UInt8) v_9 gc_12))⟩, ⟨some 57, .one (.val (S rS v_9))⟩, ⟨some 58, .one (.val (HL go_15 (rU UInt8) v_13 gc_16))⟩, ⟨some 59, .one (.val (S rS v_13))⟩, ⟨some 60, .one (.val (S rB v_28))⟩, ⟨some 61, .one (.val (A (rV 16 (rU UInt64)) a_3))⟩, ⟨some 62, .one (.val (A (rV 16 (rU UInt64)) a_4))⟩, ⟨some 63, .one (.val (S rB v_29))⟩, ⟨some 64, .one (.val (S rB v_30))⟩, ⟨some 65, .one (.val (S rB v_30))⟩, ⟨some 66, bif v_30 then .one (.val (A (rV 16 (rU UInt64)) v_22)) else .one .und⟩, ⟨some 67, bif v_30 then .one (.val (A (rV 16 (rU UInt64)) a_3)) else .one .und⟩, ⟨some 68, bif v_30 then .one (.val (S rB v_31)) else .one .und⟩, ⟨some 69, .one (.val (S rB v_32))⟩, ⟨some 70, .one (.val (S rB v_32))⟩, ⟨some 71, bif v_32 then .one (.val (A (rV 16 (rU UInt64)) v_25)) else .one .und⟩, ⟨some 72, bif v_32 then .one (.val (A (rV 16 (rU UInt64)) a_4)) else .one .und⟩, ⟨some 73, bif v_32 then .one (.val (S rB v_33)) else .one .und⟩, ⟨some 74, .one (.val (S rB v_34))⟩, ⟨some 75, .one (.val (S rB v_34))⟩, ⟨some 76, bif v_34 then .one (.val (S (rI .i64) v_23)) else .one .und⟩, ⟨some 77, bif v_34 then .one (.val (S (rI .i64) v_23)) else .one .und⟩, ⟨some 78, bif v_34 then .one (.val (S (rI .i64) v_26)) else .one .und⟩, ⟨some 79, bif v_34 then .one (.val (S (rI .i64) v_26)) else .one .und⟩, ⟨some 80, bif v_34 then .one (.val (S (rI .i64) v_37)) else .one .und⟩, ⟨some 81, bif v_34 then .one (.val (S rB v_38)) else .one .und⟩, ⟨some 82, .one (.val (S rB v_39))⟩, ⟨some 83, .one (.val (S rB v_39))⟩, ⟨some 84, bif v_39 then .one (.val (S rB v_40)) else .one .und⟩, ⟨some 85, .one (.val (S rB v_41))⟩, ⟨some 8, .one (.val (S rB v_41))⟩])
            (rs := fun γ => [⟨cown go_15 (rU UInt8) v_13 (List.length v_13) gc_16, none, none, []⟩, ⟨cown go_11 (rU UInt8) v_9 (List.length v_9) gc_12, none, none, []⟩, ⟨cvar gb_5 (rV 16 (rU UInt64)) a_3, none, none, [5, 11]⟩, ⟨cvar gb_6 (rV 16 (rU UInt64)) a_4, none, none, [6, 16]⟩, ⟨cvar gb_24 (rV 16 (rU UInt64)) v_22, none, none, [10]⟩, ⟨cvar gb_27 (rV 16 (rU UInt64)) v_25, none, none, [15]⟩])
            (ds := [56, 57, 58, 59, 60, 61, 62, 63, 64, 65, 66, 67, 68, 69, 70, 71, 72, 73, 74, 75, 76, 77, 78, 79, 80, 81, 82, 83, 84, 85, 8]) (bs := [6, 7, 9, 11, 13, 14, 15, 16]) (afts := [[], [], [], [], [], [], [], [], [], [], [], [], [], [], [], [], [], [], [], [], [], [], [], [], [], [], [], [], [], [], []]) (js := [0, 0, 0, 0, 0, 0]) mixed (.cons rfl (.cons rfl (.cons rfl (.cons rfl (.cons rfl (.cons rfl (.cons rfl (.cons rfl .nil)))))))) (fun _ => rfl)
            (by
      refine DSteps.cons (j := 1) rfl (fun _ => rfl) (.run (fun γ ρ B hb hd => ⟨.none, OpStep.at ⟨ρ, B, _⟩ (setO ⟨ρ, B, _⟩ (some 56) (.one (.val (HL go_11 (rU UInt8) v_9 gc_12)))) (op_move (ltB rfl) (.tmp (hb 9 _ rfl)))⟩)) ?_
      refine DSteps.cons (j := 2) rfl (fun _ => rfl) (.run (fun γ ρ B hb hd => ⟨.none, OpStep.at ⟨ρ, B, _⟩ (setO ⟨ρ, B, _⟩ (some 57) (.one (.val (S rS v_9)))) (op_convBS (ltB rfl) tu22 tu5 tu9 (HasO.wk (.tmp (hdl hd 0 56 rfl (by decide +kernel))) wkHL))⟩)) ?_
      refine DSteps.cons (j := 3) rfl (fun _ => rfl) (.run (fun γ ρ B hb hd => ⟨.none, OpStep.at ⟨ρ, B, _⟩ (setO ⟨ρ, B, _⟩ (some 58) (.one (.val (HL go_15 (rU UInt8) v_13 gc_16)))) (op_move (ltB rfl) (.tmp (hb 11 _ rfl)))⟩)) ?_
      refine DSteps.cons (j := 4) rfl (fun _ => rfl) (.run (fun γ ρ B hb hd => ⟨.none, OpStep.at ⟨ρ, B, _⟩ (setO ⟨ρ, B, _⟩ (some 59) (.one (.val (S rS v_13)))) (op_convBS (ltB rfl) tu22 tu5 tu9 (HasO.wk (.tmp (hdl hd 2 58 rfl (by decide +kernel))) wkHL))⟩)) ?_
      refine DSteps.cons (j := 5) rfl (fun _ => rfl) (.run (fun γ ρ B hb hd => ⟨.none, OpStep.at ⟨ρ, B, _⟩ (setO ⟨ρ, B, _⟩ (some 60) (.one (.val (S rB v_28)))) (op_cmpS (ltB rfl) (.tmp (hdl hd 1 57 rfl (by decide +kernel))) (.tmp (hdl hd 3 59 rfl (by decide +kernel))) (congrArg some hv_v_28))⟩)) ?_
      refine DSteps.cons (j := 6) rfl (fun _ => rfl) (.run (fun γ ρ B hb hd => ⟨.none, OpStep.at ⟨ρ, (cvar gb_5 (rV 16 (rU UInt64)) a_3) :: B, _⟩ (setO ⟨ρ, (cvar gb_5 (rV 16 (rU UInt64)) a_3) :: B, _⟩ (some 61) (.one (.val (A (rV 16 (rU UInt64)) a_3)))) (op_loadA (j := 0) (ltB rfl) tA25 (.tmp (hb 6 _ rfl)) rfl (Comp.self (rV 16 (rU UInt64)) a_3) rfl)⟩)) ?_
      refine DSteps.cons (j := 7) rfl (fun _ => rfl) (.run (fun γ ρ B hb hd => ⟨.none, OpStep.at ⟨ρ, (cvar gb_6 (rV 16 (rU UInt64)) a_4) :: B, _⟩ (setO ⟨ρ, (cvar gb_6 (rV 16 (rU UInt64)) a_4) :: B, _⟩ (some 62) (.one (.val (A (rV 16 (rU UInt64)) a_4)))) (op_loadA (j := 0) (ltB rfl) tA25 (.tmp (hb 7 _ rfl)) rfl (Comp.self (rV 16 (rU UInt64)) a_4) rfl)⟩)) ?_
      refine DSteps.cons (j := 8) rfl (fun _ => rfl) (.run (fun γ ρ B hb hd => ⟨.none, OpStep.at ⟨ρ, B, _⟩ (setO ⟨ρ, B, _⟩ (some 63) (.one (.val (S rB v_29)))) (op_eqA (ltB rfl) qa25 (by decide) ng25 (.tmp (hdl hd 5 61 rfl (by decide +kernel))) (.tmp (hdl hd 6 62 rfl (by decide +kernel))) hv_v_29)⟩)) ?_
      refine DSteps.cons (j := 9) rfl (fun _ => rfl) (.run (fun γ ρ B hb hd => ⟨.none, OpStep.at ⟨ρ, B, _⟩ (setO ⟨ρ, B, _⟩ (some 64) (.one (.val (S rB v_30)))) (op_eqB (ltB rfl) tu4 (.tmp (hdl hd 4 60 rfl (by decide +kernel))) (.tmp (hdl hd 7 63 rfl (by decide +kernel))) hv_v_30)⟩)) ?_
      refine DSteps.cons (j := 10) rfl (fun _ => rfl) (.run (fun γ ρ B hb hd => ⟨.none, OpStep.at ⟨ρ, B, _⟩ (setO ⟨ρ, B, _⟩ (some 65) (.one (.val (S rB v_30)))) (op_move (ltB rfl) (.tmp (hdl hd 8 64 rfl (by decide +kernel))))⟩)) ?_
      refine DSteps.cons (j := 11) rfl (fun _ => rfl) (.cnd (q := v_30) (sv := fun γ => .one (.val (A (rV 16 (rU UInt64)) v_22))) (fun _ => rfl) (fun _ => rfl) (fun d h => by cases h; exact ltB rfl) (fun _ => rfl) (fun γ ρ B hb hd => ⟨(Guard.isT (ltB rfl) rfl (hdl hd 9 65 rfl (by decide +kernel))), fun hq_4 => OpStep.at ⟨ρ, (cvar gb_24 (rV 16 (rU UInt64)) v_22) :: B, _⟩ (setO ⟨ρ, (cvar gb_24 (rV 16 (rU UInt64)) v_22) :: B, _⟩ (some 66) (.one (.val (A (rV 16 (rU UInt64)) v_22)))) (op_loadA (j := 0) (ltB rfl) tA25 (.tmp (hb 13 _ rfl)) rfl (Comp.self (rV 16 (rU UInt64)) v_22) rfl)⟩)) ?_
      refine DSteps.cons (j := 12) rfl (fun _ => rfl) (.cnd (q := v_30) (sv := fun γ => .one (.val (A (rV 16 (rU UInt64)) a_3))) (fun _ => rfl) (fun _ => rfl) (fun d h => by cases h; exact ltB rfl) (fun _ => rfl) (fun γ ρ B hb hd => ⟨(Guard.isT (ltB rfl) rfl (hdl hd 9 65 rfl (by decide +kernel))), fun hq_5 => OpStep.at ⟨ρ, (cvar gb_5 (rV 16 (rU UInt64)) a_3) :: B, _⟩ (setO ⟨ρ, (cvar gb_5 (rV 16 (rU UInt64)) a_3) :: B, _⟩ (some 67) (.one (.val (A (rV 16 (rU UInt64)) a_3)))) (op_loadA (j := 0) (ltB rfl) tA25 (.tmp (hb 6 _ rfl)) rfl (Comp.self (rV 16 (rU UInt64)) a_3) rfl)⟩)) ?_
      refine DSteps.cons (j := 13) rfl (fun _ => rfl) (.cnd (q := v_30) (sv := fun γ => .one (.val (S rB v_31))) (fun _ => rfl) (fun _ => rfl) (fun d h => by cases h; exact ltB rfl) (fun _ => rfl) (fun γ ρ B hb hd => ⟨(Guard.isT (ltB rfl) rfl (hdl hd 9 65 rfl (by decide +kernel))), fun hq_6 => OpStep.at ⟨ρ, B, _⟩ (setO ⟨ρ, B, _⟩ (some 68) (.one (.val (S rB v_31)))) (op_eqA (ltB rfl) qa25 (by decide) ng25 (HasO.cnd (.tmp (hdl hd 10 66 rfl (by decide +kernel))) hq_6) (HasO.cnd (.tmp (hdl hd 11 67 rfl (by decide +kernel))) hq_6) hv_v_31)⟩)) ?_
      refine DSteps.cons (j := 14) rfl (fun _ => rfl) (.run (fun γ ρ B hb hd => ⟨.none, OpStep.at ⟨ρ, B, _⟩ (setO ⟨ρ, B, _⟩ (some 69) (.one (.val (S rB v_32)))) (op_pickCS (ltB rfl) (.tmp (hdl hd 9 65 rfl (by decide +kernel))) (fun hb7 => (HasO.cnd (.tmp (hdl hd 12 68 rfl (by decide +kernel))) hb7)) (fun hb7 => .cB) hv_v_32)⟩)) ?_
      refine DSteps.cons (j := 15) rfl (fun _ => rfl) (.run (fun γ ρ B hb hd => ⟨.none, OpStep.at ⟨ρ, B, _⟩ (setO ⟨ρ, B, _⟩ (some 70) (.one (.val (S rB v_32)))) (op_move (ltB rfl) (.tmp (hdl hd 13 69 rfl (by decide +kernel))))⟩)) ?_
      refine DSteps.cons (j := 16) rfl (fun _ => rfl) (.cnd (q := v_32) (sv := fun γ => .one (.val (A (rV 16 (rU UInt64)) v_25))) (fun _ => rfl) (fun _ => rfl) (fun d h => by cases h; exact ltB rfl) (fun _ => rfl) (fun γ ρ B hb hd => ⟨(Guard.isT (ltB rfl) rfl (hdl hd 14 70 rfl (by decide +kernel))), fun hq_8 => OpStep.at ⟨ρ, (cvar gb_27 (rV 16 (rU UInt64)) v_25) :: B, _⟩ (setO ⟨ρ, (cvar gb_27 (rV 16 (rU UInt64)) v_25) :: B, _⟩ (some 71) (.one (.val (A (rV 16 (rU UInt64)) v_25)))) (op_loadA (j := 0) (ltB rfl) tA25 (.tmp (hb 15 _ rfl)) rfl (Comp.self (rV 16 (rU UInt64)) v_25) rfl)⟩)) ?_
      refine DSteps.cons (j := 17) rfl (fun _ => rfl) (.cnd (q := v_32) (sv := fun γ => .one (.val (A (rV 16 (rU UInt64)) a_4))) (fun _ => rfl) (fun _ => rfl) (fun d h => by cases h; exact ltB rfl) (fun _ => rfl) (fun γ ρ B hb hd => ⟨(Guard.isT (ltB rfl) rfl (hdl hd 14 70 rfl (by decide +kernel))), fun hq_9 => OpStep.at ⟨ρ, (cvar gb_6 (rV 16 (rU UInt64)) a_4) :: B, _⟩ (setO ⟨ρ, (cvar gb_6 (rV 16 (rU UInt64)) a_4) :: B, _⟩ (some 72) (.one (.val (A (rV 16 (rU UInt64)) a_4)))) (op_loadA (j := 0) (ltB rfl) tA25 (.tmp (hb 7 _ rfl)) rfl (Comp.self (rV 16 (rU UInt64)) a_4) rfl)⟩)) ?_
      refine DSteps.cons (j := 18) rfl (fun _ => rfl) (.cnd (q := v_32) (sv := fun γ => .one (.val (S rB v_33))) (fun _ => rfl) (fun _ => rfl) (fun d h => by cases h; exact ltB rfl) (fun _ => rfl) (fun γ ρ B hb hd => ⟨(Guard.isT (ltB rfl) rfl (hdl hd 14 70 rfl (by decide +kernel))), fun hq_10 => OpStep.at ⟨ρ, B, _⟩ (setO ⟨ρ, B, _⟩ (some 73) (.one (.val (S rB v_33)))) (op_eqA (ltB rfl) qa25 (by decide) ng25 (HasO.cnd (.tmp (hdl hd 15 71 rfl (by decide +kernel))) hq_10) (HasO.cnd (.tmp (hdl hd 16 72 rfl (by decide +kernel))) hq_10) hv_v_33)⟩)) ?_
      refine DSteps.cons (j := 19) rfl (fun _ => rfl) (.run (fun γ ρ B hb hd => ⟨.none, OpStep.at ⟨ρ, B, _⟩ (setO ⟨ρ, B, _⟩ (some 74) (.one (.val (S rB v_34)))) (op_pickCS (ltB rfl) (.tmp (hdl hd 14 70 rfl (by decide +kernel))) (fun hb11 => (HasO.cnd (.tmp (hdl hd 17 73 rfl (by decide +kernel))) hb11)) (fun hb11 => .cB) hv_v_34)⟩)) ?_
      refine DSteps.cons (j := 20) rfl (fun _ => rfl) (.run (fun γ ρ B hb hd => ⟨.none, OpStep.at ⟨ρ, B, _⟩ (setO ⟨ρ, B, _⟩ (some 75) (.one (.val (S rB v_34)))) (op_move (ltB rfl) (.tmp (hdl hd 18 74 rfl (by decide +kernel))))⟩)) ?_
      refine DSteps.cons (j := 21) rfl (fun _ => rfl) (.cnd (q := v_34) (sv := fun γ => .one (.val (S (rI .i64) v_23))) (fun _ => rfl) (fun _ => rfl) (fun d h => by cases h; exact ltB rfl) (fun _ => rfl) (fun γ ρ B hb hd => ⟨(Guard.isT (ltB rfl) rfl (hdl hd 19 75 rfl (by decide +kernel))), fun hq_12 => OpStep.at ⟨ρ, B, _⟩ (setO ⟨ρ, B, _⟩ (some 76) (.one (.val (S (rI .i64) v_23)))) (op_move (ltB rfl) (.tmp (hb 14 _ rfl)))⟩)) ?_
      refine DSteps.cons (j := 22) rfl (fun _ => rfl) (.cnd (q := v_34) (sv := fun γ => .one (.val (S (rI .i64) v_23))) (fun _ => rfl) (fun _ => rfl) (fun d h => by cases h; exact ltB rfl) (fun _ => rfl) (fun γ ρ B hb hd => ⟨(Guard.isT (ltB rfl) rfl (hdl hd 19 75 rfl (by decide +kernel))), fun hq_13 => OpStep.at ⟨ρ, B, _⟩ (setO ⟨ρ, B, _⟩ (some 77) (.one (.val (S (rI .i64) v_23)))) ((op_call (js := []) (ltD rfl) cl8 (sim_law10_num k v_23 () (ifT hv_u_35 hq_13)) .func (.cons (HasO.cnd (.tmp (hdl hd 20 76 rfl (by decide +kernel))) hq_13) .nil) rfl).post (fun _ => Imp.refl))⟩)) ?_
      refine DSteps.cons (j := 23) rfl (fun _ => rfl) (.cnd (q := v_34) (sv := fun γ => .one (.val (S (rI .i64) v_26))) (fun _ => rfl) (fun _ => rfl) (fun d h => by cases h; exact ltB rfl) (fun _ => rfl) (fun γ ρ B hb hd => ⟨(Guard.isT (ltB rfl) rfl (hdl hd 19 75 rfl (by decide +kernel))), fun hq_14 => OpStep.at ⟨ρ, B, _⟩ (setO ⟨ρ, B, _⟩ (some 78) (.one (.val (S (rI .i64) v_26)))) (op_move (ltB rfl) (.tmp (hb 16 _ rfl)))⟩)) ?_
      refine DSteps.cons (j := 24) rfl (fun _ => rfl) (.cnd (q := v_34) (sv := fun γ => .one (.val (S (rI .i64) v_26))) (fun _ => rfl) (fun _ => rfl) (fun d h => by cases h; exact ltB rfl) (fun _ => rfl) (fun γ ρ B hb hd => ⟨(Guard.isT (ltB rfl) rfl (hdl hd 19 75 rfl (by decide +kernel))), fun hq_15 => OpStep.at ⟨ρ, B, _⟩ (setO ⟨ρ, B, _⟩ (some 79) (.one (.val (S (rI .i64) v_26)))) ((op_call (js := []) (ltD rfl) cl8 (sim_law10_num k v_26 () (ifT hv_u_36 hq_15)) .func (.cons (HasO.cnd (.tmp (hdl hd 22 78 rfl (by decide +kernel))) hq_15) .nil) rfl).post (fun _ => Imp.refl))⟩)) ?_
      refine DSteps.cons (j := 25) rfl (fun _ => rfl) (.cnd (q := v_34) (sv := fun γ => .one (.val (S (rI .i64) v_37))) (fun _ => rfl) (fun _ => rfl) (fun d h => by cases h; exact ltB rfl) (fun _ => rfl) (fun γ ρ B hb hd => ⟨(Guard.isT (ltB rfl) rfl (hdl hd 19 75 rfl (by decide +kernel))), fun hq_16 => OpStep.at ⟨ρ, B, _⟩ (setO ⟨ρ, B, _⟩ (some 80) (.one (.val (S (rI .i64) v_37)))) (op_arI (ltB rfl) (HasO.cnd (.tmp (hdl hd 21 77 rfl (by decide +kernel))) hq_16) (HasO.cnd (.tmp (hdl hd 23 79 rfl (by decide +kernel))) hq_16) (congrArg some hv_v_37))⟩)) ?_
      refine DSteps.cons (j := 26) rfl (fun _ => rfl) (.cnd (q := v_34) (sv := fun γ => .one (.val (S rB v_38))) (fun _ => rfl) (fun _ => rfl) (fun d h => by cases h; exact ltB rfl) (fun _ => rfl) (fun γ ρ B hb hd => ⟨(Guard.isT (ltB rfl) rfl (hdl hd 19 75 rfl (by decide +kernel))), fun hq_17 => OpStep.at ⟨ρ, B, _⟩ (setO ⟨ρ, B, _⟩ (some 81) (.one (.val (S rB v_38)))) (op_cmpI (ltB rfl) (HasO.cnd (.tmp (hdl hd 24 80 rfl (by decide +kernel))) hq_17) .cI (congrArg some hv_v_38))⟩)) ?_
      refine DSteps.cons (j := 27) rfl (fun _ => rfl) (.run (fun γ ρ B hb hd => ⟨.none, OpStep.at ⟨ρ, B, _⟩ (setO ⟨ρ, B, _⟩ (some 82) (.one (.val (S rB v_39)))) (op_pickCS (ltB rfl) (.tmp (hdl hd 19 75 rfl (by decide +kernel))) (fun hb18 => (HasO.cnd (.tmp (hdl hd 25 81 rfl (by decide +kernel))) hb18)) (fun hb18 => .cB) hv_v_39)⟩)) ?_
      refine DSteps.cons (j := 28) rfl (fun _ => rfl) (.run (fun γ ρ B hb hd => ⟨.none, OpStep.at ⟨ρ, B, _⟩ (setO ⟨ρ, B, _⟩ (some 83) (.one (.val (S rB v_39)))) (op_move (ltB rfl) (.tmp (hdl hd 26 82 rfl (by decide +kernel))))⟩)) ?_
      refine DSteps.cons (j := 29) rfl (fun _ => rfl) (.cnd (q := v_39) (sv := fun γ => .one (.val (S rB v_40))) (fun _ => rfl) (fun _ => rfl) (fun d h => by cases h; exact ltB rfl) (fun _ => rfl) (fun γ ρ B hb hd => ⟨(Guard.isT (ltB rfl) rfl (hdl hd 27 83 rfl (by decide +kernel))), fun hq_19 => OpStep.at ⟨ρ, B, _⟩ (setO ⟨ρ, B, _⟩ (some 84) (.one (.val (S rB v_40)))) ((op_call (js := []) (ltD rfl) cl6 (sim_law10_known k v_40 (ifT hv_v_40 hq_19)) .func .nil rfl).post (fun _ => Imp.refl))⟩)) ?_
      refine DSteps.cons (j := 30) rfl (fun _ => rfl) (.run (fun γ ρ B hb hd => ⟨.none, OpStep.at ⟨ρ, B, _⟩ (setO ⟨ρ, B, _⟩ (some 85) (.one (.val (S rB v_41)))) (op_pickCS (ltB rfl) (.tmp (hdl hd 27 83 rfl (by decide +kernel))) (fun hb20 => (HasO.cnd (.tmp (hdl hd 28 84 rfl (by decide +kernel))) hb20)) (fun hb20 => .cB) hv_v_41)⟩)) ?_
      refine DSteps.cons (j := 31) rfl (fun _ => rfl) (.run (fun γ ρ B hb hd => ⟨.none, OpStep.at ⟨ρ, B, _⟩ (setO ⟨ρ, B, _⟩ (some 8) (.one (.val (S rB v_41)))) (op_assign (ltB rfl) (.tmp (hdl hd 29 85 rfl (by decide +kernel))))⟩)) ?_
      exact DSteps.nil)
            (by decide +kernel) (fun _ => rfl) rfl (fun _ => rfl) (fun _ => rfl) rfl (by decide) (by decide) (by decide +kernel) (fun _ d h => by cases h)
            (ρ' := fun γ => [(8, .one (.val (S rB v_41)))])
            (X' := fun γ => [cown go_15 (rU UInt8) v_13 (List.length v_13) gc_16, cown go_11 (rU UInt8) v_9 (List.length v_9) gc_12, cvar gb_5 (rV 16 (rU UInt64)) a_3, cvar gb_6 (rV 16 (rU UInt64)) a_4, cvar gb_24 (rV 16 (rU UInt64)) v_22, cvar gb_27 (rV 16 (rU UInt64)) v_25])
            (fun γ ρ hb hd => (.cons (hdq hd 30 8 rfl) .nil)) (fun _ => rfl) (fun γ => ?_)
        refine JQ.at ⟨[(8, .one (.val (S rB v_41)))], [cown go_15 (rU UInt8) v_13 (List.length v_13) gc_16, cown go_11 (rU UInt8) v_9 (List.length v_9) gc_12, cvar gb_5 (rV 16 (rU UInt64)) a_3, cvar gb_6 (rV 16 (rU UInt64)) a_4, cvar gb_24 (rV 16 (rU UInt64)) v_22, cvar gb_27 (rV 16 (rU UInt64)) v_25], []⟩ ?_
        replace hx3 := Option.some.inj hx3
        first | subst hx3 | clear hx3
        exact JQ.join () (Imp.norm (js := []) rfl (.cons rfl .nil))

end Go.Proofs.Ytnhiiabdoichlaa
