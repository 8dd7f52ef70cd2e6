/- Walks. -/
import Derived.Test.YtnhiiabdoichlaaT
namespace Go.Proofs.Ytnhiiabdoichlaa
open Go Fw
set_option linter.unusedVariables false
set_option maxRecDepth 100000
set_option maxHeartbeats 4000000

theorem sim_cursor_Join (k : Nat) (a_1 : (Vector UInt64 16)) (b_2 : (Vector UInt64 16)) (r : (Vector UInt64 16)) (hm : cursor_Join k a_1 b_2 = some r) : Sim Try.prog 15 [A (rV 16 (rU UInt64)) a_1, A (rV 16 (rU UInt64)) b_2] [] (γ := Unit) (fun q => []) (fun q => .one (.val (A (rV 16 (rU UInt64)) r))) := by
  unfold cursor_Join at hm
  refine Sim.of Try.func15 rfl rfl (Nat.le_of_ble_eq_true rfl) (fun e0 w0 => ?_)
  refine JC.at ⟨[(0, .one (.val (A (rV 16 (rU UInt64)) a_1))), (1, .one (.val (A (rV 16 (rU UInt64)) b_2)))], [], []⟩ ?_
  refine JC.seq ?_
  refine JC.region ?_
  refine JL.consX rfl (op_boxA (ltB rfl) (.tmp rfl)) (fun q => ?_)
  obtain ⟨gb_3, hqq⟩ : ∃ z, z = q := ⟨_, rfl⟩
  subst hqq
  refine JL.pre (Imp.sub (ρ' := [(1, .one (.val (A (rV 16 (rU UInt64)) b_2))), (2, .one (.val (PTR gb_3 0)))]) (.cons rfl (.cons rfl .nil))) ?_
  refine JL.at ⟨[(1, .one (.val (A (rV 16 (rU UInt64)) b_2))), (2, .one (.val (PTR gb_3 0)))], [cvar gb_3 (rV 16 (rU UInt64)) a_1], []⟩ ?_
  refine JL.consX rfl (op_boxA (ltB rfl) (.tmp rfl)) (fun q => ?_)
  obtain ⟨gb_4, hqq⟩ : ∃ z, z = q := ⟨_, rfl⟩
  subst hqq
  refine JL.pre (Imp.sub (ρ' := [(2, .one (.val (PTR gb_3 0))), (3, .one (.val (PTR gb_4 0)))]) (.cons rfl (.cons rfl .nil))) ?_
  refine JL.at ⟨[(2, .one (.val (PTR gb_3 0))), (3, .one (.val (PTR gb_4 0)))], [cvar gb_3 (rV 16 (rU UInt64)) a_1, cvar gb_4 (rV 16 (rU UInt64)) b_2], []⟩ ?_
  refine JL.consX rfl (op_alloc (ltB rfl) tZ25 zr25) (fun q => ?_)
  obtain ⟨gb_5, hqq⟩ : ∃ z, z = q := ⟨_, rfl⟩
  subst hqq
  refine JL.pre (Imp.sub (ρ' := [(2, .one (.val (PTR gb_3 0))), (3, .one (.val (PTR gb_4 0))), (4, .one (.val (PTR gb_5 0)))]) (.cons rfl (.cons rfl (.cons rfl .nil)))) ?_
  refine JL.at ⟨[(2, .one (.val (PTR gb_3 0))), (3, .one (.val (PTR gb_4 0))), (4, .one (.val (PTR gb_5 0)))], [cvar gb_3 (rV 16 (rU UInt64)) a_1, cvar gb_4 (rV 16 (rU UInt64)) b_2, cvar gb_5 (rV 16 (rU UInt64)) (Vector.replicate 16 (0 : UInt64))], []⟩ ?_
  refine JL.nil ?_
  refine JQ.then ?_
  replace hm := bnd_inv hm
  obtain ⟨a_16, hx1, hq1⟩ := hm
  refine JC.seqJ (γ := Unit) (stj := fun q => ⟨[(2, .one (.val (PTR gb_3 0))), (4, .one (.val (PTR gb_5 0)))], [cvar gb_3 (rV 16 (rU UInt64)) a_16, cvar gb_5 (rV 16 (rU UInt64)) (Vector.replicate 16 (0 : UInt64))], []⟩) (fun q => ?_) ?_
  · obtain _ := q
    refine JC.at ⟨[(2, .one (.val (PTR gb_3 0))), (4, .one (.val (PTR gb_5 0)))], [cvar gb_3 (rV 16 (rU UInt64)) a_16, cvar gb_5 (rV 16 (rU UInt64)) (Vector.replicate 16 (0 : UInt64))], []⟩ ?_
    refine JC.seq ?_
    refine JC.region ?_
    refine JL.cons rfl (op_loadA (j := 0) (ltB rfl) tA25 (.tmp rfl) rfl (Comp.self (rV 16 (rU UInt64)) a_16) rfl) ?_
    refine JL.cons rfl (op_storeA (j := 1) tA25 (.tmp rfl) (.tmp rfl) rfl (UpdR.self (by rfl)) rfl) ?_
    refine JL.pre (Imp.norm (ρ' := [(4, .one (.val (PTR gb_5 0)))]) (js := [1]) rfl (.cons rfl .nil)) ?_
    refine JL.at ⟨[(4, .one (.val (PTR gb_5 0)))], [cvar gb_5 (rV 16 (rU UInt64)) a_16], []⟩ ?_
    refine JL.nil ?_
    refine JQ.then ?_
    refine JC.ret ?_
    replace hq1 := Option.some.inj hq1
    subst hq1
    exact JQ.done (js := []) (ss := [.val (A (rV 16 (rU UInt64)) a_16)]) () (.inl rfl) (.nil rfl) rfl (.cons (.cellA (j := 0) tA25 rfl rfl) .nil) rfl rfl rfl
  · refine JC.seq ?_
    refine JC.region ?_
    refine JL.cons rfl (op_loadA (j := 1) (ltB rfl) tA25 (.tmp rfl) rfl (Comp.self (rV 16 (rU UInt64)) b_2) rfl) ?_
    refine JL.cons rfl (op_move (ltB rfl) .cI) ?_
    refine JL.nil ?_
    refine JQ.then ?_
    refine JC.block ?_
    refine JC.pre ?_ (JC.loop (γ := Unit) (stf := fun s q => ⟨[(2, .one (.val (PTR gb_3 0))), (4, .one (.val (PTR gb_5 0))), (7, .one (.val (A (rV 16 (rU UInt64)) b_2))), (8, .one (.val (S (rI .i64) s.2)))], [cvar gb_3 (rV 16 (rU UInt64)) s.1, cvar gb_5 (rV 16 (rU UInt64)) (Vector.replicate 16 (0 : UInt64))], []⟩) (q := ()) hx1 ?_)
    · exact (Imp.norm (js := [0, 1]) rfl (.cons rfl (.cons rfl (.cons rfl (.cons rfl .nil)))))
    · intro s q x hx hr
      obtain ⟨a_6, x_7⟩ := s
      obtain _ := q
      change cursor_Join.b1 k b_2 a_6 x_7 = some x at hx
      unfold cursor_Join.b1 at hx
      refine JC.at ⟨[(2, .one (.val (PTR gb_3 0))), (4, .one (.val (PTR gb_5 0))), (7, .one (.val (A (rV 16 (rU UInt64)) b_2))), (8, .one (.val (S (rI .i64) x_7)))], [cvar gb_3 (rV 16 (rU UInt64)) a_6, cvar gb_5 (rV 16 (rU UInt64)) (Vector.replicate 16 (0 : UInt64))], []⟩ ?_
      refine JC.seq ?_
      refine JC.region ?_
      replace hx := lt1_inv hx
      obtain ⟨v_8, hv_v_8, hx⟩ := hx
      refine JL.cons rfl (op_cmpI (ltB rfl) (.tmp rfl) .cI (congrArg some hv_v_8)) ?_
      refine JL.nil ?_
      refine JQ.then ?_
      refine JC.seq ?_
      replace hx := iteB_inv hx
      rcases hx with ⟨hc3, hx⟩ | ⟨hc3, hx⟩
      · refine JC.condT (.tmp rfl) hc3 ?_
        refine JC.skip ?_
        refine JQ.then ?_
        refine JC.seq ?_
        refine JC.block ?_
        refine JC.seq ?_
        refine JC.region ?_
        refine JL.cons rfl (op_move (ltB rfl) (.tmp rfl)) ?_
        replace hx := bnd_inv hx
        obtain ⟨v_9, hv_v_9, hx⟩ := hx
        refine JL.cons rfl (op_indexSg (ltB rfl) tu25 tS23 rfl (.tmp rfl) (.tmp rfl) hv_v_9) ?_
        refine JL.cons rfl (op_assign (ltB rfl) (.tmp rfl)) ?_
        refine JL.cons rfl (op_assign (ltB rfl) (.tmp rfl)) ?_
        refine JL.nil ?_
        refine JQ.then ?_
        refine JC.region ?_
        refine JL.cons rfl (op_move (ltB rfl) (.tmp rfl)) ?_
        refine JL.pre (Imp.sub (ρ' := [(2, .one (.val (PTR gb_3 0))), (4, .one (.val (PTR gb_5 0))), (5, .one (.val (S (rI .i64) x_7))), (6, .one (.val (S (rU UInt64) v_9))), (7, .one (.val (A (rV 16 (rU UInt64)) b_2))), (8, .one (.val (S (rI .i64) x_7))), (12, .one (.val (S (rI .i64) x_7)))]) (.cons rfl (.cons rfl (.cons rfl (.cons rfl (.cons rfl (.cons rfl (.cons rfl .nil)))))))) ?_
        refine JL.at ⟨[(2, .one (.val (PTR gb_3 0))), (4, .one (.val (PTR gb_5 0))), (5, .one (.val (S (rI .i64) x_7))), (6, .one (.val (S (rU UInt64) v_9))), (7, .one (.val (A (rV 16 (rU UInt64)) b_2))), (8, .one (.val (S (rI .i64) x_7))), (12, .one (.val (S (rI .i64) x_7)))], [cvar gb_3 (rV 16 (rU UInt64)) a_6, cvar gb_5 (rV 16 (rU UInt64)) (Vector.replicate 16 (0 : UInt64))], []⟩ ?_
        refine JL.cons rfl (op_move (ltB rfl) (.tmp rfl)) ?_
        replace hx := bnd_inv hx
        obtain ⟨i_10, hv_i_10, hx⟩ := hx
        refine JL.cons rfl (op_indexAddrIF (ltB rfl) tr25 (.tmp rfl) (.tmp rfl) hv_i_10) ?_
        replace hx := lt1_inv hx
        obtain ⟨v_11, hv_v_11, hx⟩ := hx
        refine JL.cons rfl (op_loadS (j := 0) (ltB rfl) tS23 (.tmp rfl) rfl (Comp.at (Comp.self (rV 16 (rU UInt64)) a_6) i_10.2 rfl) rfl hv_v_11) ?_
        refine JL.cons rfl (op_move (ltB rfl) (.tmp rfl)) ?_
        replace hx := lt1_inv hx
        obtain ⟨v_12, hv_v_12, hx⟩ := hx
        refine JL.cons rfl (op_maxU (ltB rfl) (.tmp rfl) (.tmp rfl) hv_v_12) ?_
        replace hx := bnd_inv hx
        obtain ⟨i_13, hv_i_13, hx⟩ := hx
        refine JL.cons rfl (op_indexAddrIF (ltB rfl) tr25 (.tmp rfl) (.tmp rfl) hv_i_13) ?_
        refine JL.pre (Imp.sub (ρ' := [(2, .one (.val (PTR gb_3 0))), (4, .one (.val (PTR gb_5 0))), (7, .one (.val (A (rV 16 (rU UInt64)) b_2))), (8, .one (.val (S (rI .i64) x_7))), (17, .one (.val (S (rU UInt64) v_12))), (18, .one (.val (PTR gb_3 (0 + i_13.1 * 1))))]) (.cons rfl (.cons rfl (.cons rfl (.cons rfl (.cons rfl (.cons rfl .nil))))))) ?_
        refine JL.at ⟨[(2, .one (.val (PTR gb_3 0))), (4, .one (.val (PTR gb_5 0))), (7, .one (.val (A (rV 16 (rU UInt64)) b_2))), (8, .one (.val (S (rI .i64) x_7))), (17, .one (.val (S (rU UInt64) v_12))), (18, .one (.val (PTR gb_3 (0 + i_13.1 * 1))))], [cvar gb_3 (rV 16 (rU UInt64)) a_6, cvar gb_5 (rV 16 (rU UInt64)) (Vector.replicate 16 (0 : UInt64))], []⟩ ?_
        replace hx := lt1_inv hx
        obtain ⟨a_14, hv_a_14, hx⟩ := hx
        refine JL.cons rfl (op_storeS (j := 0) tS23 (.tmp rfl) (.tmp rfl) rfl rfl (Upd.at (Comp.self (rV 16 (rU UInt64)) a_6) i_13.2 rfl (Upd.self (rV 16 (rU UInt64)) a_6 _)).R hv_a_14) ?_
        refine JL.pre (Imp.sub (ρ' := [(2, .one (.val (PTR gb_3 0))), (4, .one (.val (PTR gb_5 0))), (7, .one (.val (A (rV 16 (rU UInt64)) b_2))), (8, .one (.val (S (rI .i64) x_7)))]) (.cons rfl (.cons rfl (.cons rfl (.cons rfl .nil))))) ?_
        refine JL.at ⟨[(2, .one (.val (PTR gb_3 0))), (4, .one (.val (PTR gb_5 0))), (7, .one (.val (A (rV 16 (rU UInt64)) b_2))), (8, .one (.val (S (rI .i64) x_7)))], [cvar gb_3 (rV 16 (rU UInt64)) a_14, cvar gb_5 (rV 16 (rU UInt64)) (Vector.replicate 16 (0 : UInt64))], []⟩ ?_
        refine JL.nil ?_
        refine JQ.outNB ?_
        refine JQ.then ?_
        refine JC.region ?_
        replace hx := lt1_inv hx
        obtain ⟨v_15, hv_v_15, hx⟩ := hx
        refine JL.cons rfl (op_arI (ltB rfl) (.tmp rfl) .cI (congrArg some hv_v_15)) ?_
        refine JL.cons rfl (op_move (ltB rfl) (.tmp rfl)) ?_
        refine JL.nil ?_
        replace hx := Option.some.inj hx
        first | subst hx | clear hx
        exact JQ.next () rfl (Imp.norm (js := [0, 0]) rfl (.cons rfl (.cons rfl (.cons rfl (.cons rfl .nil)))))
      · refine JC.condF (.tmp rfl) hc3 ?_
        refine JC.exit ?_
        refine JQ.outX ?_
        replace hx := Option.some.inj hx
        first | subst hx | clear hx
        have ht := hr _ rfl
        have hq2 := congrArg some ht
        clear hr ht
        refine JQ.outX ?_
        refine JQ.here ?_
        replace hq2 := Option.some.inj hq2
        first | subst hq2 | clear hq2
        exact JQ.join () (Imp.norm (js := [0, 0]) rfl (.cons rfl (.cons rfl .nil)))

theorem sim_ref09_Join (k : Nat) (a_1 : (Vector UInt64 16)) (b_2 : (Vector UInt64 16)) (r : (Vector UInt64 16)) (hm : ref09_Join k a_1 b_2 = some r) : Sim Try.prog 16 [A (rV 16 (rU UInt64)) a_1, A (rV 16 (rU UInt64)) b_2] [] (γ := Unit) (fun q => []) (fun q => .one (.val (A (rV 16 (rU UInt64)) r))) := by
  unfold ref09_Join at hm
  refine Sim.of Try.func16 rfl rfl (Nat.le_of_ble_eq_true rfl) (fun e0 w0 => ?_)
  refine JC.at ⟨[(0, .one (.val (A (rV 16 (rU UInt64)) a_1))), (1, .one (.val (A (rV 16 (rU UInt64)) b_2)))], [], []⟩ ?_
  refine JC.seq ?_
  refine JC.region ?_
  refine JL.consX rfl (op_boxA (ltB rfl) (.tmp rfl)) (fun q => ?_)
  obtain ⟨gb_3, hqq⟩ : ∃ z, z = q := ⟨_, rfl⟩
  subst hqq
  refine JL.pre (Imp.sub (ρ' := [(1, .one (.val (A (rV 16 (rU UInt64)) b_2))), (2, .one (.val (PTR gb_3 0)))]) (.cons rfl (.cons rfl .nil))) ?_
  refine JL.at ⟨[(1, .one (.val (A (rV 16 (rU UInt64)) b_2))), (2, .one (.val (PTR gb_3 0)))], [cvar gb_3 (rV 16 (rU UInt64)) a_1], []⟩ ?_
  refine JL.consX rfl (op_boxA (ltB rfl) (.tmp rfl)) (fun q => ?_)
  obtain ⟨gb_4, hqq⟩ : ∃ z, z = q := ⟨_, rfl⟩
  subst hqq
  refine JL.pre (Imp.sub (ρ' := [(2, .one (.val (PTR gb_3 0))), (3, .one (.val (PTR gb_4 0)))]) (.cons rfl (.cons rfl .nil))) ?_
  refine JL.at ⟨[(2, .one (.val (PTR gb_3 0))), (3, .one (.val (PTR gb_4 0)))], [cvar gb_3 (rV 16 (rU UInt64)) a_1, cvar gb_4 (rV 16 (rU UInt64)) b_2], []⟩ ?_
  refine JL.consX rfl (op_alloc (ltB rfl) tZ25 zr25) (fun q => ?_)
  obtain ⟨gb_5, hqq⟩ : ∃ z, z = q := ⟨_, rfl⟩
  subst hqq
  refine JL.pre (Imp.sub (ρ' := [(2, .one (.val (PTR gb_3 0))), (3, .one (.val (PTR gb_4 0))), (4, .one (.val (PTR gb_5 0)))]) (.cons rfl (.cons rfl (.cons rfl .nil)))) ?_
  refine JL.at ⟨[(2, .one (.val (PTR gb_3 0))), (3, .one (.val (PTR gb_4 0))), (4, .one (.val (PTR gb_5 0)))], [cvar gb_3 (rV 16 (rU UInt64)) a_1, cvar gb_4 (rV 16 (rU UInt64)) b_2, cvar gb_5 (rV 16 (rU UInt64)) (Vector.replicate 16 (0 : UInt64))], []⟩ ?_
  refine JL.nil ?_
  refine JQ.then ?_
  replace hm := bnd_inv hm
  obtain ⟨a_20, hx1, hq1⟩ := hm
  refine JC.seqJ (γ := Unit) (stj := fun q => ⟨[(2, .one (.val (PTR gb_3 0))), (4, .one (.val (PTR gb_5 0)))], [cvar gb_3 (rV 16 (rU UInt64)) a_20, cvar gb_5 (rV 16 (rU UInt64)) (Vector.replicate 16 (0 : UInt64))], []⟩) (fun q => ?_) ?_
  · obtain _ := q
    refine JC.at ⟨[(2, .one (.val (PTR gb_3 0))), (4, .one (.val (PTR gb_5 0)))], [cvar gb_3 (rV 16 (rU UInt64)) a_20, cvar gb_5 (rV 16 (rU UInt64)) (Vector.replicate 16 (0 : UInt64))], []⟩ ?_
    refine JC.seq ?_
    refine JC.region ?_
    refine JL.cons rfl (op_loadA (j := 0) (ltB rfl) tA25 (.tmp rfl) rfl (Comp.self (rV 16 (rU UInt64)) a_20) rfl) ?_
    refine JL.cons rfl (op_storeA (j := 1) tA25 (.tmp rfl) (.tmp rfl) rfl (UpdR.self (by rfl)) rfl) ?_
    refine JL.pre (Imp.norm (ρ' := [(4, .one (.val (PTR gb_5 0)))]) (js := [1]) rfl (.cons rfl .nil)) ?_
    refine JL.at ⟨[(4, .one (.val (PTR gb_5 0)))], [cvar gb_5 (rV 16 (rU UInt64)) a_20], []⟩ ?_
    refine JL.nil ?_
    refine JQ.then ?_
    refine JC.ret ?_
    replace hq1 := Option.some.inj hq1
    subst hq1
    exact JQ.done (js := []) (ss := [.val (A (rV 16 (rU UInt64)) a_20)]) () (.inl rfl) (.nil rfl) rfl (.cons (.cellA (j := 0) tA25 rfl rfl) .nil) rfl rfl rfl
  · refine JC.seq ?_
    refine JC.region ?_
    refine JL.cons rfl (op_assign (ltB rfl) .cI) ?_
    refine JL.nil ?_
    refine JQ.then ?_
    refine JC.block ?_
    refine JC.pre ?_ (JC.loop (γ := Unit) (stf := fun s q => ⟨[(2, .one (.val (PTR gb_3 0))), (3, .one (.val (PTR gb_4 0))), (4, .one (.val (PTR gb_5 0))), (5, .one (.val (S (rI .i64) s.2)))], [cvar gb_3 (rV 16 (rU UInt64)) s.1, cvar gb_4 (rV 16 (rU UInt64)) b_2, cvar gb_5 (rV 16 (rU UInt64)) (Vector.replicate 16 (0 : UInt64))], []⟩) (q := ()) hx1 ?_)
    · exact (Imp.norm (js := [0, 0, 0]) rfl (.cons rfl (.cons rfl (.cons rfl (.cons rfl .nil)))))
    · intro s q x hx hr
      obtain ⟨a_6, i_7⟩ := s
      obtain _ := q
      change ref09_Join.b1 k b_2 a_6 i_7 = some x at hx
      unfold ref09_Join.b1 at hx
      refine JC.at ⟨[(2, .one (.val (PTR gb_3 0))), (3, .one (.val (PTR gb_4 0))), (4, .one (.val (PTR gb_5 0))), (5, .one (.val (S (rI .i64) i_7)))], [cvar gb_3 (rV 16 (rU UInt64)) a_6, cvar gb_4 (rV 16 (rU UInt64)) b_2, cvar gb_5 (rV 16 (rU UInt64)) (Vector.replicate 16 (0 : UInt64))], []⟩ ?_
      refine JC.seq ?_
      refine JC.seq ?_
      refine JC.region ?_
      refine JL.cons rfl (op_move (ltB rfl) (.tmp rfl)) ?_
      replace hx := lt1_inv hx
      obtain ⟨v_8, hv_v_8, hx⟩ := hx
      refine JL.cons rfl (op_cmpI (ltB rfl) (.tmp rfl) .cI (congrArg some hv_v_8)) ?_
      refine JL.nil ?_
      refine JQ.then ?_
      replace hx := iteB_inv hx
      rcases hx with ⟨hc3, hx⟩ | ⟨hc3, hx⟩
      · refine JC.condT (.tmp rfl) hc3 ?_
        refine JC.skip ?_
        refine JQ.then ?_
        replace hx := bnd_inv hx
        obtain ⟨a_18, hx4, hq4⟩ := hx
        refine JC.seqJ (γ := Unit) (stj := fun q => ⟨[(2, .one (.val (PTR gb_3 0))), (3, .one (.val (PTR gb_4 0))), (4, .one (.val (PTR gb_5 0))), (5, .one (.val (S (rI .i64) i_7)))], [cvar gb_3 (rV 16 (rU UInt64)) a_18, cvar gb_4 (rV 16 (rU UInt64)) b_2, cvar gb_5 (rV 16 (rU UInt64)) (Vector.replicate 16 (0 : UInt64))], []⟩) (fun q => ?_) ?_
        · obtain _ := q
          refine JC.at ⟨[(2, .one (.val (PTR gb_3 0))), (3, .one (.val (PTR gb_4 0))), (4, .one (.val (PTR gb_5 0))), (5, .one (.val (S (rI .i64) i_7)))], [cvar gb_3 (rV 16 (rU UInt64)) a_18, cvar gb_4 (rV 16 (rU UInt64)) b_2, cvar gb_5 (rV 16 (rU UInt64)) (Vector.replicate 16 (0 : UInt64))], []⟩ ?_
          refine JC.region ?_
          refine JL.cons rfl (op_move (ltB rfl) (.tmp rfl)) ?_
          replace hq4 := lt1_inv hq4
          obtain ⟨v_19, hv_v_19, hq4⟩ := hq4
          refine JL.cons rfl (op_arI (ltB rfl) (.tmp rfl) .cI (congrArg some hv_v_19)) ?_
          refine JL.cons rfl (op_assign (ltB rfl) (.tmp rfl)) ?_
          refine JL.nil ?_
          replace hq4 := Option.some.inj hq4
          first | subst hq4 | clear hq4
          exact JQ.next () rfl (Imp.norm (js := [0, 0, 0]) rfl (.cons rfl (.cons rfl (.cons rfl (.cons rfl .nil)))))
        · refine JC.block ?_
          refine JC.seq ?_
          replace hx4 := bnd_inv hx4
          obtain ⟨i_9, hv_i_9, hx4⟩ := hx4
          replace hx4 := lt1_inv hx4
          obtain ⟨v_10, hv_v_10, hx4⟩ := hx4
          replace hx4 := bnd_inv hx4
          obtain ⟨i_11, hv_i_11, hx4⟩ := hx4
          replace hx4 := lt1_inv hx4
          obtain ⟨v_12, hv_v_12, hx4⟩ := hx4
          replace hx4 := lt1_inv hx4
          obtain ⟨v_13, hv_v_13, hx4⟩ := hx4
          refine JC.anyE (kl := []) (kk := 0) (base := [(2, .one (.val (PTR gb_3 0))), (3, .one (.val (PTR gb_4 0))), (4, .one (.val (PTR gb_5 0))), (5, .one (.val (S (rI .i64) i_7)))])
              (fs := fun γ => [⟨some 10, .one (.val (S (rI .i64) i_7))⟩, ⟨some 11, .one (.val (PTR gb_4 (0 + i_9.1 * 1)))⟩, ⟨some 12, .one (.val (S (rU UInt64) v_10))⟩, ⟨some 13, .one (.val (S (rI .i64) i_7))⟩, ⟨some 14, .one (.val (PTR gb_3 (0 + i_11.1 * 1)))⟩, ⟨some 15, .one (.val (S (rU UInt64) v_12))⟩, ⟨some 16, .one (.val (S rB v_13))⟩])
              (rs := fun γ => [⟨cvar gb_3 (rV 16 (rU UInt64)) a_6, none, none, [5]⟩, ⟨cvar gb_4 (rV 16 (rU UInt64)) b_2, none, none, [2]⟩, ⟨cvar gb_5 (rV 16 (rU UInt64)) (Vector.replicate 16 (0 : UInt64)), none, none, []⟩])
              (ds := [10, 11, 12, 13, 14, 15, 16]) (bs := [2, 3, 4, 5]) (afts := [[], [], [], [], [], [], []]) (js := [0, 0, 0]) mixed (.cons rfl (.cons rfl (.cons rfl (.cons rfl .nil)))) (fun _ => rfl)
              (by
      refine DSteps.cons (j := 1) rfl (fun _ => rfl) (.run (fun γ ρ B hb hd => ⟨.none, OpStep.at ⟨ρ, B, _⟩ (setO ⟨ρ, B, _⟩ (some 10) (.one (.val (S (rI .i64) i_7)))) (op_move (ltB rfl) (.tmp (hb 5 _ rfl)))⟩)) ?_
      refine DSteps.cons (j := 2) rfl (fun _ => rfl) (.run (fun γ ρ B hb hd => ⟨.none, OpStep.at ⟨ρ, B, _⟩ (setO ⟨ρ, B, _⟩ (some 11) (.one (.val (PTR gb_4 (0 + i_9.1 * 1))))) (op_indexAddrIF (ltB rfl) tr25 (.tmp (hb 3 _ rfl)) (.tmp (hdl hd 0 10 rfl (by decide +kernel))) hv_i_9)⟩)) ?_
      refine DSteps.cons (j := 3) rfl (fun _ => rfl) (.run (fun γ ρ B hb hd => ⟨.none, OpStep.at ⟨ρ, (cvar gb_4 (rV 16 (rU UInt64)) b_2) :: B, _⟩ (setO ⟨ρ, (cvar gb_4 (rV 16 (rU UInt64)) b_2) :: B, _⟩ (some 12) (.one (.val (S (rU UInt64) v_10)))) (op_loadS (j := 0) (ltB rfl) tS23 (.tmp (hdl hd 1 11 rfl (by decide +kernel))) rfl (Comp.at (Comp.self (rV 16 (rU UInt64)) b_2) i_9.2 rfl) rfl hv_v_10)⟩)) ?_
      refine DSteps.cons (j := 4) rfl (fun _ => rfl) (.run (fun γ ρ B hb hd => ⟨.none, OpStep.at ⟨ρ, B, _⟩ (setO ⟨ρ, B, _⟩ (some 13) (.one (.val (S (rI .i64) i_7)))) (op_move (ltB rfl) (.tmp (hb 5 _ rfl)))⟩)) ?_
      refine DSteps.cons (j := 5) rfl (fun _ => rfl) (.run (fun γ ρ B hb hd => ⟨.none, OpStep.at ⟨ρ, B, _⟩ (setO ⟨ρ, B, _⟩ (some 14) (.one (.val (PTR gb_3 (0 + i_11.1 * 1))))) (op_indexAddrIF (ltB rfl) tr25 (.tmp (hb 2 _ rfl)) (.tmp (hdl hd 3 13 rfl (by decide +kernel))) hv_i_11)⟩)) ?_
      refine DSteps.cons (j := 6) rfl (fun _ => rfl) (.run (fun γ ρ B hb hd => ⟨.none, OpStep.at ⟨ρ, (cvar gb_3 (rV 16 (rU UInt64)) a_6) :: B, _⟩ (setO ⟨ρ, (cvar gb_3 (rV 16 (rU UInt64)) a_6) :: B, _⟩ (some 15) (.one (.val (S (rU UInt64) v_12)))) (op_loadS (j := 0) (ltB rfl) tS23 (.tmp (hdl hd 4 14 rfl (by decide +kernel))) rfl (Comp.at (Comp.self (rV 16 (rU UInt64)) a_6) i_11.2 rfl) rfl hv_v_12)⟩)) ?_
      refine DSteps.cons (j := 7) rfl (fun _ => rfl) (.run (fun γ ρ B hb hd => ⟨.none, OpStep.at ⟨ρ, B, _⟩ (setO ⟨ρ, B, _⟩ (some 16) (.one (.val (S rB v_13)))) (op_cmpU (ltB rfl) (.tmp (hdl hd 2 12 rfl (by decide +kernel))) (.tmp (hdl hd 5 15 rfl (by decide +kernel))) (congrArg some hv_v_13))⟩)) ?_
      exact DSteps.nil)
              (by decide +kernel) (fun _ => rfl) rfl (fun _ => rfl) (fun _ => rfl) rfl (by decide) (by decide) (by decide +kernel) (fun _ d h => by cases h)
              (ρ' := fun γ => [(2, .one (.val (PTR gb_3 0))), (3, .one (.val (PTR gb_4 0))), (4, .one (.val (PTR gb_5 0))), (5, .one (.val (S (rI .i64) i_7))), (16, .one (.val (S rB v_13)))])
              (X' := fun γ => [cvar gb_3 (rV 16 (rU UInt64)) a_6, cvar gb_4 (rV 16 (rU UInt64)) b_2, cvar gb_5 (rV 16 (rU UInt64)) (Vector.replicate 16 (0 : UInt64))])
              (fun γ ρ hb hd => (.cons (hb 2 _ rfl (by decide)) (.cons (hb 3 _ rfl (by decide)) (.cons (hb 4 _ rfl (by decide)) (.cons (hb 5 _ rfl (by decide)) (.cons (hdq hd 6 16 rfl) .nil)))))) (fun _ => rfl) (fun γ => ?_)
          refine JQ.at ⟨[(2, .one (.val (PTR gb_3 0))), (3, .one (.val (PTR gb_4 0))), (4, .one (.val (PTR gb_5 0))), (5, .one (.val (S (rI .i64) i_7))), (16, .one (.val (S rB v_13)))], [cvar gb_3 (rV 16 (rU UInt64)) a_6, cvar gb_4 (rV 16 (rU UInt64)) b_2, cvar gb_5 (rV 16 (rU UInt64)) (Vector.replicate 16 (0 : UInt64))], []⟩ ?_
          refine JQ.then ?_
          replace hx4 := iteB_inv hx4
          rcases hx4 with ⟨hc5, hx4⟩ | ⟨hc5, hx4⟩
          · refine JC.condT (.tmp rfl) hc5 ?_
            refine JC.region ?_
            refine JL.cons rfl (op_move (ltB rfl) (.tmp rfl)) ?_
            refine JL.cons rfl (op_move (ltB rfl) (.tmp rfl)) ?_
            replace hx4 := bnd_inv hx4
            obtain ⟨i_14, hv_i_14, hx4⟩ := hx4
            refine JL.cons rfl (op_indexAddrIF (ltB rfl) tr25 (.tmp rfl) (.tmp rfl) hv_i_14) ?_
            replace hx4 := lt1_inv hx4
            obtain ⟨v_15, hv_v_15, hx4⟩ := hx4
            refine JL.cons rfl (op_loadS (j := 1) (ltB rfl) tS23 (.tmp rfl) rfl (Comp.at (Comp.self (rV 16 (rU UInt64)) b_2) i_14.2 rfl) rfl hv_v_15) ?_
            replace hx4 := bnd_inv hx4
            obtain ⟨i_16, hv_i_16, hx4⟩ := hx4
            refine JL.cons rfl (op_indexAddrIF (ltB rfl) tr25 (.tmp rfl) (.tmp rfl) hv_i_16) ?_
            replace hx4 := lt1_inv hx4
            obtain ⟨a_17, hv_a_17, hx4⟩ := hx4
            refine JL.cons rfl (op_storeS (j := 0) tS23 (.tmp rfl) (.tmp rfl) rfl rfl (Upd.at (Comp.self (rV 16 (rU UInt64)) a_6) i_16.2 rfl (Upd.self (rV 16 (rU UInt64)) a_6 _)).R hv_a_17) ?_
            refine JL.pre (Imp.sub (ρ' := [(2, .one (.val (PTR gb_3 0))), (3, .one (.val (PTR gb_4 0))), (4, .one (.val (PTR gb_5 0))), (5, .one (.val (S (rI .i64) i_7)))]) (.cons rfl (.cons rfl (.cons rfl (.cons rfl .nil))))) ?_
            refine JL.at ⟨[(2, .one (.val (PTR gb_3 0))), (3, .one (.val (PTR gb_4 0))), (4, .one (.val (PTR gb_5 0))), (5, .one (.val (S (rI .i64) i_7)))], [cvar gb_3 (rV 16 (rU UInt64)) a_17, cvar gb_4 (rV 16 (rU UInt64)) b_2, cvar gb_5 (rV 16 (rU UInt64)) (Vector.replicate 16 (0 : UInt64))], []⟩ ?_
            refine JL.nil ?_
            refine JQ.outNB ?_
            replace hx4 := Option.some.inj hx4
            first | subst hx4 | clear hx4
            exact JQ.join () (Imp.norm (js := [0, 0, 0]) rfl (.cons rfl (.cons rfl (.cons rfl (.cons rfl .nil)))))
          · refine JC.condF (.tmp rfl) hc5 ?_
            refine JC.skip ?_
            refine JQ.outNB ?_
            replace hx4 := Option.some.inj hx4
            first | subst hx4 | clear hx4
            exact JQ.join () (Imp.norm (js := [0, 0, 0]) rfl (.cons rfl (.cons rfl (.cons rfl (.cons rfl .nil)))))
      · refine JC.condF (.tmp rfl) hc3 ?_
        refine JC.exit ?_
        refine JQ.outX ?_
        replace hx := Option.some.inj hx
        first | subst hx | clear hx
        have ht := hr _ rfl
        have hq2 := congrArg some ht
        clear hr ht
        refine JQ.outX ?_
        refine JQ.here ?_
        replace hq2 := Option.some.inj hq2
        first | subst hq2 | clear hq2
        exact JQ.join () (Imp.norm (js := [0, 1]) rfl (.cons rfl (.cons rfl .nil)))

theorem sim_cursor_Covers (k : Nat) (a_1 : (Vector UInt64 16)) (b_2 : (Vector UInt64 16)) (r : Bool) (hm : cursor_Covers k a_1 b_2 = some r) : Sim Try.prog 17 [A (rV 16 (rU UInt64)) a_1, A (rV 16 (rU UInt64)) b_2] [] (γ := Unit) (fun q => []) (fun q => .one (.val (S rB r))) := by
  unfold cursor_Covers at hm
  refine Sim.of Try.func17 rfl rfl (Nat.le_of_ble_eq_true rfl) (fun e0 w0 => ?_)
  refine JC.at ⟨[(0, .one (.val (A (rV 16 (rU UInt64)) a_1))), (1, .one (.val (A (rV 16 (rU UInt64)) b_2)))], [], []⟩ ?_
  refine JC.seq ?_
  refine JC.region ?_
  refine JL.consX rfl (op_boxA (ltB rfl) (.tmp rfl)) (fun q => ?_)
  obtain ⟨gb_3, hqq⟩ : ∃ z, z = q := ⟨_, rfl⟩
  subst hqq
  refine JL.pre (Imp.sub (ρ' := [(1, .one (.val (A (rV 16 (rU UInt64)) b_2))), (2, .one (.val (PTR gb_3 0)))]) (.cons rfl (.cons rfl .nil))) ?_
  refine JL.at ⟨[(1, .one (.val (A (rV 16 (rU UInt64)) b_2))), (2, .one (.val (PTR gb_3 0)))], [cvar gb_3 (rV 16 (rU UInt64)) a_1], []⟩ ?_
  refine JL.consX rfl (op_boxA (ltB rfl) (.tmp rfl)) (fun q => ?_)
  obtain ⟨gb_4, hqq⟩ : ∃ z, z = q := ⟨_, rfl⟩
  subst hqq
  refine JL.pre (Imp.sub (ρ' := [(2, .one (.val (PTR gb_3 0))), (3, .one (.val (PTR gb_4 0)))]) (.cons rfl (.cons rfl .nil))) ?_
  refine JL.at ⟨[(2, .one (.val (PTR gb_3 0))), (3, .one (.val (PTR gb_4 0)))], [cvar gb_3 (rV 16 (rU UInt64)) a_1, cvar gb_4 (rV 16 (rU UInt64)) b_2], []⟩ ?_
  refine JL.cons rfl (op_assign (ltB rfl) .cB) ?_
  refine JL.nil ?_
  refine JQ.then ?_
  refine JC.seq ?_
  replace hm := bnd_inv hm
  obtain ⟨v_5, hv_v_5, hm⟩ := hm
  replace hm := lt1_inv hm
  obtain ⟨v_6, hv_v_6, hm⟩ := hm
  refine JC.anyE (kl := []) (kk := 0) (base := [(2, .one (.val (PTR gb_3 0))), (3, .one (.val (PTR gb_4 0)))])
      (fs := fun γ => [⟨some 5, .one (.val (A (rV 16 (rU UInt64)) a_1))⟩, ⟨some 6, .one (.val (A (rV 16 (rU UInt64)) b_2))⟩, ⟨some 7, .one (.val (A (rV 16 (rU UInt64)) v_5))⟩, ⟨some 8, .one (.val (A (rV 16 (rU UInt64)) a_1))⟩, ⟨some 9, .one (.val (S rB v_6))⟩, ⟨some 4, .one (.val (S rB v_6))⟩])
      (rs := fun γ => [⟨cvar gb_3 (rV 16 (rU UInt64)) a_1, none, none, [0, 3]⟩, ⟨cvar gb_4 (rV 16 (rU UInt64)) b_2, none, none, [1]⟩])
      (ds := [5, 6, 7, 8, 9, 4]) (bs := [2, 3]) (afts := [[], [], [], [], [], []]) (js := [0, 0]) mixed (.cons rfl (.cons rfl .nil)) (fun _ => rfl)
      (by
      refine DSteps.cons (j := 1) rfl (fun _ => rfl) (.run (fun γ ρ B hb hd => ⟨.none, OpStep.at ⟨ρ, (cvar gb_3 (rV 16 (rU UInt64)) a_1) :: B, _⟩ (setO ⟨ρ, (cvar gb_3 (rV 16 (rU UInt64)) a_1) :: B, _⟩ (some 5) (.one (.val (A (rV 16 (rU UInt64)) a_1)))) (op_loadA (j := 0) (ltB rfl) tA25 (.tmp (hb 2 _ rfl)) rfl (Comp.self (rV 16 (rU UInt64)) a_1) rfl)⟩)) ?_
      refine DSteps.cons (j := 2) rfl (fun _ => rfl) (.run (fun γ ρ B hb hd => ⟨.none, OpStep.at ⟨ρ, (cvar gb_4 (rV 16 (rU UInt64)) b_2) :: B, _⟩ (setO ⟨ρ, (cvar gb_4 (rV 16 (rU UInt64)) b_2) :: B, _⟩ (some 6) (.one (.val (A (rV 16 (rU UInt64)) b_2)))) (op_loadA (j := 0) (ltB rfl) tA25 (.tmp (hb 3 _ rfl)) rfl (Comp.self (rV 16 (rU UInt64)) b_2) rfl)⟩)) ?_
      refine DSteps.cons (j := 3) rfl (fun _ => rfl) (.run (fun γ ρ B hb hd => ⟨.none, OpStep.at ⟨ρ, B, _⟩ (setO ⟨ρ, B, _⟩ (some 7) (.one (.val (A (rV 16 (rU UInt64)) v_5)))) ((op_call (js := []) (ltD rfl) cl15 (sim_cursor_Join k a_1 b_2 v_5 hv_v_5) .func (.cons (.tmp (hdl hd 0 5 rfl (by decide +kernel))) (.cons (.tmp (hdl hd 1 6 rfl (by decide +kernel))) .nil)) rfl).post (fun _ => Imp.refl))⟩)) ?_
      refine DSteps.cons (j := 4) rfl (fun _ => rfl) (.run (fun γ ρ B hb hd => ⟨.none, OpStep.at ⟨ρ, (cvar gb_3 (rV 16 (rU UInt64)) a_1) :: B, _⟩ (setO ⟨ρ, (cvar gb_3 (rV 16 (rU UInt64)) a_1) :: B, _⟩ (some 8) (.one (.val (A (rV 16 (rU UInt64)) a_1)))) (op_loadA (j := 0) (ltB rfl) tA25 (.tmp (hb 2 _ rfl)) rfl (Comp.self (rV 16 (rU UInt64)) a_1) rfl)⟩)) ?_
      refine DSteps.cons (j := 5) rfl (fun _ => rfl) (.run (fun γ ρ B hb hd => ⟨.none, OpStep.at ⟨ρ, B, _⟩ (setO ⟨ρ, B, _⟩ (some 9) (.one (.val (S rB v_6)))) (op_eqA (ltB rfl) qa25 (by decide) ng25 (.tmp (hdl hd 2 7 rfl (by decide +kernel))) (.tmp (hdl hd 3 8 rfl (by decide +kernel))) hv_v_6)⟩)) ?_
      refine DSteps.cons (j := 6) rfl (fun _ => rfl) (.run (fun γ ρ B hb hd => ⟨.none, OpStep.at ⟨ρ, B, _⟩ (setO ⟨ρ, B, _⟩ (some 4) (.one (.val (S rB v_6)))) (op_assign (ltB rfl) (.tmp (hdl hd 4 9 rfl (by decide +kernel))))⟩)) ?_
      exact DSteps.nil)
      (by decide +kernel) (fun _ => rfl) rfl (fun _ => rfl) (fun _ => rfl) rfl (by decide) (by decide) (by decide +kernel) (fun _ d h => by cases h)
      (ρ' := fun γ => [(4, .one (.val (S rB v_6)))])
      (X' := fun γ => [cvar gb_3 (rV 16 (rU UInt64)) a_1, cvar gb_4 (rV 16 (rU UInt64)) b_2])
      (fun γ ρ hb hd => (.cons (hdq hd 5 4 rfl) .nil)) (fun _ => rfl) (fun γ => ?_)
  refine JQ.at ⟨[(4, .one (.val (S rB v_6)))], [cvar gb_3 (rV 16 (rU UInt64)) a_1, cvar gb_4 (rV 16 (rU UInt64)) b_2], []⟩ ?_
  refine JQ.then ?_
  refine JC.ret ?_
  replace hm := Option.some.inj hm
  subst hm
  exact JQ.done (js := []) (ss := [.val (S rB v_6)]) () (.inl rfl) (.nil rfl) rfl (.cons (.tmp rfl) .nil) rfl rfl rfl

theorem sim_ref10_Covers (k : Nat) (a_1 : (Vector UInt64 16)) (b_2 : (Vector UInt64 16)) (r : Bool) (hm : ref10_Covers k a_1 b_2 = some r) : Sim Try.prog 18 [A (rV 16 (rU UInt64)) a_1, A (rV 16 (rU UInt64)) b_2] [] (γ := Unit) (fun q => []) (fun q => .one (.val (S rB r))) := by
  unfold ref10_Covers at hm
  refine Sim.of Try.func18 rfl rfl (Nat.le_of_ble_eq_true rfl) (fun e0 w0 => ?_)
  refine JC.at ⟨[(0, .one (.val (A (rV 16 (rU UInt64)) a_1))), (1, .one (.val (A (rV 16 (rU UInt64)) b_2)))], [], []⟩ ?_
  refine JC.seq ?_
  refine JC.region ?_
  refine JL.consX rfl (op_boxA (ltB rfl) (.tmp rfl)) (fun q => ?_)
  obtain ⟨gb_3, hqq⟩ : ∃ z, z = q := ⟨_, rfl⟩
  subst hqq
  refine JL.pre (Imp.sub (ρ' := [(1, .one (.val (A (rV 16 (rU UInt64)) b_2))), (2, .one (.val (PTR gb_3 0)))]) (.cons rfl (.cons rfl .nil))) ?_
  refine JL.at ⟨[(1, .one (.val (A (rV 16 (rU UInt64)) b_2))), (2, .one (.val (PTR gb_3 0)))], [cvar gb_3 (rV 16 (rU UInt64)) a_1], []⟩ ?_
  refine JL.consX rfl (op_boxA (ltB rfl) (.tmp rfl)) (fun q => ?_)
  obtain ⟨gb_4, hqq⟩ : ∃ z, z = q := ⟨_, rfl⟩
  subst hqq
  refine JL.pre (Imp.sub (ρ' := [(2, .one (.val (PTR gb_3 0))), (3, .one (.val (PTR gb_4 0)))]) (.cons rfl (.cons rfl .nil))) ?_
  refine JL.at ⟨[(2, .one (.val (PTR gb_3 0))), (3, .one (.val (PTR gb_4 0)))], [cvar gb_3 (rV 16 (rU UInt64)) a_1, cvar gb_4 (rV 16 (rU UInt64)) b_2], []⟩ ?_
  refine JL.cons rfl (op_assign (ltB rfl) .cB) ?_
  refine JL.nil ?_
  refine JQ.then ?_
  replace hm := bnd_inv hm
  obtain ⟨tv1, hx1, hq1⟩ := hm
  refine JC.seqK (α := Unit) (γ := Unit) (stj := fun v q => ⟨[], [], []⟩) (p := fun v => tv1 = (.inl v)) (fun v q hv => ?_) ?_
  · subst hv
    skip
    obtain _ := q
    dsimp only at hq1
    refine JC.at ⟨[], [], []⟩ ?_
    refine JC.seq ?_
    refine JC.region ?_
    refine JL.cons rfl (op_assign (ltB rfl) .cB) ?_
    refine JL.nil ?_
    refine JQ.then ?_
    refine JC.ret ?_
    replace hq1 := Option.some.inj hq1
    subst hq1
    exact JQ.done (js := []) (ss := [.val (S rB true)]) () (.inl rfl) (.nil rfl) rfl (.cons (.tmp rfl) .nil) rfl rfl rfl
  · refine JC.seq ?_
    refine JC.region ?_
    refine JL.cons rfl (op_assign (ltB rfl) .cI) ?_
    refine JL.nil ?_
    refine JQ.then ?_
    refine JC.block ?_
    replace hx1 := bnd_inv hx1
    obtain ⟨tv2, hL2, hq2⟩ := hx1
    refine JC.pre ?_ (JC.loop (γ := Unit) (stf := fun s q => ⟨[(2, .one (.val (PTR gb_3 0))), (3, .one (.val (PTR gb_4 0))), (5, .one (.val (S (rI .i64) s)))], [cvar gb_3 (rV 16 (rU UInt64)) a_1, cvar gb_4 (rV 16 (rU UInt64)) b_2], []⟩) (q := ()) hL2 ?_)
    · exact (Imp.norm (js := [0, 0]) rfl (.cons rfl (.cons rfl (.cons rfl .nil))))
    · intro i_5 q x hx hr
      obtain _ := q
      change ref10_Covers.b1 k a_1 b_2 i_5 = some x at hx
      unfold ref10_Covers.b1 at hx
      refine JC.at ⟨[(2, .one (.val (PTR gb_3 0))), (3, .one (.val (PTR gb_4 0))), (5, .one (.val (S (rI .i64) i_5)))], [cvar gb_3 (rV 16 (rU UInt64)) a_1, cvar gb_4 (rV 16 (rU UInt64)) b_2], []⟩ ?_
      refine JC.seq ?_
      refine JC.seq ?_
      refine JC.region ?_
      refine JL.cons rfl (op_move (ltB rfl) (.tmp rfl)) ?_
      replace hx := lt1_inv hx
      obtain ⟨v_6, hv_v_6, hx⟩ := hx
      refine JL.cons rfl (op_cmpI (ltB rfl) (.tmp rfl) .cI (congrArg some hv_v_6)) ?_
      refine JL.nil ?_
      refine JQ.then ?_
      replace hx := iteB_inv hx
      rcases hx with ⟨hc3, hx⟩ | ⟨hc3, hx⟩
      · refine JC.condT (.tmp rfl) hc3 ?_
        refine JC.skip ?_
        refine JQ.then ?_
        refine JC.seq ?_
        refine JC.block ?_
        refine JC.seq ?_
        replace hx := bnd_inv hx
        obtain ⟨i_7, hv_i_7, hx⟩ := hx
        replace hx := lt1_inv hx
        obtain ⟨v_8, hv_v_8, hx⟩ := hx
        replace hx := bnd_inv hx
        obtain ⟨i_9, hv_i_9, hx⟩ := hx
        replace hx := lt1_inv hx
        obtain ⟨v_10, hv_v_10, hx⟩ := hx
        replace hx := lt1_inv hx
        obtain ⟨v_11, hv_v_11, hx⟩ := hx
        refine JC.anyE (kl := []) (kk := 0) (base := [(2, .one (.val (PTR gb_3 0))), (3, .one (.val (PTR gb_4 0))), (5, .one (.val (S (rI .i64) i_5)))])
            (fs := fun γ => [⟨some 10, .one (.val (S (rI .i64) i_5))⟩, ⟨some 11, .one (.val (PTR gb_3 (0 + i_7.1 * 1)))⟩, ⟨some 12, .one (.val (S (rU UInt64) v_8))⟩, ⟨some 13, .one (.val (S (rI .i64) i_5))⟩, ⟨some 14, .one (.val (PTR gb_4 (0 + i_9.1 * 1)))⟩, ⟨some 15, .one (.val (S (rU UInt64) v_10))⟩, ⟨some 16, .one (.val (S rB v_11))⟩])
            (rs := fun γ => [⟨cvar gb_3 (rV 16 (rU UInt64)) a_1, none, none, [2]⟩, ⟨cvar gb_4 (rV 16 (rU UInt64)) b_2, none, none, [5]⟩])
            (ds := [10, 11, 12, 13, 14, 15, 16]) (bs := [2, 3, 5]) (afts := [[], [], [], [], [], [], []]) (js := [0, 0]) mixed (.cons rfl (.cons rfl (.cons rfl .nil))) (fun _ => rfl)
            (by
      refine DSteps.cons (j := 1) rfl (fun _ => rfl) (.run (fun γ ρ B hb hd => ⟨.none, OpStep.at ⟨ρ, B, _⟩ (setO ⟨ρ, B, _⟩ (some 10) (.one (.val (S (rI .i64) i_5)))) (op_move (ltB rfl) (.tmp (hb 5 _ rfl)))⟩)) ?_
      refine DSteps.cons (j := 2) rfl (fun _ => rfl) (.run (fun γ ρ B hb hd => ⟨.none, OpStep.at ⟨ρ, B, _⟩ (setO ⟨ρ, B, _⟩ (some 11) (.one (.val (PTR gb_3 (0 + i_7.1 * 1))))) (op_indexAddrIF (ltB rfl) tr25 (.tmp (hb 2 _ rfl)) (.tmp (hdl hd 0 10 rfl (by decide +kernel))) hv_i_7)⟩)) ?_
      refine DSteps.cons (j := 3) rfl (fun _ => rfl) (.run (fun γ ρ B hb hd => ⟨.none, OpStep.at ⟨ρ, (cvar gb_3 (rV 16 (rU UInt64)) a_1) :: B, _⟩ (setO ⟨ρ, (cvar gb_3 (rV 16 (rU UInt64)) a_1) :: B, _⟩ (some 12) (.one (.val (S (rU UInt64) v_8)))) (op_loadS (j := 0) (ltB rfl) tS23 (.tmp (hdl hd 1 11 rfl (by decide +kernel))) rfl (Comp.at (Comp.self (rV 16 (rU UInt64)) a_1) i_7.2 rfl) rfl hv_v_8)⟩)) ?_
      refine DSteps.cons (j := 4) rfl (fun _ => rfl) (.run (fun γ ρ B hb hd => ⟨.none, OpStep.at ⟨ρ, B, _⟩ (setO ⟨ρ, B, _⟩ (some 13) (.one (.val (S (rI .i64) i_5)))) (op_move (ltB rfl) (.tmp (hb 5 _ rfl)))⟩)) ?_
      refine DSteps.cons (j := 5) rfl (fun _ => rfl) (.run (fun γ ρ B hb hd => ⟨.none, OpStep.at ⟨ρ, B, _⟩ (setO ⟨ρ, B, _⟩ (some 14) (.one (.val (PTR gb_4 (0 + i_9.1 * 1))))) (op_indexAddrIF (ltB rfl) tr25 (.tmp (hb 3 _ rfl)) (.tmp (hdl hd 3 13 rfl (by decide +kernel))) hv_i_9)⟩)) ?_
      refine DSteps.cons (j := 6) rfl (fun _ => rfl) (.run (fun γ ρ B hb hd => ⟨.none, OpStep.at ⟨ρ, (cvar gb_4 (rV 16 (rU UInt64)) b_2) :: B, _⟩ (setO ⟨ρ, (cvar gb_4 (rV 16 (rU UInt64)) b_2) :: B, _⟩ (some 15) (.one (.val (S (rU UInt64) v_10)))) (op_loadS (j := 0) (ltB rfl) tS23 (.tmp (hdl hd 4 14 rfl (by decide +kernel))) rfl (Comp.at (Comp.self (rV 16 (rU UInt64)) b_2) i_9.2 rfl) rfl hv_v_10)⟩)) ?_
      refine DSteps.cons (j := 7) rfl (fun _ => rfl) (.run (fun γ ρ B hb hd => ⟨.none, OpStep.at ⟨ρ, B, _⟩ (setO ⟨ρ, B, _⟩ (some 16) (.one (.val (S rB v_11)))) (op_cmpU (ltB rfl) (.tmp (hdl hd 2 12 rfl (by decide +kernel))) (.tmp (hdl hd 5 15 rfl (by decide +kernel))) (congrArg some hv_v_11))⟩)) ?_
      exact DSteps.nil)
            (by decide +kernel) (fun _ => rfl) rfl (fun _ => rfl) (fun _ => rfl) rfl (by decide) (by decide) (by decide +kernel) (fun _ d h => by cases h)
            (ρ' := fun γ => [(2, .one (.val (PTR gb_3 0))), (3, .one (.val (PTR gb_4 0))), (5, .one (.val (S (rI .i64) i_5))), (16, .one (.val (S rB v_11)))])
            (X' := fun γ => [cvar gb_3 (rV 16 (rU UInt64)) a_1, cvar gb_4 (rV 16 (rU UInt64)) b_2])
            (fun γ ρ hb hd => (.cons (hb 2 _ rfl (by decide)) (.cons (hb 3 _ rfl (by decide)) (.cons (hb 5 _ rfl (by decide)) (.cons (hdq hd 6 16 rfl) .nil))))) (fun _ => rfl) (fun γ => ?_)
        refine JQ.at ⟨[(2, .one (.val (PTR gb_3 0))), (3, .one (.val (PTR gb_4 0))), (5, .one (.val (S (rI .i64) i_5))), (16, .one (.val (S rB v_11)))], [cvar gb_3 (rV 16 (rU UInt64)) a_1, cvar gb_4 (rV 16 (rU UInt64)) b_2], []⟩ ?_
        refine JQ.then ?_
        replace hx := iteB_inv hx
        rcases hx with ⟨hc4, hx⟩ | ⟨hc4, hx⟩
        · refine JC.condT (.tmp rfl) hc4 ?_
          refine JC.seq ?_
          refine JC.region ?_
          refine JL.cons rfl (op_assign (ltB rfl) .cB) ?_
          refine JL.nil ?_
          refine JQ.then ?_
          refine JC.ret ?_
          refine JQ.outRB ?_
          refine JQ.outR ?_
          replace hx := Option.some.inj hx
          first | subst hx | clear hx
          have ht := hr _ rfl
          clear hr
          first | subst ht | clear ht
          dsimp only at hq2
          refine JQ.outR ?_
          refine JQ.outRB ?_
          replace hq2 := Option.some.inj hq2
          first | subst hq2 | clear hq2
          dsimp only at hq1
          refine JQ.outR ?_
          replace hq1 := Option.some.inj hq1
          subst hq1
          exact JQ.done (js := []) (ss := [.val (S rB false)]) () (.inl rfl) (.nil rfl) rfl (.cons (.tmp rfl) .nil) rfl rfl rfl
        · refine JC.condF (.tmp rfl) hc4 ?_
          refine JC.skip ?_
          refine JQ.outNB ?_
          refine JQ.then ?_
          refine JC.region ?_
          refine JL.cons rfl (op_move (ltB rfl) (.tmp rfl)) ?_
          replace hx := lt1_inv hx
          obtain ⟨v_12, hv_v_12, hx⟩ := hx
          refine JL.cons rfl (op_arI (ltB rfl) (.tmp rfl) .cI (congrArg some hv_v_12)) ?_
          refine JL.cons rfl (op_assign (ltB rfl) (.tmp rfl)) ?_
          refine JL.nil ?_
          replace hx := Option.some.inj hx
          first | subst hx | clear hx
          exact JQ.next () rfl (Imp.norm (js := [0, 0]) rfl (.cons rfl (.cons rfl (.cons rfl .nil))))
      · refine JC.condF (.tmp rfl) hc3 ?_
        refine JC.exit ?_
        refine JQ.outX ?_
        replace hx := Option.some.inj hx
        first | subst hx | clear hx
        have ht := hr _ rfl
        clear hr
        first | subst ht | clear ht
        dsimp only at hq2
        refine JQ.outX ?_
        refine JQ.here ?_
        replace hq2 := Option.some.inj hq2
        first | subst hq2 | clear hq2
        exact JQ.joinK () () rfl (Imp.norm (js := []) rfl .nil)

end Go.Proofs.Ytnhiiabdoichlaa
