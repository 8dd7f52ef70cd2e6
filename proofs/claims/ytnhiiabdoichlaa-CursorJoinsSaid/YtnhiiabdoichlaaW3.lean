/- Walks. -/
import Derived.Test.YtnhiiabdoichlaaT
import Derived.Test.YtnhiiabdoichlaaW1
import Derived.Test.YtnhiiabdoichlaaW2
namespace Go.Proofs.Ytnhiiabdoichlaa
open Go Fw
set_option linter.unusedVariables false
set_option maxRecDepth 100000
set_option maxHeartbeats 4000000

theorem sim_sha_root'2 (k : Nat) (x_1 : UInt64) (gb_2 : Nat) (r : UInt32) (hm : sha_root'2 k x_1 = some r) : Sim Try.prog 55 [CLO 59 [PTR gb_2 0]] [cvar gb_2 (rU UInt64) x_1] (γ := Unit) (fun q => [cvar gb_2 (rU UInt64) x_1]) (fun q => .one (.val (S (rU UInt32) r))) := by
  unfold sha_root'2 at hm
  refine Sim.of Try.func55 rfl rfl (Nat.le_of_ble_eq_true rfl) (fun e0 w0 => ?_)
  refine JC.at ⟨[(0, .one (.val (CLO 59 [PTR gb_2 0])))], [cvar gb_2 (rU UInt64) x_1], []⟩ ?_
  refine JC.seq ?_
  refine JC.region ?_
  refine JL.cons rfl (op_assign (ltB rfl) (HasO.cU (x := (0 : UInt32)) rfl (by decide))) ?_
  refine JL.nil ?_
  refine JQ.then ?_
  refine JC.seq ?_
  refine JC.region ?_
  refine JL.cons rfl (op_assign (ltB rfl) (HasO.cU (x := (0 : UInt64)) rfl (by decide))) ?_
  refine JL.nil ?_
  refine JQ.then ?_
  replace hm := bnd_inv hm
  obtain ⟨x_13, hx1, hq1⟩ := hm
  refine JC.seqJ (γ := Unit) (stj := fun q => ⟨[(3, .one (.val (S (rU UInt64) x_13)))], [cvar gb_2 (rU UInt64) x_1], []⟩) (fun q => ?_) ?_
  · obtain _ := q
    refine JC.at ⟨[(3, .one (.val (S (rU UInt64) x_13)))], [cvar gb_2 (rU UInt64) x_1], []⟩ ?_
    refine JC.seq ?_
    refine JC.region ?_
    refine JL.cons rfl (op_move (ltB rfl) (.tmp rfl)) ?_
    replace hq1 := lt1_inv hq1
    obtain ⟨v_14, hv_v_14, hq1⟩ := hq1
    refine JL.cons rfl (op_convUU (ltB rfl) tu23 tu66 (.tmp rfl) hv_v_14) ?_
    refine JL.cons rfl (op_assign (ltB rfl) (.tmp rfl)) ?_
    refine JL.nil ?_
    refine JQ.then ?_
    refine JC.ret ?_
    replace hq1 := Option.some.inj hq1
    subst hq1
    exact JQ.done (js := [0]) (ss := [.val (S (rU UInt32) v_14)]) () (.inl rfl) (.nil rfl) rfl (.cons (.tmp rfl) .nil) rfl rfl rfl
  · refine JC.seq ?_
    refine JC.region ?_
    refine JL.cons rfl (op_move (ltB rfl) .cI) ?_
    refine JL.nil ?_
    refine JQ.then ?_
    refine JC.block ?_
    refine JC.pre ?_ (JC.loop (γ := Unit) (stf := fun s q => ⟨[(0, .one (.val (CLO 59 [PTR gb_2 0]))), (3, .one (.val (S (rU UInt64) s.1))), (6, .one (.val (S (rI .i64) s.2)))], [cvar gb_2 (rU UInt64) x_1], []⟩) (q := ()) hx1 ?_)
    · exact (Imp.norm (js := [0]) rfl (.cons rfl (.cons rfl (.cons rfl .nil))))
    · intro s q x hx hr
      obtain ⟨x_3, x_4⟩ := s
      obtain _ := q
      change sha_root'2.b1 k x_1 x_3 x_4 = some x at hx
      unfold sha_root'2.b1 at hx
      refine JC.at ⟨[(0, .one (.val (CLO 59 [PTR gb_2 0]))), (3, .one (.val (S (rU UInt64) x_3))), (6, .one (.val (S (rI .i64) x_4)))], [cvar gb_2 (rU UInt64) x_1], []⟩ ?_
      refine JC.seq ?_
      refine JC.region ?_
      replace hx := lt1_inv hx
      obtain ⟨v_5, hv_v_5, hx⟩ := hx
      refine JL.cons rfl (op_cmpI (ltB rfl) (.tmp rfl) .cI (congrArg some hv_v_5)) ?_
      refine JL.nil ?_
      refine JQ.then ?_
      refine JC.seq ?_
      replace hx := iteB_inv hx
      rcases hx with ⟨hc3, hx⟩ | ⟨hc3, hx⟩
      · refine JC.condT (.tmp rfl) hc3 ?_
        refine JC.skip ?_
        refine JQ.then ?_
        replace hx := bnd_inv hx
        obtain ⟨x_11, hx4, hq4⟩ := hx
        refine JC.seqJ (γ := Unit) (stj := fun q => ⟨[(0, .one (.val (CLO 59 [PTR gb_2 0]))), (3, .one (.val (S (rU UInt64) x_11))), (6, .one (.val (S (rI .i64) x_4)))], [cvar gb_2 (rU UInt64) x_1], []⟩) (fun q => ?_) ?_
        · obtain _ := q
          refine JC.at ⟨[(0, .one (.val (CLO 59 [PTR gb_2 0]))), (3, .one (.val (S (rU UInt64) x_11))), (6, .one (.val (S (rI .i64) x_4)))], [cvar gb_2 (rU UInt64) x_1], []⟩ ?_
          refine JC.region ?_
          replace hq4 := lt1_inv hq4
          obtain ⟨v_12, hv_v_12, hq4⟩ := hq4
          refine JL.cons rfl (op_arI (ltB rfl) (.tmp rfl) .cI (congrArg some hv_v_12)) ?_
          refine JL.cons rfl (op_move (ltB rfl) (.tmp rfl)) ?_
          refine JL.nil ?_
          replace hq4 := Option.some.inj hq4
          first | subst hq4 | clear hq4
          exact JQ.next () rfl (Imp.norm (js := [0]) rfl (.cons rfl (.cons rfl (.cons rfl .nil))))
        · refine JC.block ?_
          refine JC.seq ?_
          refine JC.region ?_
          refine JL.cons rfl (op_move (ltB rfl) (.tmp rfl)) ?_
          refine JL.cons rfl (op_assign (ltB rfl) (.tmp rfl)) ?_
          refine JL.nil ?_
          refine JQ.then ?_
          refine JC.seq ?_
          refine JC.region ?_
          refine JL.cons rfl (op_move (ltB rfl) (.tmp rfl)) ?_
          refine JL.cons rfl (op_move (ltB rfl) (.tmp rfl)) ?_
          replace hx4 := lt1_inv hx4
          obtain ⟨v_6, hv_v_6, hx4⟩ := hx4
          refine JL.cons rfl (op_arI (ltB rfl) .cI (.tmp rfl) (congrArg some hv_v_6)) ?_
          refine JL.pre (Imp.sub (ρ' := [(0, .one (.val (CLO 59 [PTR gb_2 0]))), (3, .one (.val (S (rU UInt64) x_3))), (6, .one (.val (S (rI .i64) x_4))), (9, .one (.val (S (rU UInt64) x_3))), (11, .one (.val (S (rI .i64) v_6)))]) (.cons rfl (.cons rfl (.cons rfl (.cons rfl (.cons rfl .nil)))))) ?_
          refine JL.at ⟨[(0, .one (.val (CLO 59 [PTR gb_2 0]))), (3, .one (.val (S (rU UInt64) x_3))), (6, .one (.val (S (rI .i64) x_4))), (9, .one (.val (S (rU UInt64) x_3))), (11, .one (.val (S (rI .i64) v_6)))], [cvar gb_2 (rU UInt64) x_1], []⟩ ?_
          replace hx4 := bnd_inv hx4
          obtain ⟨v_7, hv_v_7, hx4⟩ := hx4
          refine JL.cons rfl (op_shlUI (ltB rfl) (HasO.cU (x := (1 : UInt64)) rfl (by decide)) (.tmp rfl) hv_v_7) ?_
          replace hx4 := lt1_inv hx4
          obtain ⟨v_8, hv_v_8, hx4⟩ := hx4
          refine JL.cons rfl (op_arU (ltB rfl) (.tmp rfl) (.tmp rfl) (congrArg some hv_v_8)) ?_
          refine JL.cons rfl (op_assign (ltB rfl) (.tmp rfl)) ?_
          refine JL.nil ?_
          refine JQ.then ?_
          refine JC.seq ?_
          refine JC.region ?_
          refine JL.cons rfl (op_move (ltB rfl) (.tmp rfl)) ?_
          refine JL.cons rfl (op_move (ltB rfl) (.tmp rfl)) ?_
          replace hx4 := bnd_inv hx4
          obtain ⟨v_9, hv_v_9, hx4⟩ := hx4
          refine JL.consX rfl (op_call (js := [0]) (ltD rfl) cl59 (sim_sha_start_1 k v_8 x_1 gb_2 v_9 hv_v_9) (.tmp rfl) (.cons (.tmp rfl) .nil) rfl) (fun _ => ?_)
          refine JL.pre (Imp.sub (ρ' := [(0, .one (.val (CLO 59 [PTR gb_2 0]))), (3, .one (.val (S (rU UInt64) x_3))), (5, .one (.val (S (rU UInt64) v_8))), (6, .one (.val (S (rI .i64) x_4))), (16, .one (.val (S rB v_9)))]) (.cons rfl (.cons rfl (.cons rfl (.cons rfl (.cons rfl .nil)))))) ?_
          refine JL.at ⟨[(0, .one (.val (CLO 59 [PTR gb_2 0]))), (3, .one (.val (S (rU UInt64) x_3))), (5, .one (.val (S (rU UInt64) v_8))), (6, .one (.val (S (rI .i64) x_4))), (16, .one (.val (S rB v_9)))], [cvar gb_2 (rU UInt64) x_1], []⟩ ?_
          replace hx4 := lt1_inv hx4
          obtain ⟨v_10, hv_v_10, hx4⟩ := hx4
          refine JL.cons rfl (op_not (ltB rfl) (.tmp rfl) hv_v_10) ?_
          refine JL.nil ?_
          refine JQ.then ?_
          replace hx4 := iteB_inv hx4
          rcases hx4 with ⟨hc5, hx4⟩ | ⟨hc5, hx4⟩
          · refine JC.condT (.tmp rfl) hc5 ?_
            refine JC.region ?_
            refine JL.cons rfl (op_move (ltB rfl) (.tmp rfl)) ?_
            refine JL.cons rfl (op_assign (ltB rfl) (.tmp rfl)) ?_
            refine JL.nil ?_
            refine JQ.outNB ?_
            replace hx4 := Option.some.inj hx4
            first | subst hx4 | clear hx4
            exact JQ.join () (Imp.norm (js := [0]) rfl (.cons rfl (.cons rfl (.cons rfl .nil))))
          · refine JC.condF (.tmp rfl) hc5 ?_
            refine JC.skip ?_
            refine JQ.outNB ?_
            replace hx4 := Option.some.inj hx4
            first | subst hx4 | clear hx4
            exact JQ.join () (Imp.norm (js := [0]) rfl (.cons rfl (.cons rfl (.cons rfl .nil))))
      · refine JC.condF (.tmp rfl) hc3 ?_
        refine JC.exit ?_
        refine JQ.outX ?_
        replace hx := Option.some.inj hx
        first | subst hx | clear hx
        have ht := hr _ rfl
        have hq2 := congrArg some ht
        clear hr ht
        refine JQ.outX ?_
        refine JQ.here ?_
        replace hq2 := Option.some.inj hq2
        first | subst hq2 | clear hq2
        exact JQ.join () (Imp.norm (js := [0]) rfl (.cons rfl .nil))

theorem sim_sha_start (k : Nat) (p_1 : UInt64) (r : UInt32) (hm : sha_start k p_1 = some r) : Sim Try.prog 48 [S (rU UInt64) p_1] [] (γ := Unit) (fun q => []) (fun q => .one (.val (S (rU UInt32) r))) := by
  unfold sha_start at hm
  refine Sim.of Try.func48 rfl rfl (Nat.le_of_ble_eq_true rfl) (fun e0 w0 => ?_)
  refine JC.at ⟨[(0, .one (.val (S (rU UInt64) p_1)))], [], []⟩ ?_
  refine JC.seq ?_
  refine JC.region ?_
  refine JL.consX rfl (op_boxS (ltB rfl) (.tmp rfl)) (fun q => ?_)
  obtain ⟨gb_2, hqq⟩ : ∃ z, z = q := ⟨_, rfl⟩
  subst hqq
  refine JL.pre (Imp.sub (ρ' := [(1, .one (.val (PTR gb_2 0)))]) (.cons rfl .nil)) ?_
  refine JL.at ⟨[(1, .one (.val (PTR gb_2 0)))], [cvar gb_2 (rU UInt64) p_1], []⟩ ?_
  refine JL.cons rfl (op_assign (ltB rfl) (HasO.cU (x := (0 : UInt32)) rfl (by decide))) ?_
  refine JL.nil ?_
  refine JQ.then ?_
  refine JC.seq ?_
  refine JC.region ?_
  refine JL.cons rfl (op_makeFunc (ltB rfl) (.cons (.tmp rfl) .nil)) ?_
  replace hm := bnd_inv hm
  obtain ⟨v_3, hv_v_3, hm⟩ := hm
  refine JL.consX rfl (op_call (js := [0]) (ltD rfl) cl55 (sim_sha_root'2 k p_1 gb_2 v_3 hv_v_3) .func (.cons (.tmp rfl) .nil) rfl) (fun _ => ?_)
  refine JL.pre (Imp.norm (ρ' := [(2, .one (.val (S (rU UInt32) (0 : UInt32)))), (4, .one (.val (S (rU UInt32) v_3)))]) (js := []) rfl (.cons rfl (.cons rfl .nil))) ?_
  refine JL.at ⟨[(2, .one (.val (S (rU UInt32) (0 : UInt32)))), (4, .one (.val (S (rU UInt32) v_3)))], [], []⟩ ?_
  refine JL.cons rfl (op_assign (ltB rfl) (.tmp rfl)) ?_
  refine JL.nil ?_
  refine JQ.then ?_
  refine JC.ret ?_
  replace hm := Option.some.inj hm
  subst hm
  exact JQ.done (js := []) (ss := [.val (S (rU UInt32) v_3)]) () (.inl rfl) (.nil rfl) rfl (.cons (.tmp rfl) .nil) rfl rfl rfl

theorem sim_sha_begun (k : Nat) (r : sha_state) (hm : sha_begun k = some r) : Sim Try.prog 39 [] [] (γ := Unit) (fun q => []) (fun q => .one (.val (A r_sha_state r))) := by
  unfold sha_begun at hm
  refine Sim.of Try.func39 rfl rfl (Nat.le_of_ble_eq_true rfl) (fun e0 w0 => ?_)
  refine JC.at ⟨[], [], []⟩ ?_
  refine JC.seq ?_
  refine JC.region ?_
  refine JL.consX rfl (op_alloc (ltB rfl) tZ70 zr70) (fun q => ?_)
  obtain ⟨gb_1, hqq⟩ : ∃ z, z = q := ⟨_, rfl⟩
  subst hqq
  refine JL.pre (Imp.sub (ρ' := [(0, .one (.val (PTR gb_1 0)))]) (.cons rfl .nil)) ?_
  refine JL.at ⟨[(0, .one (.val (PTR gb_1 0)))], [cvar gb_1 r_sha_state (sha_state.mk (Vector.replicate 8 (0 : UInt32)) (Vector.replicate 64 (0 : UInt32)))], []⟩ ?_
  refine JL.nil ?_
  refine JQ.then ?_
  refine JC.seq ?_
  refine JC.region ?_
  refine JL.consX rfl (op_alloc (ltB rfl) tZ70 zr70) (fun q => ?_)
  obtain ⟨gb_2, hqq⟩ : ∃ z, z = q := ⟨_, rfl⟩
  subst hqq
  refine JL.pre (Imp.sub (ρ' := [(0, .one (.val (PTR gb_1 0))), (1, .one (.val (PTR gb_2 0)))]) (.cons rfl (.cons rfl .nil))) ?_
  refine JL.at ⟨[(0, .one (.val (PTR gb_1 0))), (1, .one (.val (PTR gb_2 0)))], [cvar gb_1 r_sha_state (sha_state.mk (Vector.replicate 8 (0 : UInt32)) (Vector.replicate 64 (0 : UInt32))), cvar gb_2 r_sha_state (sha_state.mk (Vector.replicate 8 (0 : UInt32)) (Vector.replicate 64 (0 : UInt32)))], []⟩ ?_
  refine JL.nil ?_
  refine JQ.then ?_
  replace hm := bnd_inv hm
  obtain ⟨s_20, hx1, hq1⟩ := hm
  refine JC.seqJ (γ := Unit) (stj := fun q => ⟨[(0, .one (.val (PTR gb_1 0))), (1, .one (.val (PTR gb_2 0)))], [cvar gb_1 r_sha_state (sha_state.mk (Vector.replicate 8 (0 : UInt32)) (Vector.replicate 64 (0 : UInt32))), cvar gb_2 r_sha_state s_20], []⟩) (fun q => ?_) ?_
  · obtain _ := q
    refine JC.at ⟨[(0, .one (.val (PTR gb_1 0))), (1, .one (.val (PTR gb_2 0)))], [cvar gb_1 r_sha_state (sha_state.mk (Vector.replicate 8 (0 : UInt32)) (Vector.replicate 64 (0 : UInt32))), cvar gb_2 r_sha_state s_20], []⟩ ?_
    refine JC.seq ?_
    refine JC.region ?_
    refine JL.cons rfl (op_loadA (j := 1) (ltB rfl) tA70 (.tmp rfl) rfl (Comp.self r_sha_state s_20) rfl) ?_
    refine JL.cons rfl (op_storeA (j := 0) tA70 (.tmp rfl) (.tmp rfl) rfl (UpdR.self (by rfl)) rfl) ?_
    refine JL.pre (Imp.norm (ρ' := [(0, .one (.val (PTR gb_1 0)))]) (js := [0]) rfl (.cons rfl .nil)) ?_
    refine JL.at ⟨[(0, .one (.val (PTR gb_1 0)))], [cvar gb_1 r_sha_state s_20], []⟩ ?_
    refine JL.nil ?_
    refine JQ.then ?_
    refine JC.ret ?_
    replace hq1 := Option.some.inj hq1
    subst hq1
    exact JQ.done (js := []) (ss := [.val (A r_sha_state s_20)]) () (.inl rfl) (.nil rfl) rfl (.cons (.cellA (j := 0) tA70 rfl rfl) .nil) rfl rfl rfl
  · refine JC.seq ?_
    refine JC.region ?_
    replace hx1 := bnd_inv hx1
    obtain ⟨v_3, hv_v_3, hx1⟩ := hx1
    refine JL.consX rfl (op_call (js := []) (ltD rfl) cl46 (sim_sha_primes k v_3 hv_v_3) .func .nil rfl) (fun q => ?_)
    obtain ⟨go_4, gc_5⟩ := q
    refine JL.pre (Imp.sub (ρ' := [(0, .one (.val (PTR gb_1 0))), (1, .one (.val (PTR gb_2 0))), (4, .one (.val (HDR go_4 0 (List.length v_3) gc_5)))]) (.cons rfl (.cons rfl (.cons rfl .nil)))) ?_
    refine JL.at ⟨[(0, .one (.val (PTR gb_1 0))), (1, .one (.val (PTR gb_2 0))), (4, .one (.val (HDR go_4 0 (List.length v_3) gc_5)))], [cown go_4 (rU UInt64) v_3 (List.length v_3) gc_5, cvar gb_1 r_sha_state (sha_state.mk (Vector.replicate 8 (0 : UInt32)) (Vector.replicate 64 (0 : UInt32))), cvar gb_2 r_sha_state (sha_state.mk (Vector.replicate 8 (0 : UInt32)) (Vector.replicate 64 (0 : UInt32)))], []⟩ ?_
    refine JL.cons rfl (op_lenH (ltB rfl) tu81 (.tmp rfl)) ?_
    refine JL.cons rfl (op_move (ltB rfl) .cI) ?_
    refine JL.nil ?_
    refine JQ.then ?_
    refine JC.block ?_
    refine JC.pre ?_ (JC.loop (γ := Unit) (stf := fun s q => ⟨[(0, .one (.val (PTR gb_1 0))), (1, .one (.val (PTR gb_2 0))), (4, .one (.val (HDR go_4 0 (List.length v_3) gc_5))), (5, .one (.val (S (rI .i64) (List.length v_3 : Int)))), (6, .one (.val (S (rI .i64) s.2)))], [cvar gb_1 r_sha_state (sha_state.mk (Vector.replicate 8 (0 : UInt32)) (Vector.replicate 64 (0 : UInt32))), cvar gb_2 r_sha_state s.1, cown go_4 (rU UInt64) v_3 (List.length v_3) gc_5], []⟩) (q := ()) hx1 ?_)
    · exact (Imp.norm (js := [1, 1, 0]) rfl (.cons rfl (.cons rfl (.cons rfl (.cons rfl (.cons rfl .nil))))))
    · intro s q x hx hr
      obtain ⟨s_6, x_7⟩ := s
      obtain _ := q
      change sha_begun.b1 k v_3 s_6 x_7 = some x at hx
      unfold sha_begun.b1 at hx
      refine JC.at ⟨[(0, .one (.val (PTR gb_1 0))), (1, .one (.val (PTR gb_2 0))), (4, .one (.val (HDR go_4 0 (List.length v_3) gc_5))), (5, .one (.val (S (rI .i64) (List.length v_3 : Int)))), (6, .one (.val (S (rI .i64) x_7)))], [cvar gb_1 r_sha_state (sha_state.mk (Vector.replicate 8 (0 : UInt32)) (Vector.replicate 64 (0 : UInt32))), cvar gb_2 r_sha_state s_6, cown go_4 (rU UInt64) v_3 (List.length v_3) gc_5], []⟩ ?_
      refine JC.seq ?_
      refine JC.region ?_
      replace hx := lt1_inv hx
      obtain ⟨v_8, hv_v_8, hx⟩ := hx
      refine JL.cons rfl (op_cmpI (ltB rfl) (.tmp rfl) (.tmp rfl) (congrArg some hv_v_8)) ?_
      refine JL.nil ?_
      refine JQ.then ?_
      refine JC.seq ?_
      replace hx := iteB_inv hx
      rcases hx with ⟨hc3, hx⟩ | ⟨hc3, hx⟩
      · refine JC.condT (.tmp rfl) hc3 ?_
        refine JC.skip ?_
        refine JQ.then ?_
        replace hx := bnd_inv hx
        obtain ⟨s_18, hx4, hq4⟩ := hx
        refine JC.seqJ (γ := Unit) (stj := fun q => ⟨[(0, .one (.val (PTR gb_1 0))), (1, .one (.val (PTR gb_2 0))), (4, .one (.val (HDR go_4 0 (List.length v_3) gc_5))), (5, .one (.val (S (rI .i64) (List.length v_3 : Int)))), (6, .one (.val (S (rI .i64) x_7)))], [cvar gb_1 r_sha_state (sha_state.mk (Vector.replicate 8 (0 : UInt32)) (Vector.replicate 64 (0 : UInt32))), cvar gb_2 r_sha_state s_18, cown go_4 (rU UInt64) v_3 (List.length v_3) gc_5], []⟩) (fun q => ?_) ?_
        · obtain _ := q
          refine JC.at ⟨[(0, .one (.val (PTR gb_1 0))), (1, .one (.val (PTR gb_2 0))), (4, .one (.val (HDR go_4 0 (List.length v_3) gc_5))), (5, .one (.val (S (rI .i64) (List.length v_3 : Int)))), (6, .one (.val (S (rI .i64) x_7)))], [cvar gb_1 r_sha_state (sha_state.mk (Vector.replicate 8 (0 : UInt32)) (Vector.replicate 64 (0 : UInt32))), cvar gb_2 r_sha_state s_18, cown go_4 (rU UInt64) v_3 (List.length v_3) gc_5], []⟩ ?_
          refine JC.region ?_
          replace hq4 := lt1_inv hq4
          obtain ⟨v_19, hv_v_19, hq4⟩ := hq4
          refine JL.cons rfl (op_arI (ltB rfl) (.tmp rfl) .cI (congrArg some hv_v_19)) ?_
          refine JL.cons rfl (op_move (ltB rfl) (.tmp rfl)) ?_
          refine JL.nil ?_
          replace hq4 := Option.some.inj hq4
          first | subst hq4 | clear hq4
          exact JQ.next () rfl (Imp.norm (js := [0, 0, 0]) rfl (.cons rfl (.cons rfl (.cons rfl (.cons rfl (.cons rfl .nil))))))
        · refine JC.block ?_
          refine JC.seq ?_
          refine JC.region ?_
          refine JL.cons rfl (op_move (ltB rfl) (.tmp rfl)) ?_
          replace hx4 := bnd_inv hx4
          obtain ⟨i_9, hv_i_9, hx4⟩ := hx4
          refine JL.cons rfl (op_indexAddrOF (r := (rU UInt64)) (j := 2) (ltB rfl) tu81 tz23 rfl (.tmp rfl) (.tmp rfl) hv_i_9) ?_
          replace hx4 := bnd_inv hx4
          obtain ⟨v_10, hv_v_10, hx4⟩ := hx4
          refine JL.cons rfl (op_loadOS (r := (rU UInt64)) (i := i_9) (off := 0) (j := 2) (ltB rfl) tS23 rfl rfl (.tmp rfl) hv_v_10 (Comp.self (rU UInt64) v_10) (by decide)) ?_
          refine JL.cons rfl (op_assign (ltB rfl) (.tmp rfl)) ?_
          refine JL.cons rfl (op_assign (ltB rfl) (.tmp rfl)) ?_
          refine JL.pre (Imp.sub (ρ' := [(0, .one (.val (PTR gb_1 0))), (1, .one (.val (PTR gb_2 0))), (2, .one (.val (S (rI .i64) x_7))), (3, .one (.val (S (rU UInt64) v_10))), (4, .one (.val (HDR go_4 0 (List.length v_3) gc_5))), (5, .one (.val (S (rI .i64) (List.length v_3 : Int)))), (6, .one (.val (S (rI .i64) x_7)))]) (.cons rfl (.cons rfl (.cons rfl (.cons rfl (.cons rfl (.cons rfl (.cons rfl .nil)))))))) ?_
          refine JL.at ⟨[(0, .one (.val (PTR gb_1 0))), (1, .one (.val (PTR gb_2 0))), (2, .one (.val (S (rI .i64) x_7))), (3, .one (.val (S (rU UInt64) v_10))), (4, .one (.val (HDR go_4 0 (List.length v_3) gc_5))), (5, .one (.val (S (rI .i64) (List.length v_3 : Int)))), (6, .one (.val (S (rI .i64) x_7)))], [cvar gb_1 r_sha_state (sha_state.mk (Vector.replicate 8 (0 : UInt32)) (Vector.replicate 64 (0 : UInt32))), cvar gb_2 r_sha_state s_6, cown go_4 (rU UInt64) v_3 (List.length v_3) gc_5], []⟩ ?_
          refine JL.nil ?_
          refine JQ.then ?_
          refine JC.seq ?_
          refine JC.region ?_
          refine JL.cons rfl (op_move (ltB rfl) (.tmp rfl)) ?_
          refine JL.cons rfl (op_move (ltB rfl) (.tmp rfl)) ?_
          replace hx4 := bnd_inv hx4
          obtain ⟨v_11, hv_v_11, hx4⟩ := hx4
          refine JL.consX rfl (op_call (js := []) (ltD rfl) cl47 (sim_sha_constant k v_10 v_11 hv_v_11) .func (.cons (.tmp rfl) .nil) rfl) (fun _ => ?_)
          refine JL.cons rfl (op_fieldAddr (off := 8) (ltB rfl) tf70_1 (.tmp rfl)) ?_
          replace hx4 := bnd_inv hx4
          obtain ⟨i_12, hv_i_12, hx4⟩ := hx4
          refine JL.cons rfl (op_indexAddrIF (ltB rfl) tr68 (.tmp rfl) (.tmp rfl) hv_i_12) ?_
          replace hx4 := lt1_inv hx4
          obtain ⟨s_13, hv_s_13, hx4⟩ := hx4
          refine JL.cons rfl (op_storeS (j := 1) tS66 (.tmp rfl) (.tmp rfl) rfl rfl (Upd.at (Comp.trans (Comp.self r_sha_state s_6) (comp_sha_state_k s_6) (Nat.le_of_ble_eq_true rfl)) i_12.2 rfl (Upd.trans (Comp.self r_sha_state s_6) (Upd.self r_sha_state s_6 _) (upd_sha_state_k s_6 (putV s_6.k i_12 v_11)))).R hv_s_13) ?_
          refine JL.pre (Imp.sub (ρ' := [(0, .one (.val (PTR gb_1 0))), (1, .one (.val (PTR gb_2 0))), (2, .one (.val (S (rI .i64) x_7))), (3, .one (.val (S (rU UInt64) v_10))), (4, .one (.val (HDR go_4 0 (List.length v_3) gc_5))), (5, .one (.val (S (rI .i64) (List.length v_3 : Int)))), (6, .one (.val (S (rI .i64) x_7)))]) (.cons rfl (.cons rfl (.cons rfl (.cons rfl (.cons rfl (.cons rfl (.cons rfl .nil)))))))) ?_
          refine JL.at ⟨[(0, .one (.val (PTR gb_1 0))), (1, .one (.val (PTR gb_2 0))), (2, .one (.val (S (rI .i64) x_7))), (3, .one (.val (S (rU UInt64) v_10))), (4, .one (.val (HDR go_4 0 (List.length v_3) gc_5))), (5, .one (.val (S (rI .i64) (List.length v_3 : Int)))), (6, .one (.val (S (rI .i64) x_7)))], [cvar gb_1 r_sha_state (sha_state.mk (Vector.replicate 8 (0 : UInt32)) (Vector.replicate 64 (0 : UInt32))), cvar gb_2 r_sha_state s_13, cown go_4 (rU UInt64) v_3 (List.length v_3) gc_5], []⟩ ?_
          refine JL.nil ?_
          refine JQ.then ?_
          refine JC.seq ?_
          refine JC.region ?_
          refine JL.cons rfl (op_move (ltB rfl) (.tmp rfl)) ?_
          replace hx4 := lt1_inv hx4
          obtain ⟨v_14, hv_v_14, hx4⟩ := hx4
          refine JL.cons rfl (op_cmpI (ltB rfl) (.tmp rfl) .cI (congrArg some hv_v_14)) ?_
          refine JL.nil ?_
          refine JQ.then ?_
          replace hx4 := iteB_inv hx4
          rcases hx4 with ⟨hc5, hx4⟩ | ⟨hc5, hx4⟩
          · refine JC.condT (.tmp rfl) hc5 ?_
            refine JC.region ?_
            refine JL.cons rfl (op_move (ltB rfl) (.tmp rfl)) ?_
            refine JL.cons rfl (op_move (ltB rfl) (.tmp rfl)) ?_
            replace hx4 := bnd_inv hx4
            obtain ⟨v_15, hv_v_15, hx4⟩ := hx4
            refine JL.consX rfl (op_call (js := []) (ltD rfl) cl48 (sim_sha_start k v_10 v_15 hv_v_15) .func (.cons (.tmp rfl) .nil) rfl) (fun _ => ?_)
            refine JL.cons rfl (op_fieldAddr (off := 0) (ltB rfl) tf70_0 (.tmp rfl)) ?_
            refine JL.pre (Imp.sub (ρ' := [(0, .one (.val (PTR gb_1 0))), (1, .one (.val (PTR gb_2 0))), (4, .one (.val (HDR go_4 0 (List.length v_3) gc_5))), (5, .one (.val (S (rI .i64) (List.length v_3 : Int)))), (6, .one (.val (S (rI .i64) x_7))), (18, .one (.val (S (rI .i64) x_7))), (20, .one (.val (S (rU UInt32) v_15))), (21, .one (.val (PTR gb_2 (0 + 0))))]) (.cons rfl (.cons rfl (.cons rfl (.cons rfl (.cons rfl (.cons rfl (.cons rfl (.cons rfl .nil))))))))) ?_
            refine JL.at ⟨[(0, .one (.val (PTR gb_1 0))), (1, .one (.val (PTR gb_2 0))), (4, .one (.val (HDR go_4 0 (List.length v_3) gc_5))), (5, .one (.val (S (rI .i64) (List.length v_3 : Int)))), (6, .one (.val (S (rI .i64) x_7))), (18, .one (.val (S (rI .i64) x_7))), (20, .one (.val (S (rU UInt32) v_15))), (21, .one (.val (PTR gb_2 (0 + 0))))], [cvar gb_1 r_sha_state (sha_state.mk (Vector.replicate 8 (0 : UInt32)) (Vector.replicate 64 (0 : UInt32))), cvar gb_2 r_sha_state s_13, cown go_4 (rU UInt64) v_3 (List.length v_3) gc_5], []⟩ ?_
            replace hx4 := bnd_inv hx4
            obtain ⟨i_16, hv_i_16, hx4⟩ := hx4
            refine JL.cons rfl (op_indexAddrIF (ltB rfl) tr67 (.tmp rfl) (.tmp rfl) hv_i_16) ?_
            replace hx4 := lt1_inv hx4
            obtain ⟨s_17, hv_s_17, hx4⟩ := hx4
            refine JL.cons rfl (op_storeS (j := 1) tS66 (.tmp rfl) (.tmp rfl) rfl rfl (Upd.at (Comp.trans (Comp.self r_sha_state s_13) (comp_sha_state_h s_13) (Nat.le_of_ble_eq_true rfl)) i_16.2 rfl (Upd.trans (Comp.self r_sha_state s_13) (Upd.self r_sha_state s_13 _) (upd_sha_state_h s_13 (putV s_13.h i_16 v_15)))).R hv_s_17) ?_
            refine JL.pre (Imp.sub (ρ' := [(0, .one (.val (PTR gb_1 0))), (1, .one (.val (PTR gb_2 0))), (4, .one (.val (HDR go_4 0 (List.length v_3) gc_5))), (5, .one (.val (S (rI .i64) (List.length v_3 : Int)))), (6, .one (.val (S (rI .i64) x_7)))]) (.cons rfl (.cons rfl (.cons rfl (.cons rfl (.cons rfl .nil)))))) ?_
            refine JL.at ⟨[(0, .one (.val (PTR gb_1 0))), (1, .one (.val (PTR gb_2 0))), (4, .one (.val (HDR go_4 0 (List.length v_3) gc_5))), (5, .one (.val (S (rI .i64) (List.length v_3 : Int)))), (6, .one (.val (S (rI .i64) x_7)))], [cvar gb_1 r_sha_state (sha_state.mk (Vector.replicate 8 (0 : UInt32)) (Vector.replicate 64 (0 : UInt32))), cvar gb_2 r_sha_state s_17, cown go_4 (rU UInt64) v_3 (List.length v_3) gc_5], []⟩ ?_
            refine JL.nil ?_
            refine JQ.outNB ?_
            replace hx4 := Option.some.inj hx4
            first | subst hx4 | clear hx4
            exact JQ.join () (Imp.norm (js := [0, 0, 0]) rfl (.cons rfl (.cons rfl (.cons rfl (.cons rfl (.cons rfl .nil))))))
          · refine JC.condF (.tmp rfl) hc5 ?_
            refine JC.skip ?_
            refine JQ.outNB ?_
            replace hx4 := Option.some.inj hx4
            first | subst hx4 | clear hx4
            exact JQ.join () (Imp.norm (js := [0, 0, 0]) rfl (.cons rfl (.cons rfl (.cons rfl (.cons rfl (.cons rfl .nil))))))
      · refine JC.condF (.tmp rfl) hc3 ?_
        refine JC.exit ?_
        refine JQ.outX ?_
        replace hx := Option.some.inj hx
        first | subst hx | clear hx
        have ht := hr _ rfl
        have hq2 := congrArg some ht
        clear hr ht
        refine JQ.outX ?_
        refine JQ.here ?_
        replace hq2 := Option.some.inj hq2
        first | subst hq2 | clear hq2
        exact JQ.join () (Imp.norm (js := [0, 0]) rfl (.cons rfl (.cons rfl .nil)))

theorem sim_slices_Growbyte_byte (k : Nat) (n_1 : Int) (r : Unit) (hm : slices_Growbyte_byte k n_1 = some r) : Sim Try.prog 61 [HDR none 0 0 0, S (rI .i64) n_1] [] (γ := Option Nat × Nat) (fun q => [cown q.1 (rU UInt8) ([] : (List UInt8)) 0 q.2]) (fun q => .one (.val (HDR q.1 0 (List.length ([] : (List UInt8))) q.2))) := by
  unfold slices_Growbyte_byte at hm
  refine Sim.of Try.func61 rfl rfl (Nat.le_of_ble_eq_true rfl) (fun e0 w0 => ?_)
  refine JC.at ⟨[(0, .one (.val (HDR none 0 0 0))), (1, .one (.val (S (rI .i64) n_1)))], [], []⟩ ?_
  refine JC.seq ?_
  refine JC.region ?_
  refine JL.cons rfl (op_assign (ltB rfl) HasO.nilH) ?_
  refine JL.nil ?_
  refine JQ.then ?_
  replace hm := bnd_inv hm
  obtain ⟨_, hx1, hq1⟩ := hm
  refine JC.seqJ (γ := Unit) (stj := fun q => ⟨[(0, .one (.val (HDR none 0 0 0))), (1, .one (.val (S (rI .i64) n_1)))], [], []⟩) (fun q => ?_) ?_
  · obtain _ := q
    refine JC.at ⟨[(0, .one (.val (HDR none 0 0 0))), (1, .one (.val (S (rI .i64) n_1)))], [], []⟩ ?_
    replace hq1 := bnd_inv hq1
    obtain ⟨_, hx3, hq3⟩ := hq1
    refine JC.seqJ (γ := Option Nat × Nat) (stj := fun q => ⟨[(0, .one (.val (HDR q.1 0 (List.length ([] : (List UInt8))) q.2)))], [cown q.1 (rU UInt8) ([] : (List UInt8)) 0 q.2], []⟩) (fun q => ?_) ?_
    · obtain ⟨go_9, gc_10⟩ := q
      refine JC.at ⟨[(0, .one (.val (HDR go_9 0 (List.length ([] : (List UInt8))) gc_10)))], [cown go_9 (rU UInt8) ([] : (List UInt8)) 0 gc_10], []⟩ ?_
      refine JC.seq ?_
      refine JC.region ?_
      refine JL.cons rfl (op_move (ltB rfl) (.tmp rfl)) ?_
      refine JL.cons rfl (op_assign (ltB rfl) (.tmp rfl)) ?_
      refine JL.nil ?_
      refine JQ.then ?_
      refine JC.ret ?_
      exact JQ.done (js := [0]) (ss := [.val (HDR go_9 0 (List.length ([] : (List UInt8))) gc_10)]) (go_9, gc_10) (.inl rfl) (.nil rfl) rfl (.cons (.tmp rfl) .nil) rfl rfl rfl
    · refine JC.seq ?_
      refine JC.region ?_
      refine JL.cons rfl (op_move (ltB rfl) (.tmp rfl)) ?_
      refine JL.cons rfl (op_move (ltB rfl) (.tmp rfl)) ?_
      refine JL.cons rfl (op_capH (ltB rfl) tu22 (.tmp rfl)) ?_
      refine JL.cons rfl (op_move (ltB rfl) (.tmp rfl)) ?_
      refine JL.cons rfl (op_lenH (ltB rfl) tu22 (.tmp rfl)) ?_
      replace hx3 := lt1_inv hx3
      obtain ⟨v_3, hv_v_3, hx3⟩ := hx3
      refine JL.cons rfl (op_arI (ltB rfl) (.tmp rfl) (.tmp rfl) (congrArg some hv_v_3)) ?_
      refine JL.pre (Imp.sub (ρ' := [(0, .one (.val (HDR none 0 0 0))), (1, .one (.val (S (rI .i64) n_1))), (8, .one (.val (S (rI .i64) n_1))), (13, .one (.val (S (rI .i64) v_3)))]) (.cons rfl (.cons rfl (.cons rfl (.cons rfl .nil))))) ?_
      refine JL.at ⟨[(0, .one (.val (HDR none 0 0 0))), (1, .one (.val (S (rI .i64) n_1))), (8, .one (.val (S (rI .i64) n_1))), (13, .one (.val (S (rI .i64) v_3)))], [], []⟩ ?_
      replace hx3 := lt1_inv hx3
      obtain ⟨v_4, hv_v_4, hx3⟩ := hx3
      refine JL.cons rfl (op_arI (ltB rfl) (.tmp rfl) (.tmp rfl) (congrArg some hv_v_4)) ?_
      refine JL.cons rfl (op_assign (ltB rfl) (.tmp rfl)) ?_
      refine JL.nil ?_
      refine JQ.then ?_
      refine JC.seq ?_
      refine JC.region ?_
      refine JL.cons rfl (op_move (ltB rfl) (.tmp rfl)) ?_
      replace hx3 := lt1_inv hx3
      obtain ⟨v_5, hv_v_5, hx3⟩ := hx3
      refine JL.cons rfl (op_cmpI (ltB rfl) (.tmp rfl) .cI (congrArg some hv_v_5)) ?_
      refine JL.nil ?_
      refine JQ.then ?_
      replace hx3 := iteB_inv hx3
      rcases hx3 with ⟨hc4, hx3⟩ | ⟨hc4, hx3⟩
      · refine JC.condT (.tmp rfl) hc4 ?_
        refine JC.region ?_
        refine JL.cons rfl (op_move (ltB rfl) (.tmp rfl)) ?_
        refine JL.cons rfl (op_move (ltB rfl) (.tmp rfl)) ?_
        refine JL.pre (Imp.sub (ρ' := [(0, .one (.val (HDR none 0 0 0))), (1, .one (.val (S (rI .i64) v_4))), (17, .one (.val (HDR none 0 0 0))), (18, .one (.val (HDR none 0 0 0)))]) (.cons rfl (.cons rfl (.cons rfl (.cons rfl .nil))))) ?_
        refine JL.at ⟨[(0, .one (.val (HDR none 0 0 0))), (1, .one (.val (S (rI .i64) v_4))), (17, .one (.val (HDR none 0 0 0))), (18, .one (.val (HDR none 0 0 0)))], [], []⟩ ?_
        refine JL.cons rfl (op_capH (ltB rfl) tu22 (.tmp rfl)) ?_
        refine JL.cons rfl (op_sliceNil (ltB rfl) tu22 tz5 (.tmp rfl) (.tmp rfl)) ?_
        refine JL.cons rfl (op_move (ltB rfl) (.tmp rfl)) ?_
        replace hx3 := bnd_inv hx3
        obtain ⟨v_6, hv_v_6, hx3⟩ := hx3
        refine JL.pre (Imp.nilown (rU UInt8)) ?_
        refine JL.consX rfl (op_appendZ (j := 0) (ltB rfl) tu22 tu3 tB5 zv5 rfl (Nat.lt_of_lt_of_le Nat.zero_lt_one (Nat.le_of_ble_eq_true rfl)) (Nat.lt_of_lt_of_le Nat.zero_lt_one (Nat.le_of_ble_eq_true rfl)) rfl (.tmp rfl) (.tmp rfl) hv_v_6) (fun q => ?_)
        obtain ⟨go_7, gc_8⟩ := q
        refine JL.pre (Imp.sub (ρ' := [(0, .one (.val (HDR none 0 0 0))), (22, .one (.val (HDR go_7 0 (List.length v_6) gc_8)))]) (.cons rfl (.cons rfl .nil))) ?_
        refine JL.at ⟨[(0, .one (.val (HDR none 0 0 0))), (22, .one (.val (HDR go_7 0 (List.length v_6) gc_8)))], [cown go_7 (rU UInt8) v_6 0 gc_8], []⟩ ?_
        refine JL.cons rfl (op_move (ltB rfl) (.tmp rfl)) ?_
        refine JL.cons rfl (op_lenH (ltB rfl) tu22 (.tmp rfl)) ?_
        refine JL.cons rfl (op_slicePre (j := 0) (ltB rfl) tu22 tz5 rfl (.tmp rfl) (.tmp rfl)) ?_
        refine JL.pre (Imp.sub (ρ' := [(0, .one (.val (HDR none 0 0 0))), (25, .one (.val (HDR go_7 0 (List.length ([] : (List UInt8))) gc_8)))]) (.cons rfl (.cons rfl .nil))) ?_
        refine JL.at ⟨[(0, .one (.val (HDR none 0 0 0))), (25, .one (.val (HDR go_7 0 (List.length ([] : (List UInt8))) gc_8)))], [cown go_7 (rU UInt8) ([] : (List UInt8)) 0 gc_8], []⟩ ?_
        refine JL.cons rfl (op_assign (ltB rfl) (.tmp rfl)) ?_
        refine JL.nil ?_
        exact JQ.join (go_7, gc_8) (Imp.norm (js := [0]) rfl (.cons rfl .nil))
      · refine JC.condF (.tmp rfl) hc4 ?_
        refine JC.skip ?_
        refine JQ.pre (Imp.nilown (rU UInt8)) ?_
        exact JQ.join (none, 0) (Imp.norm (js := [0]) rfl (.cons rfl .nil))
  · refine JC.seq ?_
    refine JC.region ?_
    refine JL.cons rfl (op_move (ltB rfl) (.tmp rfl)) ?_
    replace hx1 := lt1_inv hx1
    obtain ⟨v_2, hv_v_2, hx1⟩ := hx1
    refine JL.cons rfl (op_cmpI (ltB rfl) (.tmp rfl) .cI (congrArg some hv_v_2)) ?_
    refine JL.nil ?_
    refine JQ.then ?_
    replace hx1 := iteB_inv hx1
    rcases hx1 with ⟨hc2, hx1⟩ | ⟨hc2, hx1⟩
    · refine JC.condT (.tmp rfl) hc2 ?_
      refine JC.region ?_
      cases hx1
    · refine JC.condF (.tmp rfl) hc2 ?_
      refine JC.skip ?_
      exact JQ.join () (Imp.norm (js := []) rfl (.cons rfl (.cons rfl .nil)))

end Go.Proofs.Ytnhiiabdoichlaa
