/- Walks. -/
import Derived.Test.YtnhiiabdoichlaaT
import Derived.Test.YtnhiiabdoichlaaW0
namespace Go.Proofs.Ytnhiiabdoichlaa
open Go Fw
set_option linter.unusedVariables false
set_option maxRecDepth 100000
set_option maxHeartbeats 4000000

theorem sim_slices_IndexFuncuint64_uint64 (k : Nat) (s_1 : (List UInt64)) (x_2 : UInt64) (gb_3 : Nat) (r : Int) (hm : slices_IndexFuncuint64_uint64 k s_1 x_2 = some r) : Sim Try.prog 65 [S (rL (rU UInt64)) s_1, CLO 54 [PTR gb_3 0]] [cvar gb_3 (rU UInt64) x_2] (γ := Unit) (fun q => [cvar gb_3 (rU UInt64) x_2]) (fun q => .one (.val (S (rI .i64) r))) := by
  unfold slices_IndexFuncuint64_uint64 at hm
  refine Sim.of Try.func65 rfl rfl (Nat.le_of_ble_eq_true rfl) (fun e0 w0 => ?_)
  refine JC.at ⟨[(0, .one (.val (S (rL (rU UInt64)) s_1))), (1, .one (.val (CLO 54 [PTR gb_3 0])))], [cvar gb_3 (rU UInt64) x_2], []⟩ ?_
  refine JC.seq ?_
  refine JC.region ?_
  refine JL.cons rfl (op_assign (ltB rfl) .cI) ?_
  refine JL.nil ?_
  refine JQ.then ?_
  replace hm := bnd_inv hm
  obtain ⟨tv1, hx1, hq1⟩ := hm
  refine JC.seqK (α := Unit) (γ := Unit) (stj := fun v q => ⟨[], [cvar gb_3 (rU UInt64) x_2], []⟩) (p := fun v => tv1 = (.inl v)) (fun v q hv => ?_) ?_
  · subst hv
    skip
    obtain _ := q
    dsimp only at hq1
    refine JC.at ⟨[], [cvar gb_3 (rU UInt64) x_2], []⟩ ?_
    refine JC.seq ?_
    refine JC.region ?_
    refine JL.cons rfl (op_assign (ltB rfl) .cI) ?_
    refine JL.nil ?_
    refine JQ.then ?_
    refine JC.ret ?_
    replace hq1 := Option.some.inj hq1
    subst hq1
    exact JQ.done (js := [0]) (ss := [.val (S (rI .i64) (-1 : Int))]) () (.inl rfl) (.nil rfl) rfl (.cons (.tmp rfl) .nil) rfl rfl rfl
  · refine JC.seq ?_
    refine JC.region ?_
    refine JL.cons rfl (op_move (ltB rfl) (.tmp rfl)) ?_
    refine JL.cons rfl (op_lenL (ltB rfl) tu81 (.tmp rfl)) ?_
    refine JL.cons rfl (op_move (ltB rfl) .cI) ?_
    refine JL.nil ?_
    refine JQ.then ?_
    refine JC.block ?_
    replace hx1 := bnd_inv hx1
    obtain ⟨tv2, hL2, hq2⟩ := hx1
    refine JC.pre ?_ (JC.loop (γ := Unit) (stf := fun s q => ⟨[(0, .one (.val (S (rL (rU UInt64)) s_1))), (1, .one (.val (CLO 54 [PTR gb_3 0]))), (7, .one (.val (S (rI .i64) (List.length s_1 : Int)))), (8, .one (.val (S (rI .i64) s)))], [cvar gb_3 (rU UInt64) x_2], []⟩) (q := ()) hL2 ?_)
    · exact (Imp.norm (js := [0]) rfl (.cons rfl (.cons rfl (.cons rfl (.cons rfl .nil)))))
    · intro x_4 q x hx hr
      obtain _ := q
      change slices_IndexFuncuint64_uint64.b1 k s_1 x_2 x_4 = some x at hx
      unfold slices_IndexFuncuint64_uint64.b1 at hx
      refine JC.at ⟨[(0, .one (.val (S (rL (rU UInt64)) s_1))), (1, .one (.val (CLO 54 [PTR gb_3 0]))), (7, .one (.val (S (rI .i64) (List.length s_1 : Int)))), (8, .one (.val (S (rI .i64) x_4)))], [cvar gb_3 (rU UInt64) x_2], []⟩ ?_
      refine JC.seq ?_
      refine JC.region ?_
      replace hx := lt1_inv hx
      obtain ⟨v_5, hv_v_5, hx⟩ := hx
      refine JL.cons rfl (op_cmpI (ltB rfl) (.tmp rfl) (.tmp rfl) (congrArg some hv_v_5)) ?_
      refine JL.nil ?_
      refine JQ.then ?_
      refine JC.seq ?_
      replace hx := iteB_inv hx
      rcases hx with ⟨hc3, hx⟩ | ⟨hc3, hx⟩
      · refine JC.condT (.tmp rfl) hc3 ?_
        refine JC.skip ?_
        refine JQ.then ?_
        refine JC.seq ?_
        refine JC.block ?_
        refine JC.seq ?_
        refine JC.region ?_
        refine JL.cons rfl (op_move (ltB rfl) (.tmp rfl)) ?_
        refine JL.cons rfl (op_assign (ltB rfl) (.tmp rfl)) ?_
        refine JL.nil ?_
        refine JQ.then ?_
        refine JC.seq ?_
        refine JC.region ?_
        refine JL.cons rfl (op_move (ltB rfl) (.tmp rfl)) ?_
        refine JL.cons rfl (op_move (ltB rfl) (.tmp rfl)) ?_
        refine JL.cons rfl (op_move (ltB rfl) (.tmp rfl)) ?_
        refine JL.pre (Imp.sub (ρ' := [(0, .one (.val (S (rL (rU UInt64)) s_1))), (1, .one (.val (CLO 54 [PTR gb_3 0]))), (5, .one (.val (S (rI .i64) x_4))), (7, .one (.val (S (rI .i64) (List.length s_1 : Int)))), (8, .one (.val (S (rI .i64) x_4))), (11, .one (.val (CLO 54 [PTR gb_3 0]))), (12, .one (.val (S (rL (rU UInt64)) s_1))), (13, .one (.val (S (rI .i64) x_4)))]) (.cons rfl (.cons rfl (.cons rfl (.cons rfl (.cons rfl (.cons rfl (.cons rfl (.cons rfl .nil))))))))) ?_
        refine JL.at ⟨[(0, .one (.val (S (rL (rU UInt64)) s_1))), (1, .one (.val (CLO 54 [PTR gb_3 0]))), (5, .one (.val (S (rI .i64) x_4))), (7, .one (.val (S (rI .i64) (List.length s_1 : Int)))), (8, .one (.val (S (rI .i64) x_4))), (11, .one (.val (CLO 54 [PTR gb_3 0]))), (12, .one (.val (S (rL (rU UInt64)) s_1))), (13, .one (.val (S (rI .i64) x_4)))], [cvar gb_3 (rU UInt64) x_2], []⟩ ?_
        replace hx := bnd_inv hx
        obtain ⟨v_6, hv_v_6, hx⟩ := hx
        refine JL.cons rfl (op_indexAddrLg (ltB rfl) tu81 tz23 (.tmp rfl) (.tmp rfl) hv_v_6) ?_
        refine JL.cons rfl (op_loadPSg (ltB rfl) tS23 rfl (.tmp rfl) rfl) ?_
        replace hx := bnd_inv hx
        obtain ⟨v_7, hv_v_7, hx⟩ := hx
        refine JL.consX rfl (op_call (js := [0]) (ltD rfl) cl54 (sim_sha_primes_1 k v_6 x_2 gb_3 v_7 hv_v_7) (.tmp rfl) (.cons (.tmp rfl) .nil) rfl) (fun _ => ?_)
        refine JL.nil ?_
        refine JQ.then ?_
        replace hx := iteB_inv hx
        rcases hx with ⟨hc4, hx⟩ | ⟨hc4, hx⟩
        · refine JC.condT (.tmp rfl) hc4 ?_
          refine JC.seq ?_
          refine JC.region ?_
          refine JL.cons rfl (op_move (ltB rfl) (.tmp rfl)) ?_
          refine JL.cons rfl (op_assign (ltB rfl) (.tmp rfl)) ?_
          refine JL.nil ?_
          refine JQ.then ?_
          refine JC.ret ?_
          refine JQ.outRB ?_
          refine JQ.outR ?_
          replace hx := Option.some.inj hx
          first | subst hx | clear hx
          have ht := hr _ rfl
          clear hr
          first | subst ht | clear ht
          dsimp only at hq2
          refine JQ.outR ?_
          refine JQ.outRB ?_
          replace hq2 := Option.some.inj hq2
          first | subst hq2 | clear hq2
          dsimp only at hq1
          refine JQ.outR ?_
          replace hq1 := Option.some.inj hq1
          subst hq1
          exact JQ.done (js := [0]) (ss := [.val (S (rI .i64) x_4)]) () (.inl rfl) (.nil rfl) rfl (.cons (.tmp rfl) .nil) rfl rfl rfl
        · refine JC.condF (.tmp rfl) hc4 ?_
          refine JC.skip ?_
          refine JQ.outNB ?_
          refine JQ.then ?_
          refine JC.region ?_
          replace hx := lt1_inv hx
          obtain ⟨v_8, hv_v_8, hx⟩ := hx
          refine JL.cons rfl (op_arI (ltB rfl) (.tmp rfl) .cI (congrArg some hv_v_8)) ?_
          refine JL.cons rfl (op_move (ltB rfl) (.tmp rfl)) ?_
          refine JL.nil ?_
          replace hx := Option.some.inj hx
          first | subst hx | clear hx
          exact JQ.next () rfl (Imp.norm (js := [0]) rfl (.cons rfl (.cons rfl (.cons rfl (.cons rfl .nil)))))
      · refine JC.condF (.tmp rfl) hc3 ?_
        refine JC.exit ?_
        refine JQ.outX ?_
        replace hx := Option.some.inj hx
        first | subst hx | clear hx
        have ht := hr _ rfl
        clear hr
        first | subst ht | clear ht
        dsimp only at hq2
        refine JQ.outX ?_
        refine JQ.here ?_
        replace hq2 := Option.some.inj hq2
        first | subst hq2 | clear hq2
        exact JQ.joinK () () rfl (Imp.norm (js := [0]) rfl .nil)

theorem sim_slices_ContainsFuncuint64_uint64 (k : Nat) (s_1 : (List UInt64)) (x_2 : UInt64) (gb_3 : Nat) (r : Bool) (hm : slices_ContainsFuncuint64_uint64 k s_1 x_2 = some r) : Sim Try.prog 53 [S (rL (rU UInt64)) s_1, CLO 54 [PTR gb_3 0]] [cvar gb_3 (rU UInt64) x_2] (γ := Unit) (fun q => [cvar gb_3 (rU UInt64) x_2]) (fun q => .one (.val (S rB r))) := by
  unfold slices_ContainsFuncuint64_uint64 at hm
  refine Sim.of Try.func53 rfl rfl (Nat.le_of_ble_eq_true rfl) (fun e0 w0 => ?_)
  refine JC.at ⟨[(0, .one (.val (S (rL (rU UInt64)) s_1))), (1, .one (.val (CLO 54 [PTR gb_3 0])))], [cvar gb_3 (rU UInt64) x_2], []⟩ ?_
  refine JC.seq ?_
  refine JC.region ?_
  refine JL.cons rfl (op_assign (ltB rfl) .cB) ?_
  refine JL.nil ?_
  refine JQ.then ?_
  refine JC.seq ?_
  refine JC.region ?_
  refine JL.cons rfl (op_move (ltB rfl) (.tmp rfl)) ?_
  refine JL.cons rfl (op_move (ltB rfl) (.tmp rfl)) ?_
  replace hm := bnd_inv hm
  obtain ⟨v_4, hv_v_4, hm⟩ := hm
  refine JL.consX rfl (op_call (js := [0]) (ltD rfl) cl65 (sim_slices_IndexFuncuint64_uint64 k s_1 x_2 gb_3 v_4 hv_v_4) .func (.cons (.tmp rfl) (.cons (.tmp rfl) .nil)) rfl) (fun _ => ?_)
  refine JL.pre (Imp.sub (ρ' := [(4, .one (.val (S rB false))), (7, .one (.val (S (rI .i64) v_4)))]) (.cons rfl (.cons rfl .nil))) ?_
  refine JL.at ⟨[(4, .one (.val (S rB false))), (7, .one (.val (S (rI .i64) v_4)))], [cvar gb_3 (rU UInt64) x_2], []⟩ ?_
  replace hm := lt1_inv hm
  obtain ⟨v_5, hv_v_5, hm⟩ := hm
  refine JL.cons rfl (op_cmpI (ltB rfl) (.tmp rfl) .cI (congrArg some hv_v_5)) ?_
  refine JL.cons rfl (op_assign (ltB rfl) (.tmp rfl)) ?_
  refine JL.nil ?_
  refine JQ.then ?_
  refine JC.ret ?_
  replace hm := Option.some.inj hm
  subst hm
  exact JQ.done (js := [0]) (ss := [.val (S rB v_5)]) () (.inl rfl) (.nil rfl) rfl (.cons (.tmp rfl) .nil) rfl rfl rfl

theorem sim_sha_primes (k : Nat) (r : (List UInt64)) (hm : sha_primes k = some r) : Sim Try.prog 46 [] [] (γ := Option Nat × Nat) (fun q => [cown q.1 (rU UInt64) r (List.length r) q.2]) (fun q => .one (.val (HDR q.1 0 (List.length r) q.2))) := by
  unfold sha_primes at hm
  refine Sim.of Try.func46 rfl rfl (Nat.le_of_ble_eq_true rfl) (fun e0 w0 => ?_)
  refine JC.at ⟨[], [], []⟩ ?_
  refine JC.seq ?_
  refine JC.region ?_
  refine JL.cons rfl (op_assign (ltB rfl) HasO.nilH) ?_
  refine JL.nil ?_
  refine JQ.then ?_
  refine JC.seq ?_
  refine JC.region ?_
  refine JL.cons rfl (op_assign (ltB rfl) HasO.nilH) ?_
  refine JL.nil ?_
  refine JQ.then ?_
  replace hm := bnd_inv hm
  obtain ⟨l_18, hx1, hq1⟩ := hm
  refine JC.seqJ (γ := Option Nat × Nat) (stj := fun q => ⟨[(1, .one (.val (HDR q.1 0 (List.length l_18) q.2)))], [cown q.1 (rU UInt64) l_18 (List.length l_18) q.2], []⟩) (fun q => ?_) ?_
  · obtain ⟨go_19, gc_20⟩ := q
    refine JC.at ⟨[(1, .one (.val (HDR go_19 0 (List.length l_18) gc_20)))], [cown go_19 (rU UInt64) l_18 (List.length l_18) gc_20], []⟩ ?_
    refine JC.seq ?_
    refine JC.region ?_
    refine JL.cons rfl (op_move (ltB rfl) (.tmp rfl)) ?_
    refine JL.cons rfl (op_assign (ltB rfl) (.tmp rfl)) ?_
    refine JL.nil ?_
    refine JQ.then ?_
    refine JC.ret ?_
    replace hq1 := Option.some.inj hq1
    subst hq1
    exact JQ.done (js := [0]) (ss := [.val (HDR go_19 0 (List.length l_18) gc_20)]) (go_19, gc_20) (.inl rfl) (.nil rfl) rfl (.cons (.tmp rfl) .nil) rfl rfl rfl
  · refine JC.seq ?_
    refine JC.region ?_
    refine JL.consX rfl (op_alloc (ltB rfl) tZ23 zr23) (fun q => ?_)
    obtain ⟨gb_1, hqq⟩ : ∃ z, z = q := ⟨_, rfl⟩
    subst hqq
    refine JL.pre (Imp.sub (ρ' := [(1, .one (.val (HDR none 0 0 0))), (2, .one (.val (PTR gb_1 0)))]) (.cons rfl (.cons rfl .nil))) ?_
    refine JL.at ⟨[(1, .one (.val (HDR none 0 0 0))), (2, .one (.val (PTR gb_1 0)))], [cvar gb_1 (rU UInt64) (0 : UInt64)], []⟩ ?_
    refine JL.cons rfl (op_storeS (j := 0) tS23 (.tmp rfl) (HasO.cU (x := (2 : UInt64)) rfl (by decide)) rfl rfl (UpdR.self (by rfl)) rfl) ?_
    refine JL.pre (Imp.sub (ρ' := [(1, .one (.val (HDR none 0 0 0))), (2, .one (.val (PTR gb_1 0)))]) (.cons rfl (.cons rfl .nil))) ?_
    refine JL.at ⟨[(1, .one (.val (HDR none 0 0 0))), (2, .one (.val (PTR gb_1 0)))], [cvar gb_1 (rU UInt64) (2 : UInt64)], []⟩ ?_
    refine JL.nil ?_
    refine JQ.then ?_
    refine JC.block ?_
    refine JC.pre (Imp.nilown (rU UInt64)) ?_
    refine JC.pre (Imp.frz (j := 1) rfl ImpK.refl) ?_
    refine JC.pre ?_ (JC.loop (γ := Option Nat × Nat × Nat) (stf := fun s q => ⟨[(1, .one (.val (HDR q.1 0 (List.length s.1) q.2.1))), (2, .one (.val (PTR q.2.2 0)))], [cown q.1 (rU UInt64) s.1 (List.length s.1) q.2.1, cvar q.2.2 (rU UInt64) s.2], []⟩) (q := (none, 0, gb_1)) hx1 ?_)
    · exact (Imp.norm (js := [1, 0]) rfl (.cons rfl (.cons rfl .nil)))
    · intro s q x hx hr
      obtain ⟨l_2, n_3⟩ := s
      obtain ⟨go_4, gc_5, gb_6⟩ := q
      change sha_primes.b1 k l_2 n_3 = some x at hx
      unfold sha_primes.b1 at hx
      refine JC.at ⟨[(1, .one (.val (HDR go_4 0 (List.length l_2) gc_5))), (2, .one (.val (PTR gb_6 0)))], [cown go_4 (rU UInt64) l_2 (List.length l_2) gc_5, cvar gb_6 (rU UInt64) n_3], []⟩ ?_
      refine JC.seq ?_
      refine JC.seq ?_
      refine JC.region ?_
      refine JL.cons rfl (op_move (ltB rfl) (.tmp rfl)) ?_
      refine JL.cons rfl (op_lenH (ltB rfl) tu81 (.tmp rfl)) ?_
      replace hx := lt1_inv hx
      obtain ⟨v_7, hv_v_7, hx⟩ := hx
      refine JL.cons rfl (op_cmpI (ltB rfl) (.tmp rfl) .cI (congrArg some hv_v_7)) ?_
      refine JL.nil ?_
      refine JQ.then ?_
      replace hx := iteB_inv hx
      rcases hx with ⟨hc3, hx⟩ | ⟨hc3, hx⟩
      · refine JC.condT (.tmp rfl) hc3 ?_
        refine JC.skip ?_
        refine JQ.then ?_
        replace hx := bnd_inv hx
        obtain ⟨l_13, hx4, hq4⟩ := hx
        refine JC.seqJ (γ := Option Nat × Nat) (stj := fun q => ⟨[(1, .one (.val (HDR q.1 0 (List.length l_13) q.2))), (2, .one (.val (PTR gb_6 0)))], [cown q.1 (rU UInt64) l_13 (List.length l_13) q.2, cvar gb_6 (rU UInt64) n_3], []⟩) (fun q => ?_) ?_
        · obtain ⟨go_14, gc_15⟩ := q
          refine JC.at ⟨[(1, .one (.val (HDR go_14 0 (List.length l_13) gc_15))), (2, .one (.val (PTR gb_6 0)))], [cown go_14 (rU UInt64) l_13 (List.length l_13) gc_15, cvar gb_6 (rU UInt64) n_3], []⟩ ?_
          refine JC.seq ?_
          refine JC.seq ?_
          refine JC.region ?_
          refine JL.cons rfl (op_loadS (j := 1) (ltB rfl) tS23 (.tmp rfl) rfl (Comp.self (rU UInt64) n_3) rfl rfl) ?_
          refine JL.nil ?_
          refine JQ.then ?_
          refine JC.region ?_
          refine JL.consX rfl (op_alloc (ltB rfl) tZ23 zr23) (fun q => ?_)
          obtain ⟨gb_16, hqq⟩ : ∃ z, z = q := ⟨_, rfl⟩
          subst hqq
          refine JL.pre (Imp.norm (ρ' := [(1, .one (.val (HDR go_14 0 (List.length l_13) gc_15))), (2, .one (.val (PTR gb_16 0))), (16, .one (.val (S (rU UInt64) n_3)))]) (js := [0, 1]) rfl (.cons rfl (.cons rfl (.cons rfl .nil)))) ?_
          refine JL.at ⟨[(1, .one (.val (HDR go_14 0 (List.length l_13) gc_15))), (2, .one (.val (PTR gb_16 0))), (16, .one (.val (S (rU UInt64) n_3)))], [cown go_14 (rU UInt64) l_13 (List.length l_13) gc_15, cvar gb_16 (rU UInt64) (0 : UInt64)], []⟩ ?_
          refine JL.cons rfl (op_storeS (j := 1) tS23 (.tmp rfl) (.tmp rfl) rfl rfl (UpdR.self (by rfl)) rfl) ?_
          refine JL.pre (Imp.sub (ρ' := [(1, .one (.val (HDR go_14 0 (List.length l_13) gc_15))), (2, .one (.val (PTR gb_16 0)))]) (.cons rfl (.cons rfl .nil))) ?_
          refine JL.at ⟨[(1, .one (.val (HDR go_14 0 (List.length l_13) gc_15))), (2, .one (.val (PTR gb_16 0)))], [cown go_14 (rU UInt64) l_13 (List.length l_13) gc_15, cvar gb_16 (rU UInt64) n_3], []⟩ ?_
          refine JL.nil ?_
          refine JQ.then ?_
          refine JC.region ?_
          refine JL.cons rfl (op_loadS (j := 1) (ltB rfl) tS23 (.tmp rfl) rfl (Comp.self (rU UInt64) n_3) rfl rfl) ?_
          replace hq4 := lt1_inv hq4
          obtain ⟨v_17, hv_v_17, hq4⟩ := hq4
          refine JL.cons rfl (op_arU (ltB rfl) (.tmp rfl) (HasO.cU (x := (1 : UInt64)) rfl (by decide)) (congrArg some hv_v_17)) ?_
          refine JL.cons rfl (op_storeS (j := 1) tS23 (.tmp rfl) (.tmp rfl) rfl rfl (UpdR.self (by rfl)) rfl) ?_
          refine JL.pre (Imp.sub (ρ' := [(1, .one (.val (HDR go_14 0 (List.length l_13) gc_15))), (2, .one (.val (PTR gb_16 0)))]) (.cons rfl (.cons rfl .nil))) ?_
          refine JL.at ⟨[(1, .one (.val (HDR go_14 0 (List.length l_13) gc_15))), (2, .one (.val (PTR gb_16 0)))], [cown go_14 (rU UInt64) l_13 (List.length l_13) gc_15, cvar gb_16 (rU UInt64) v_17], []⟩ ?_
          refine JL.nil ?_
          replace hq4 := Option.some.inj hq4
          first | subst hq4 | clear hq4
          exact JQ.next (go_14, gc_15, gb_16) rfl (Imp.norm (js := [0, 0]) rfl (.cons rfl (.cons rfl .nil)))
        · refine JC.block ?_
          refine JC.seq ?_
          refine JC.region ?_
          refine JL.cons rfl (op_move (ltB rfl) (.tmp rfl)) ?_
          refine JL.cons rfl (op_makeFunc (ltB rfl) (.cons (.tmp rfl) .nil)) ?_
          replace hx4 := bnd_inv hx4
          obtain ⟨v_8, hv_v_8, hx4⟩ := hx4
          refine JL.pre (Imp.frz (j := 0) rfl (ImpK.slotH (s := 1) rfl (ImpK.slotH (s := 3) rfl (ImpK.slotH (s := 8) rfl ImpK.refl)))) ?_
          refine JL.consX rfl (op_call (js := [1]) (ltD rfl) cl53 (sim_slices_ContainsFuncuint64_uint64 k l_2 n_3 gb_6 v_8 hv_v_8) .func (.cons (HasO.wk (.tmp rfl) wkHL) (.cons (.tmp rfl) .nil)) rfl) (fun _ => ?_)
          refine JL.pre (Imp.sub (ρ' := [(1, .one (.val (HL go_4 (rU UInt64) l_2 gc_5))), (2, .one (.val (PTR gb_6 0))), (10, .one (.val (S rB v_8)))]) (.cons rfl (.cons rfl (.cons rfl .nil)))) ?_
          refine JL.at ⟨[(1, .one (.val (HL go_4 (rU UInt64) l_2 gc_5))), (2, .one (.val (PTR gb_6 0))), (10, .one (.val (S rB v_8)))], [cvar gb_6 (rU UInt64) n_3, cown go_4 (rU UInt64) l_2 (List.length l_2) gc_5], []⟩ ?_
          replace hx4 := lt1_inv hx4
          obtain ⟨v_9, hv_v_9, hx4⟩ := hx4
          refine JL.cons rfl (op_not (ltB rfl) (.tmp rfl) hv_v_9) ?_
          refine JL.nil ?_
          refine JQ.then ?_
          replace hx4 := iteB_inv hx4
          rcases hx4 with ⟨hc5, hx4⟩ | ⟨hc5, hx4⟩
          · refine JC.condT (.tmp rfl) hc5 ?_
            refine JC.region ?_
            refine JL.cons rfl (op_move (ltB rfl) (.tmp rfl)) ?_
            refine JL.cons rfl (op_loadS (j := 0) (ltB rfl) tS23 (.tmp rfl) rfl (Comp.self (rU UInt64) n_3) rfl rfl) ?_
            refine JL.cons rfl (op_buildF (r := (rU UInt64)) (ltB rfl) tu81 tz23 tZ23 rfl (Nat.le_of_ble_eq_true rfl) (.S rfl (.tmp rfl) .nil) rfl) ?_
            replace hx4 := bnd_inv hx4
            obtain ⟨x_10, hv_x_10, hx4⟩ := hx4
            refine JL.pre (Imp.slot (s := 12) rfl wkHH) ?_
            refine JL.pre (Imp.slot (s := 1) rfl wkHL) ?_
            refine JL.consX rfl (op_appendL (j := 1) (ltB rfl) tu81 tu81 rfl tB23 rfl (Nat.lt_of_lt_of_le Nat.zero_lt_one (Nat.le_of_ble_eq_true rfl)) (Nat.lt_of_lt_of_le Nat.zero_lt_one (Nat.le_of_ble_eq_true rfl))  rfl (.tmp rfl) (.tmp rfl) hv_x_10) (fun q => ?_)
            obtain ⟨go_11, gc_12⟩ := q
            refine JL.pre (Imp.sub (ρ' := [(1, .one (.val (S (rL (rU UInt64)) l_2))), (2, .one (.val (PTR gb_6 0))), (15, .one (.val (HDR go_11 0 (List.length x_10) gc_12)))]) (.cons rfl (.cons rfl (.cons rfl .nil)))) ?_
            refine JL.at ⟨[(1, .one (.val (S (rL (rU UInt64)) l_2))), (2, .one (.val (PTR gb_6 0))), (15, .one (.val (HDR go_11 0 (List.length x_10) gc_12)))], [cvar gb_6 (rU UInt64) n_3, cown go_11 (rU UInt64) x_10 (List.length l_2) gc_12], []⟩ ?_
            refine JL.cons rfl (op_assign (ltB rfl) (.tmp rfl)) ?_
            refine JL.nil ?_
            refine JQ.outNB ?_
            replace hx4 := Option.some.inj hx4
            first | subst hx4 | clear hx4
            refine JQ.pre (Imp.frz (j := 1) rfl ImpK.refl) ?_
            exact JQ.join (go_11, gc_12) (Imp.norm (js := [1, 0]) rfl (.cons rfl (.cons rfl .nil)))
          · refine JC.condF (.tmp rfl) hc5 ?_
            refine JC.skip ?_
            refine JQ.outNB ?_
            replace hx4 := Option.some.inj hx4
            first | subst hx4 | clear hx4
            refine JQ.pre (Imp.slot (s := 1) rfl wkHH) ?_
            exact JQ.join (go_4, gc_5) (Imp.norm (js := [1, 0]) rfl (.cons rfl (.cons rfl .nil)))
      · refine JC.condF (.tmp rfl) hc3 ?_
        refine JC.exit ?_
        refine JQ.outX ?_
        replace hx := Option.some.inj hx
        first | subst hx | clear hx
        have ht := hr _ rfl
        have hq2 := congrArg some ht
        clear hr ht
        refine JQ.outX ?_
        refine JQ.here ?_
        replace hq2 := Option.some.inj hq2
        first | subst hq2 | clear hq2
        exact JQ.join (go_4, gc_5) (Imp.norm (js := [0]) rfl (.cons rfl .nil))

theorem sim_math_bits_Mul64 (k : Nat) (x_1 : UInt64) (y_2 : UInt64) (r : UInt64 × UInt64) (hm : math_bits_Mul64 k x_1 y_2 = some r) : Sim Try.prog 66 [S (rU UInt64) x_1, S (rU UInt64) y_2] [] (γ := Unit) (fun q => []) (fun q => .tup [.val (S (rU UInt64) r.1), .val (S (rU UInt64) r.2)]) := by
  unfold math_bits_Mul64 at hm
  refine Sim.of Try.func66 rfl rfl (Nat.le_of_ble_eq_true rfl) (fun e0 w0 => ?_)
  refine JC.at ⟨[(0, .one (.val (S (rU UInt64) x_1))), (1, .one (.val (S (rU UInt64) y_2)))], [], []⟩ ?_
  refine JC.seq ?_
  refine JC.region ?_
  refine JL.cons rfl (op_assign (ltB rfl) (HasO.cU (x := (0 : UInt64)) rfl (by decide))) ?_
  refine JL.cons rfl (op_assign (ltB rfl) (HasO.cU (x := (0 : UInt64)) rfl (by decide))) ?_
  refine JL.nil ?_
  refine JQ.then ?_
  refine JC.seq ?_
  refine JC.region ?_
  refine JL.cons rfl (op_move (ltB rfl) (.tmp rfl)) ?_
  replace hm := lt1_inv hm
  obtain ⟨v_3, hv_v_3, hm⟩ := hm
  refine JL.cons rfl (op_arU (ltB rfl) (.tmp rfl) (HasO.cU (x := (4294967295 : UInt64)) rfl (by decide)) (congrArg some hv_v_3)) ?_
  refine JL.cons rfl (op_assign (ltB rfl) (.tmp rfl)) ?_
  refine JL.nil ?_
  refine JQ.then ?_
  refine JC.seq ?_
  refine JC.region ?_
  refine JL.cons rfl (op_move (ltB rfl) (.tmp rfl)) ?_
  refine JL.pre (Imp.sub (ρ' := [(0, .one (.val (S (rU UInt64) x_1))), (1, .one (.val (S (rU UInt64) y_2))), (6, .one (.val (S (rU UInt64) v_3))), (16, .one (.val (S (rU UInt64) x_1)))]) (.cons rfl (.cons rfl (.cons rfl (.cons rfl .nil))))) ?_
  refine JL.at ⟨[(0, .one (.val (S (rU UInt64) x_1))), (1, .one (.val (S (rU UInt64) y_2))), (6, .one (.val (S (rU UInt64) v_3))), (16, .one (.val (S (rU UInt64) x_1)))], [], []⟩ ?_
  replace hm := lt1_inv hm
  obtain ⟨v_4, hv_v_4, hm⟩ := hm
  refine JL.cons rfl (op_shrUU (ltB rfl) (.tmp rfl) (HasO.cU (x := (32 : UInt64)) rfl (by decide)) hv_v_4) ?_
  refine JL.cons rfl (op_assign (ltB rfl) (.tmp rfl)) ?_
  refine JL.nil ?_
  refine JQ.then ?_
  refine JC.seq ?_
  refine JC.region ?_
  refine JL.cons rfl (op_move (ltB rfl) (.tmp rfl)) ?_
  replace hm := lt1_inv hm
  obtain ⟨v_5, hv_v_5, hm⟩ := hm
  refine JL.cons rfl (op_arU (ltB rfl) (.tmp rfl) (HasO.cU (x := (4294967295 : UInt64)) rfl (by decide)) (congrArg some hv_v_5)) ?_
  refine JL.cons rfl (op_assign (ltB rfl) (.tmp rfl)) ?_
  refine JL.nil ?_
  refine JQ.then ?_
  refine JC.seq ?_
  refine JC.region ?_
  refine JL.cons rfl (op_move (ltB rfl) (.tmp rfl)) ?_
  refine JL.pre (Imp.sub (ρ' := [(0, .one (.val (S (rU UInt64) x_1))), (1, .one (.val (S (rU UInt64) y_2))), (6, .one (.val (S (rU UInt64) v_3))), (7, .one (.val (S (rU UInt64) v_4))), (8, .one (.val (S (rU UInt64) v_5))), (20, .one (.val (S (rU UInt64) y_2)))]) (.cons rfl (.cons rfl (.cons rfl (.cons rfl (.cons rfl (.cons rfl .nil))))))) ?_
  refine JL.at ⟨[(0, .one (.val (S (rU UInt64) x_1))), (1, .one (.val (S (rU UInt64) y_2))), (6, .one (.val (S (rU UInt64) v_3))), (7, .one (.val (S (rU UInt64) v_4))), (8, .one (.val (S (rU UInt64) v_5))), (20, .one (.val (S (rU UInt64) y_2)))], [], []⟩ ?_
  replace hm := lt1_inv hm
  obtain ⟨v_6, hv_v_6, hm⟩ := hm
  refine JL.cons rfl (op_shrUU (ltB rfl) (.tmp rfl) (HasO.cU (x := (32 : UInt64)) rfl (by decide)) hv_v_6) ?_
  refine JL.cons rfl (op_assign (ltB rfl) (.tmp rfl)) ?_
  refine JL.nil ?_
  refine JQ.then ?_
  refine JC.seq ?_
  refine JC.region ?_
  refine JL.cons rfl (op_move (ltB rfl) (.tmp rfl)) ?_
  refine JL.cons rfl (op_move (ltB rfl) (.tmp rfl)) ?_
  replace hm := lt1_inv hm
  obtain ⟨v_7, hv_v_7, hm⟩ := hm
  refine JL.cons rfl (op_arU (ltB rfl) (.tmp rfl) (.tmp rfl) (congrArg some hv_v_7)) ?_
  refine JL.cons rfl (op_assign (ltB rfl) (.tmp rfl)) ?_
  refine JL.pre (Imp.sub (ρ' := [(0, .one (.val (S (rU UInt64) x_1))), (1, .one (.val (S (rU UInt64) y_2))), (6, .one (.val (S (rU UInt64) v_3))), (7, .one (.val (S (rU UInt64) v_4))), (8, .one (.val (S (rU UInt64) v_5))), (9, .one (.val (S (rU UInt64) v_6))), (10, .one (.val (S (rU UInt64) v_7)))]) (.cons rfl (.cons rfl (.cons rfl (.cons rfl (.cons rfl (.cons rfl (.cons rfl .nil)))))))) ?_
  refine JL.at ⟨[(0, .one (.val (S (rU UInt64) x_1))), (1, .one (.val (S (rU UInt64) y_2))), (6, .one (.val (S (rU UInt64) v_3))), (7, .one (.val (S (rU UInt64) v_4))), (8, .one (.val (S (rU UInt64) v_5))), (9, .one (.val (S (rU UInt64) v_6))), (10, .one (.val (S (rU UInt64) v_7)))], [], []⟩ ?_
  refine JL.nil ?_
  refine JQ.then ?_
  refine JC.seq ?_
  refine JC.region ?_
  refine JL.cons rfl (op_move (ltB rfl) (.tmp rfl)) ?_
  refine JL.cons rfl (op_move (ltB rfl) (.tmp rfl)) ?_
  replace hm := lt1_inv hm
  obtain ⟨v_8, hv_v_8, hm⟩ := hm
  refine JL.cons rfl (op_arU (ltB rfl) (.tmp rfl) (.tmp rfl) (congrArg some hv_v_8)) ?_
  refine JL.cons rfl (op_move (ltB rfl) (.tmp rfl)) ?_
  replace hm := lt1_inv hm
  obtain ⟨v_9, hv_v_9, hm⟩ := hm
  refine JL.cons rfl (op_shrUU (ltB rfl) (.tmp rfl) (HasO.cU (x := (32 : UInt64)) rfl (by decide)) hv_v_9) ?_
  replace hm := lt1_inv hm
  obtain ⟨v_10, hv_v_10, hm⟩ := hm
  refine JL.cons rfl (op_arU (ltB rfl) (.tmp rfl) (.tmp rfl) (congrArg some hv_v_10)) ?_
  refine JL.pre (Imp.sub (ρ' := [(0, .one (.val (S (rU UInt64) x_1))), (1, .one (.val (S (rU UInt64) y_2))), (6, .one (.val (S (rU UInt64) v_3))), (7, .one (.val (S (rU UInt64) v_4))), (9, .one (.val (S (rU UInt64) v_6))), (30, .one (.val (S (rU UInt64) v_10)))]) (.cons rfl (.cons rfl (.cons rfl (.cons rfl (.cons rfl (.cons rfl .nil))))))) ?_
  refine JL.at ⟨[(0, .one (.val (S (rU UInt64) x_1))), (1, .one (.val (S (rU UInt64) y_2))), (6, .one (.val (S (rU UInt64) v_3))), (7, .one (.val (S (rU UInt64) v_4))), (9, .one (.val (S (rU UInt64) v_6))), (30, .one (.val (S (rU UInt64) v_10)))], [], []⟩ ?_
  refine JL.cons rfl (op_assign (ltB rfl) (.tmp rfl)) ?_
  refine JL.nil ?_
  refine JQ.then ?_
  refine JC.seq ?_
  refine JC.region ?_
  refine JL.cons rfl (op_move (ltB rfl) (.tmp rfl)) ?_
  replace hm := lt1_inv hm
  obtain ⟨v_11, hv_v_11, hm⟩ := hm
  refine JL.cons rfl (op_arU (ltB rfl) (.tmp rfl) (HasO.cU (x := (4294967295 : UInt64)) rfl (by decide)) (congrArg some hv_v_11)) ?_
  refine JL.cons rfl (op_assign (ltB rfl) (.tmp rfl)) ?_
  refine JL.nil ?_
  refine JQ.then ?_
  refine JC.seq ?_
  refine JC.region ?_
  refine JL.cons rfl (op_move (ltB rfl) (.tmp rfl)) ?_
  replace hm := lt1_inv hm
  obtain ⟨v_12, hv_v_12, hm⟩ := hm
  refine JL.cons rfl (op_shrUU (ltB rfl) (.tmp rfl) (HasO.cU (x := (32 : UInt64)) rfl (by decide)) hv_v_12) ?_
  refine JL.pre (Imp.sub (ρ' := [(0, .one (.val (S (rU UInt64) x_1))), (1, .one (.val (S (rU UInt64) y_2))), (6, .one (.val (S (rU UInt64) v_3))), (7, .one (.val (S (rU UInt64) v_4))), (9, .one (.val (S (rU UInt64) v_6))), (12, .one (.val (S (rU UInt64) v_11))), (34, .one (.val (S (rU UInt64) v_12)))]) (.cons rfl (.cons rfl (.cons rfl (.cons rfl (.cons rfl (.cons rfl (.cons rfl .nil)))))))) ?_
  refine JL.at ⟨[(0, .one (.val (S (rU UInt64) x_1))), (1, .one (.val (S (rU UInt64) y_2))), (6, .one (.val (S (rU UInt64) v_3))), (7, .one (.val (S (rU UInt64) v_4))), (9, .one (.val (S (rU UInt64) v_6))), (12, .one (.val (S (rU UInt64) v_11))), (34, .one (.val (S (rU UInt64) v_12)))], [], []⟩ ?_
  refine JL.cons rfl (op_assign (ltB rfl) (.tmp rfl)) ?_
  refine JL.nil ?_
  refine JQ.then ?_
  refine JC.seq ?_
  refine JC.region ?_
  refine JL.cons rfl (op_move (ltB rfl) (.tmp rfl)) ?_
  refine JL.cons rfl (op_move (ltB rfl) (.tmp rfl)) ?_
  refine JL.cons rfl (op_move (ltB rfl) (.tmp rfl)) ?_
  replace hm := lt1_inv hm
  obtain ⟨v_13, hv_v_13, hm⟩ := hm
  refine JL.cons rfl (op_arU (ltB rfl) (.tmp rfl) (.tmp rfl) (congrArg some hv_v_13)) ?_
  replace hm := lt1_inv hm
  obtain ⟨v_14, hv_v_14, hm⟩ := hm
  refine JL.cons rfl (op_arU (ltB rfl) (.tmp rfl) (.tmp rfl) (congrArg some hv_v_14)) ?_
  refine JL.pre (Imp.sub (ρ' := [(0, .one (.val (S (rU UInt64) x_1))), (1, .one (.val (S (rU UInt64) y_2))), (7, .one (.val (S (rU UInt64) v_4))), (9, .one (.val (S (rU UInt64) v_6))), (12, .one (.val (S (rU UInt64) v_11))), (13, .one (.val (S (rU UInt64) v_12))), (39, .one (.val (S (rU UInt64) v_14)))]) (.cons rfl (.cons rfl (.cons rfl (.cons rfl (.cons rfl (.cons rfl (.cons rfl .nil)))))))) ?_
  refine JL.at ⟨[(0, .one (.val (S (rU UInt64) x_1))), (1, .one (.val (S (rU UInt64) y_2))), (7, .one (.val (S (rU UInt64) v_4))), (9, .one (.val (S (rU UInt64) v_6))), (12, .one (.val (S (rU UInt64) v_11))), (13, .one (.val (S (rU UInt64) v_12))), (39, .one (.val (S (rU UInt64) v_14)))], [], []⟩ ?_
  refine JL.cons rfl (op_assign (ltB rfl) (.tmp rfl)) ?_
  refine JL.nil ?_
  refine JQ.then ?_
  refine JC.seq ?_
  refine JC.region ?_
  refine JL.cons rfl (op_move (ltB rfl) (.tmp rfl)) ?_
  refine JL.cons rfl (op_move (ltB rfl) (.tmp rfl)) ?_
  replace hm := lt1_inv hm
  obtain ⟨v_15, hv_v_15, hm⟩ := hm
  refine JL.cons rfl (op_arU (ltB rfl) (.tmp rfl) (.tmp rfl) (congrArg some hv_v_15)) ?_
  refine JL.cons rfl (op_move (ltB rfl) (.tmp rfl)) ?_
  replace hm := lt1_inv hm
  obtain ⟨v_16, hv_v_16, hm⟩ := hm
  refine JL.cons rfl (op_arU (ltB rfl) (.tmp rfl) (.tmp rfl) (congrArg some hv_v_16)) ?_
  refine JL.pre (Imp.sub (ρ' := [(0, .one (.val (S (rU UInt64) x_1))), (1, .one (.val (S (rU UInt64) y_2))), (12, .one (.val (S (rU UInt64) v_14))), (44, .one (.val (S (rU UInt64) v_16)))]) (.cons rfl (.cons rfl (.cons rfl (.cons rfl .nil))))) ?_
  refine JL.at ⟨[(0, .one (.val (S (rU UInt64) x_1))), (1, .one (.val (S (rU UInt64) y_2))), (12, .one (.val (S (rU UInt64) v_14))), (44, .one (.val (S (rU UInt64) v_16)))], [], []⟩ ?_
  refine JL.cons rfl (op_move (ltB rfl) (.tmp rfl)) ?_
  replace hm := lt1_inv hm
  obtain ⟨v_17, hv_v_17, hm⟩ := hm
  refine JL.cons rfl (op_shrUU (ltB rfl) (.tmp rfl) (HasO.cU (x := (32 : UInt64)) rfl (by decide)) hv_v_17) ?_
  replace hm := lt1_inv hm
  obtain ⟨v_18, hv_v_18, hm⟩ := hm
  refine JL.cons rfl (op_arU (ltB rfl) (.tmp rfl) (.tmp rfl) (congrArg some hv_v_18)) ?_
  refine JL.cons rfl (op_assign (ltB rfl) (.tmp rfl)) ?_
  refine JL.nil ?_
  refine JQ.then ?_
  refine JC.seq ?_
  refine JC.region ?_
  refine JL.cons rfl (op_move (ltB rfl) (.tmp rfl)) ?_
  refine JL.cons rfl (op_move (ltB rfl) (.tmp rfl)) ?_
  refine JL.pre (Imp.sub (ρ' := [(4, .one (.val (S (rU UInt64) v_18))), (48, .one (.val (S (rU UInt64) x_1))), (49, .one (.val (S (rU UInt64) y_2)))]) (.cons rfl (.cons rfl (.cons rfl .nil)))) ?_
  refine JL.at ⟨[(4, .one (.val (S (rU UInt64) v_18))), (48, .one (.val (S (rU UInt64) x_1))), (49, .one (.val (S (rU UInt64) y_2)))], [], []⟩ ?_
  replace hm := lt1_inv hm
  obtain ⟨v_19, hv_v_19, hm⟩ := hm
  refine JL.cons rfl (op_arU (ltB rfl) (.tmp rfl) (.tmp rfl) (congrArg some hv_v_19)) ?_
  refine JL.cons rfl (op_assign (ltB rfl) (.tmp rfl)) ?_
  refine JL.nil ?_
  refine JQ.then ?_
  refine JC.ret ?_
  replace hm := Option.some.inj hm
  subst hm
  exact JQ.done (js := []) (ss := [.val (S (rU UInt64) v_18), .val (S (rU UInt64) v_19)]) () (.inl rfl) (.nil rfl) rfl (.cons (.tmp rfl) (.cons (.tmp rfl) .nil)) rfl rfl rfl

theorem sim_sha_square (k : Nat) (x_1 : UInt64) (r : (Vector UInt64 2)) (hm : sha_square k x_1 = some r) : Sim Try.prog 60 [S (rU UInt64) x_1] [] (γ := Unit) (fun q => []) (fun q => .one (.val (A (rV 2 (rU UInt64)) r))) := by
  unfold sha_square at hm
  refine Sim.of Try.func60 rfl rfl (Nat.le_of_ble_eq_true rfl) (fun e0 w0 => ?_)
  refine JC.at ⟨[(0, .one (.val (S (rU UInt64) x_1)))], [], []⟩ ?_
  refine JC.seq ?_
  refine JC.region ?_
  refine JL.consX rfl (op_alloc (ltB rfl) tZ91 zr91) (fun q => ?_)
  obtain ⟨gb_2, hqq⟩ : ∃ z, z = q := ⟨_, rfl⟩
  subst hqq
  refine JL.pre (Imp.sub (ρ' := [(0, .one (.val (S (rU UInt64) x_1))), (2, .one (.val (PTR gb_2 0)))]) (.cons rfl (.cons rfl .nil))) ?_
  refine JL.at ⟨[(0, .one (.val (S (rU UInt64) x_1))), (2, .one (.val (PTR gb_2 0)))], [cvar gb_2 (rV 2 (rU UInt64)) (Vector.replicate 2 (0 : UInt64))], []⟩ ?_
  refine JL.nil ?_
  refine JQ.then ?_
  refine JC.seq ?_
  refine JC.region ?_
  refine JL.cons rfl (op_move (ltB rfl) (.tmp rfl)) ?_
  refine JL.cons rfl (op_move (ltB rfl) (.tmp rfl)) ?_
  replace hm := bnd_inv hm
  obtain ⟨⟨v_3, v_4⟩, hv_v_3, hm⟩ := hm
  refine JL.consX rfl (op_call (js := []) (ltD rfl) cl66 (sim_math_bits_Mul64 k x_1 x_1 (v_3, v_4) hv_v_3) .func (.cons (.tmp rfl) (.cons (.tmp rfl) .nil)) rfl) (fun _ => ?_)
  refine JL.cons rfl (op_move (ltB rfl) (.tmp rfl)) ?_
  refine JL.cons rfl (op_extract (i := 0) (ltB rfl) (.tmp rfl) rfl) ?_
  refine JL.cons rfl (op_extract (i := 1) (ltB rfl) (.tmp rfl) rfl) ?_
  refine JL.pre (Imp.sub (ρ' := [(2, .one (.val (PTR gb_2 0))), (9, .one (.val (S (rU UInt64) v_3))), (10, .one (.val (S (rU UInt64) v_4)))]) (.cons rfl (.cons rfl (.cons rfl .nil)))) ?_
  refine JL.at ⟨[(2, .one (.val (PTR gb_2 0))), (9, .one (.val (S (rU UInt64) v_3))), (10, .one (.val (S (rU UInt64) v_4)))], [cvar gb_2 (rV 2 (rU UInt64)) (Vector.replicate 2 (0 : UInt64))], []⟩ ?_
  refine JL.cons rfl (op_assign (ltB rfl) (.tmp rfl)) ?_
  refine JL.cons rfl (op_assign (ltB rfl) (.tmp rfl)) ?_
  refine JL.nil ?_
  refine JQ.then ?_
  refine JC.seq ?_
  refine JC.region ?_
  refine JL.cons rfl (op_move (ltB rfl) (.tmp rfl)) ?_
  refine JL.cons rfl (op_move (ltB rfl) (.tmp rfl)) ?_
  refine JL.cons rfl (op_build (ltB rfl) tZ91 zv91 tp91 (.S (off := 0) rfl (.tmp rfl) rfl ((Upd.at (off := 0) (i := 0) (Comp.self (rV 2 (rU UInt64)) (Vector.replicate 2 (0 : UInt64))) (by decide) rfl (Upd.self (rV 2 (rU UInt64)) (Vector.replicate 2 (0 : UInt64)) _)).R.at rfl) (.S (off := 1) rfl (.tmp rfl) rfl ((Upd.at (off := 0) (i := 1) (Comp.self (rV 2 (rU UInt64)) (Vector.set (Vector.replicate 2 (0 : UInt64)) 0 v_3 (by decide))) (by decide) rfl (Upd.self (rV 2 (rU UInt64)) (Vector.set (Vector.replicate 2 (0 : UInt64)) 0 v_3 (by decide)) _)).R.at rfl) .nil)) rfl) ?_
  refine JL.cons rfl (op_storeA (j := 0) tA91 (.tmp rfl) (.tmp rfl) rfl (UpdR.self (by rfl)) rfl) ?_
  refine JL.pre (Imp.sub (ρ' := [(2, .one (.val (PTR gb_2 0)))]) (.cons rfl .nil)) ?_
  refine JL.at ⟨[(2, .one (.val (PTR gb_2 0)))], [cvar gb_2 (rV 2 (rU UInt64)) (#v[v_3, v_4] : (Vector UInt64 2))], []⟩ ?_
  refine JL.nil ?_
  refine JQ.then ?_
  refine JC.ret ?_
  replace hm := Option.some.inj hm
  subst hm
  exact JQ.done (js := []) (ss := [.val (A (rV 2 (rU UInt64)) (#v[v_3, v_4] : (Vector UInt64 2)))]) () (.inl rfl) (.nil rfl) rfl (.cons (.cellA (j := 0) tA91 rfl rfl) .nil) rfl rfl rfl

end Go.Proofs.Ytnhiiabdoichlaa
