/- Walks. -/
import Derived.Test.YtkbkdfcakpbojaaT
namespace Go.Proofs.Ytkbkdfcakpbojaa
open Go Fw
set_option linter.unusedVariables false
set_option maxRecDepth 100000
set_option maxHeartbeats 4000000

theorem sim_ref01_Room (k : Nat) (n_1 : UInt64) (size_2 : Int) (r : Bool) (hm : ref01_Room k n_1 size_2 = some r) : Sim Try.prog 11 [S (rU UInt64) n_1, S (rI .i64) size_2] [] (γ := Unit) (fun q => []) (fun q => .one (.val (S rB r))) := by
  unfold ref01_Room at hm
  refine Sim.of Try.func11 rfl rfl (Nat.le_of_ble_eq_true rfl) (fun e0 w0 => ?_)
  refine JC.at ⟨[(0, .one (.val (S (rU UInt64) n_1))), (1, .one (.val (S (rI .i64) size_2)))], [], []⟩ ?_
  refine JC.seq ?_
  refine JC.region ?_
  refine JL.cons rfl (op_assign (ltB rfl) .cB) ?_
  refine JL.nil ?_
  refine JQ.then ?_
  refine JC.seq ?_
  obtain ⟨x_6, hx1, hq1⟩ := bnd_inv hm
  refine JC.seqJ (γ := Unit) (stj := fun q => ⟨[(0, .one (.val (S (rU UInt64) n_1))), (1, .one (.val (S (rI .i64) size_2))), (11, .one (.val (S rB x_6)))], [], []⟩) (fun q => ?_) ?_
  · obtain _ := q
    refine JC.at ⟨[(0, .one (.val (S (rU UInt64) n_1))), (1, .one (.val (S (rI .i64) size_2))), (11, .one (.val (S rB x_6)))], [], []⟩ ?_
    rcases iteB_inv hq1 with ⟨hc5, hq1⟩ | ⟨hc5, hq1⟩
    · refine JC.condT (.tmp rfl) hc5 ?_
      refine JC.seq ?_
      refine JC.region ?_
      refine JL.cons rfl (op_assign (ltB rfl) .cB) ?_
      refine JL.nil ?_
      refine JQ.then ?_
      refine JC.ret ?_
      refine JQ.outR ?_
      replace hq1 := Option.some.inj hq1
      subst hq1
      exact JQ.done (js := []) (ss := [.val (S rB false)]) () (.inl rfl) (.nil rfl) rfl (.cons (.tmp rfl) .nil) rfl rfl rfl
    · refine JC.condF (.tmp rfl) hc5 ?_
      refine JC.skip ?_
      refine JQ.then ?_
      obtain ⟨n_12, hx6, hq6⟩ := bnd_inv hq1
      refine JC.seqJ (γ := Unit) (stj := fun q => ⟨[(0, .one (.val (S (rU UInt64) n_12)))], [], []⟩) (fun q => ?_) ?_
      · obtain _ := q
        refine JC.at ⟨[(0, .one (.val (S (rU UInt64) n_12)))], [], []⟩ ?_
        refine JC.seq ?_
        refine JC.region ?_
        refine JL.cons rfl (op_move (ltB rfl) (.tmp rfl)) ?_
        replace hq6 := lt1_inv hq6
        obtain ⟨v_13, hv_v_13, hq6⟩ := hq6
        refine JL.cons rfl (op_cmpU (ltB rfl) (.tmp rfl) (HasO.cU (x := (0 : UInt64)) rfl (by decide)) (congrArg some hv_v_13)) ?_
        refine JL.cons rfl (op_assign (ltB rfl) (.tmp rfl)) ?_
        refine JL.nil ?_
        refine JQ.then ?_
        refine JC.ret ?_
        replace hq6 := Option.some.inj hq6
        subst hq6
        exact JQ.done (js := []) (ss := [.val (S rB v_13)]) () (.inl rfl) (.nil rfl) rfl (.cons (.tmp rfl) .nil) rfl rfl rfl
      · refine JC.seq ?_
        refine JC.region ?_
        refine JL.cons rfl (op_assign (ltB rfl) .cI) ?_
        refine JL.nil ?_
        refine JQ.then ?_
        refine JC.block ?_
        refine JC.pre ?_ (JC.loop (γ := Unit) (stf := fun s q => ⟨[(0, .one (.val (S (rU UInt64) s.1))), (1, .one (.val (S (rI .i64) size_2))), (5, .one (.val (S (rI .i64) s.2)))], [], []⟩) (q := ()) hx6 ?_)
        · exact (Imp.norm (js := []) rfl (.cons rfl (.cons rfl (.cons rfl .nil))))
        · intro s q x hx hr
          obtain ⟨n_7, i_8⟩ := s
          obtain _ := q
          change ref01_Room.b1 k size_2 n_7 i_8 = some x at hx
          unfold ref01_Room.b1 at hx
          refine JC.at ⟨[(0, .one (.val (S (rU UInt64) n_7))), (1, .one (.val (S (rI .i64) size_2))), (5, .one (.val (S (rI .i64) i_8)))], [], []⟩ ?_
          refine JC.seq ?_
          refine JC.seq ?_
          refine JC.region ?_
          refine JL.cons rfl (op_move (ltB rfl) (.tmp rfl)) ?_
          refine JL.cons rfl (op_move (ltB rfl) (.tmp rfl)) ?_
          replace hx := lt1_inv hx
          obtain ⟨v_9, hv_v_9, hx⟩ := hx
          refine JL.cons rfl (op_cmpI (ltB rfl) (.tmp rfl) (.tmp rfl) (congrArg some hv_v_9)) ?_
          refine JL.nil ?_
          refine JQ.then ?_
          rcases iteB_inv hx with ⟨hc8, hx⟩ | ⟨hc8, hx⟩
          · refine JC.condT (.tmp rfl) hc8 ?_
            refine JC.skip ?_
            refine JQ.then ?_
            refine JC.seq ?_
            refine JC.block ?_
            refine JC.region ?_
            refine JL.cons rfl (op_move (ltB rfl) (.tmp rfl)) ?_
            replace hx := bnd_inv hx
            obtain ⟨v_10, hv_v_10, hx⟩ := hx
            refine JL.cons rfl (op_arU (ltB rfl) (.tmp rfl) (HasO.cU (x := (256 : UInt64)) rfl (by decide)) hv_v_10) ?_
            refine JL.cons rfl (op_assign (ltB rfl) (.tmp rfl)) ?_
            refine JL.pre (Imp.sub (ρ' := [(0, .one (.val (S (rU UInt64) v_10))), (1, .one (.val (S (rI .i64) size_2))), (5, .one (.val (S (rI .i64) i_8)))]) (.cons rfl (.cons rfl (.cons rfl .nil)))) ?_
            refine JL.at ⟨[(0, .one (.val (S (rU UInt64) v_10))), (1, .one (.val (S (rI .i64) size_2))), (5, .one (.val (S (rI .i64) i_8)))], [], []⟩ ?_
            refine JL.nil ?_
            refine JQ.outNB ?_
            refine JQ.then ?_
            refine JC.region ?_
            refine JL.cons rfl (op_move (ltB rfl) (.tmp rfl)) ?_
            replace hx := lt1_inv hx
            obtain ⟨v_11, hv_v_11, hx⟩ := hx
            refine JL.cons rfl (op_arI (ltB rfl) (.tmp rfl) .cI (congrArg some hv_v_11)) ?_
            refine JL.cons rfl (op_assign (ltB rfl) (.tmp rfl)) ?_
            refine JL.nil ?_
            replace hx := Option.some.inj hx
            subst hx
            exact JQ.next () rfl (Imp.norm (js := []) rfl (.cons rfl (.cons rfl (.cons rfl .nil))))
          · refine JC.condF (.tmp rfl) hc8 ?_
            refine JC.exit ?_
            refine JQ.outX ?_
            replace hx := Option.some.inj hx
            subst hx
            have ht := hr _ rfl
            have hq7 := congrArg some ht
            clear hr ht
            refine JQ.outX ?_
            refine JQ.here ?_
            replace hq7 := Option.some.inj hq7
            subst hq7
            exact JQ.join () (Imp.norm (js := []) rfl (.cons rfl .nil))
  · refine JC.region ?_
    refine JL.cons rfl (op_move (ltB rfl) (.tmp rfl)) ?_
    replace hx1 := lt1_inv hx1
    obtain ⟨v_3, hv_v_3, hx1⟩ := hx1
    refine JL.cons rfl (op_cmpI (ltB rfl) (.tmp rfl) .cI (congrArg some hv_v_3)) ?_
    refine JL.cons rfl (op_move (ltB rfl) (.tmp rfl)) ?_
    refine JL.cnd (sv := .one (.val (S (rI .i64) size_2))) (Guard.isF (ltB rfl) rfl rfl) rfl (ltB rfl) (fun hq_2 => op_move (ltB rfl) (.tmp rfl)) ?_
    replace hx1 := lt1_inv hx1
    obtain ⟨v_4, hv_v_4, hx1⟩ := hx1
    refine JL.cnd (sv := .one (.val (S rB v_4))) (Guard.isF (ltB rfl) rfl rfl) rfl (ltB rfl) (fun hq_3 => op_cmpI (ltB rfl) (HasO.cnd (.tmp rfl) (notT (notF hq_3))) .cI (congrArg some hv_v_4)) ?_
    refine JL.pre (Imp.sub (ρ' := [(0, .one (.val (S (rU UInt64) n_1))), (1, .one (.val (S (rI .i64) size_2))), (8, .one (.val (S rB v_3))), (10, bif (!v_3) then .one (.val (S rB v_4)) else .one .und)]) (.cons rfl (.cons rfl (.cons rfl (.cons rfl .nil))))) ?_
    refine JL.at ⟨[(0, .one (.val (S (rU UInt64) n_1))), (1, .one (.val (S (rI .i64) size_2))), (8, .one (.val (S rB v_3))), (10, bif (!v_3) then .one (.val (S rB v_4)) else .one .und)], [], []⟩ ?_
    replace hx1 := lt1_inv hx1
    obtain ⟨v_5, hv_v_5, hx1⟩ := hx1
    refine JL.cons rfl (op_pickCS (ltB rfl) (.tmp rfl) (fun hb4 => .cB) (fun hb4 => (HasO.cnd (.tmp rfl) (notT hb4))) hv_v_5) ?_
    refine JL.nil ?_
    replace hx1 := Option.some.inj hx1
    subst hx1
    exact JQ.join () (Imp.norm (js := []) rfl (.cons rfl (.cons rfl (.cons rfl .nil))))

theorem sim_ref01_Put (k : Nat) (n_1 : UInt64) (size_2 : Int) (r : (List UInt8)) (hm : ref01_Put k n_1 size_2 = some r) : Sim Try.prog 12 [S (rU UInt64) n_1, S (rI .i64) size_2] [] (γ := Option Nat) (fun q => [cown q (rU UInt8) r 0 (Int.toNat size_2)]) (fun q => .one (.val (HDR q 0 (List.length r) (Int.toNat size_2)))) := by
  unfold ref01_Put at hm
  refine Sim.of Try.func12 rfl rfl (Nat.le_of_ble_eq_true rfl) (fun e0 w0 => ?_)
  refine JC.at ⟨[(0, .one (.val (S (rU UInt64) n_1))), (1, .one (.val (S (rI .i64) size_2)))], [], []⟩ ?_
  refine JC.seq ?_
  refine JC.region ?_
  refine JL.cons rfl (op_assign (ltB rfl) HasO.nilH) ?_
  refine JL.nil ?_
  refine JQ.then ?_
  refine JC.seq ?_
  refine JC.region ?_
  refine JL.cons rfl (op_move (ltB rfl) (.tmp rfl)) ?_
  replace hm := bnd_inv hm
  obtain ⟨v_3, hv_v_3, hm⟩ := hm
  refine JL.consX rfl (op_makeOg (ltB rfl) tu23 tB5 zv5 (.tmp rfl) (.tmp rfl) hv_v_3) (fun q => ?_)
  obtain ⟨gb_4, hqq⟩ : ∃ z, z = q := ⟨_, rfl⟩
  subst hqq
  refine JL.pre (Imp.sub (ρ' := [(0, .one (.val (S (rU UInt64) n_1))), (1, .one (.val (S (rI .i64) size_2))), (8, .one (.val (HDR (some gb_4) 0 (List.length v_3) (Int.toNat size_2))))]) (.cons rfl (.cons rfl (.cons rfl .nil)))) ?_
  refine JL.at ⟨[(0, .one (.val (S (rU UInt64) n_1))), (1, .one (.val (S (rI .i64) size_2))), (8, .one (.val (HDR (some gb_4) 0 (List.length v_3) (Int.toNat size_2))))], [cown (some gb_4) (rU UInt8) v_3 0 (Int.toNat size_2)], []⟩ ?_
  refine JL.cons rfl (op_assign (ltB rfl) (.tmp rfl)) ?_
  refine JL.nil ?_
  refine JQ.then ?_
  obtain ⟨b_16, hx1, hq1⟩ := bnd_inv hm
  refine JC.seqJ (γ := Unit) (stj := fun q => ⟨[(5, .one (.val (HDR (some gb_4) 0 (List.length b_16) (Int.toNat size_2))))], [cown (some gb_4) (rU UInt8) b_16 0 (Int.toNat size_2)], []⟩) (fun q => ?_) ?_
  · obtain _ := q
    refine JC.at ⟨[(5, .one (.val (HDR (some gb_4) 0 (List.length b_16) (Int.toNat size_2))))], [cown (some gb_4) (rU UInt8) b_16 0 (Int.toNat size_2)], []⟩ ?_
    refine JC.seq ?_
    refine JC.region ?_
    refine JL.cons rfl (op_move (ltB rfl) (.tmp rfl)) ?_
    refine JL.cons rfl (op_assign (ltB rfl) (.tmp rfl)) ?_
    refine JL.nil ?_
    refine JQ.then ?_
    refine JC.ret ?_
    replace hq1 := Option.some.inj hq1
    subst hq1
    exact JQ.done (js := [0]) (ss := [.val (HDR (some gb_4) 0 (List.length b_16) (Int.toNat size_2))]) (some gb_4) (.inl rfl) (.nil rfl) rfl (.cons (.tmp rfl) .nil) rfl rfl rfl
  · refine JC.seq ?_
    refine JC.region ?_
    refine JL.cons rfl (op_move (ltB rfl) (.tmp rfl)) ?_
    replace hx1 := lt1_inv hx1
    obtain ⟨v_5, hv_v_5, hx1⟩ := hx1
    refine JL.cons rfl (op_arI (ltB rfl) (.tmp rfl) .cI (congrArg some hv_v_5)) ?_
    refine JL.cons rfl (op_assign (ltB rfl) (.tmp rfl)) ?_
    refine JL.nil ?_
    refine JQ.then ?_
    refine JC.block ?_
    refine JC.pre ?_ (JC.loop (γ := Unit) (stf := fun s q => ⟨[(0, .one (.val (S (rU UInt64) s.1))), (5, .one (.val (HDR (some gb_4) 0 (List.length s.2.1) (Int.toNat size_2)))), (6, .one (.val (S (rI .i64) s.2.2)))], [cown (some gb_4) (rU UInt8) s.2.1 0 (Int.toNat size_2)], []⟩) (q := ()) hx1 ?_)
    · exact (Imp.norm (js := [0]) rfl (.cons rfl (.cons rfl (.cons rfl .nil))))
    · intro s q x hx hr
      obtain ⟨n_6, b_7, i_8⟩ := s
      obtain _ := q
      change ref01_Put.b1 k n_6 b_7 i_8 = some x at hx
      unfold ref01_Put.b1 at hx
      refine JC.at ⟨[(0, .one (.val (S (rU UInt64) n_6))), (5, .one (.val (HDR (some gb_4) 0 (List.length b_7) (Int.toNat size_2)))), (6, .one (.val (S (rI .i64) i_8)))], [cown (some gb_4) (rU UInt8) b_7 0 (Int.toNat size_2)], []⟩ ?_
      refine JC.seq ?_
      refine JC.seq ?_
      refine JC.region ?_
      refine JL.cons rfl (op_move (ltB rfl) (.tmp rfl)) ?_
      replace hx := lt1_inv hx
      obtain ⟨v_9, hv_v_9, hx⟩ := hx
      refine JL.cons rfl (op_cmpI (ltB rfl) (.tmp rfl) .cI (congrArg some hv_v_9)) ?_
      refine JL.nil ?_
      refine JQ.then ?_
      rcases iteB_inv hx with ⟨hc3, hx⟩ | ⟨hc3, hx⟩
      · refine JC.condT (.tmp rfl) hc3 ?_
        refine JC.skip ?_
        refine JQ.then ?_
        refine JC.seq ?_
        refine JC.block ?_
        refine JC.seq ?_
        refine JC.region ?_
        refine JL.cons rfl (op_move (ltB rfl) (.tmp rfl)) ?_
        refine JL.cons rfl (op_move (ltB rfl) (.tmp rfl)) ?_
        refine JL.cons rfl (op_move (ltB rfl) (.tmp rfl)) ?_
        replace hx := bnd_inv hx
        obtain ⟨v_10, hv_v_10, hx⟩ := hx
        refine JL.cons rfl (op_arU (ltB rfl) (.tmp rfl) (HasO.cU (x := (256 : UInt64)) rfl (by decide)) hv_v_10) ?_
        refine JL.pre (Imp.sub (ρ' := [(0, .one (.val (S (rU UInt64) n_6))), (5, .one (.val (HDR (some gb_4) 0 (List.length b_7) (Int.toNat size_2)))), (6, .one (.val (S (rI .i64) i_8))), (15, .one (.val (HDR (some gb_4) 0 (List.length b_7) (Int.toNat size_2)))), (16, .one (.val (S (rI .i64) i_8))), (18, .one (.val (S (rU UInt64) v_10)))]) (.cons rfl (.cons rfl (.cons rfl (.cons rfl (.cons rfl (.cons rfl .nil))))))) ?_
        refine JL.at ⟨[(0, .one (.val (S (rU UInt64) n_6))), (5, .one (.val (HDR (some gb_4) 0 (List.length b_7) (Int.toNat size_2)))), (6, .one (.val (S (rI .i64) i_8))), (15, .one (.val (HDR (some gb_4) 0 (List.length b_7) (Int.toNat size_2)))), (16, .one (.val (S (rI .i64) i_8))), (18, .one (.val (S (rU UInt64) v_10)))], [cown (some gb_4) (rU UInt8) b_7 0 (Int.toNat size_2)], []⟩ ?_
        replace hx := lt1_inv hx
        obtain ⟨v_11, hv_v_11, hx⟩ := hx
        refine JL.cons rfl (op_convUU (ltB rfl) tu22 tu5 (.tmp rfl) hv_v_11) ?_
        replace hx := bnd_inv hx
        obtain ⟨i_12, hv_i_12, hx⟩ := hx
        refine JL.cons rfl (op_indexAddrOF (j := 0) (ltB rfl) tu23 tz5 rfl (.tmp rfl) (.tmp rfl) hv_i_12) ?_
        replace hx := bnd_inv hx
        obtain ⟨b_13, hv_b_13, hx⟩ := hx
        refine JL.cons rfl (op_storeOSg (r := (rU UInt8)) (j := 0) tS5 rfl rfl (.tmp rfl) (.tmp rfl) hv_b_13) ?_
        refine JL.pre (Imp.slot (s := 5) (q := HDR (some gb_4) 0 (List.length b_13) (Int.toNat size_2)) rfl (wkLen (setO'_len hv_b_13))) ?_
        refine JL.pre (Imp.slot (s := 15) (q := HDR (some gb_4) 0 (List.length b_13) (Int.toNat size_2)) rfl (wkLen (setO'_len hv_b_13))) ?_
        refine JL.pre (Imp.sub (ρ' := [(0, .one (.val (S (rU UInt64) n_6))), (5, .one (.val (HDR (some gb_4) 0 (List.length b_13) (Int.toNat size_2)))), (6, .one (.val (S (rI .i64) i_8)))]) (.cons rfl (.cons rfl (.cons rfl .nil)))) ?_
        refine JL.at ⟨[(0, .one (.val (S (rU UInt64) n_6))), (5, .one (.val (HDR (some gb_4) 0 (List.length b_13) (Int.toNat size_2)))), (6, .one (.val (S (rI .i64) i_8)))], [cown (some gb_4) (rU UInt8) b_13 0 (Int.toNat size_2)], []⟩ ?_
        refine JL.nil ?_
        refine JQ.then ?_
        refine JC.region ?_
        refine JL.cons rfl (op_move (ltB rfl) (.tmp rfl)) ?_
        replace hx := bnd_inv hx
        obtain ⟨v_14, hv_v_14, hx⟩ := hx
        refine JL.cons rfl (op_arU (ltB rfl) (.tmp rfl) (HasO.cU (x := (256 : UInt64)) rfl (by decide)) hv_v_14) ?_
        refine JL.cons rfl (op_assign (ltB rfl) (.tmp rfl)) ?_
        refine JL.nil ?_
        refine JQ.outNB ?_
        refine JQ.then ?_
        refine JC.region ?_
        refine JL.cons rfl (op_move (ltB rfl) (.tmp rfl)) ?_
        replace hx := lt1_inv hx
        obtain ⟨v_15, hv_v_15, hx⟩ := hx
        refine JL.cons rfl (op_arI (ltB rfl) (.tmp rfl) .cI (congrArg some hv_v_15)) ?_
        refine JL.cons rfl (op_assign (ltB rfl) (.tmp rfl)) ?_
        refine JL.pre (Imp.sub (ρ' := [(0, .one (.val (S (rU UInt64) v_14))), (5, .one (.val (HDR (some gb_4) 0 (List.length b_13) (Int.toNat size_2)))), (6, .one (.val (S (rI .i64) v_15)))]) (.cons rfl (.cons rfl (.cons rfl .nil)))) ?_
        refine JL.at ⟨[(0, .one (.val (S (rU UInt64) v_14))), (5, .one (.val (HDR (some gb_4) 0 (List.length b_13) (Int.toNat size_2)))), (6, .one (.val (S (rI .i64) v_15)))], [cown (some gb_4) (rU UInt8) b_13 0 (Int.toNat size_2)], []⟩ ?_
        refine JL.nil ?_
        replace hx := Option.some.inj hx
        subst hx
        exact JQ.next () rfl (Imp.norm (js := [0]) rfl (.cons rfl (.cons rfl (.cons rfl .nil))))
      · refine JC.condF (.tmp rfl) hc3 ?_
        refine JC.exit ?_
        refine JQ.outX ?_
        replace hx := Option.some.inj hx
        subst hx
        have ht := hr _ rfl
        have hq2 := congrArg some ht
        clear hr ht
        refine JQ.outX ?_
        refine JQ.here ?_
        replace hq2 := Option.some.inj hq2
        subst hq2
        exact JQ.join () (Imp.norm (js := [0]) rfl (.cons rfl .nil))

theorem sim_ref01_Get (k : Nat) (b_1 : (List UInt8)) (r : UInt64) (hm : ref01_Get k b_1 = some r) : Sim Try.prog 15 [S (rL (rU UInt8)) b_1] [] (γ := Unit) (fun q => []) (fun q => .one (.val (S (rU UInt64) r))) := by
  unfold ref01_Get at hm
  refine Sim.of Try.func15 rfl rfl (Nat.le_of_ble_eq_true rfl) (fun e0 w0 => ?_)
  refine JC.at ⟨[(0, .one (.val (S (rL (rU UInt8)) b_1)))], [], []⟩ ?_
  refine JC.seq ?_
  refine JC.region ?_
  refine JL.cons rfl (op_assign (ltB rfl) (HasO.cU (x := (0 : UInt64)) rfl (by decide))) ?_
  refine JL.nil ?_
  refine JQ.then ?_
  refine JC.seq ?_
  refine JC.region ?_
  refine JL.cons rfl (op_assign (ltB rfl) (HasO.cU (x := (0 : UInt64)) rfl (by decide))) ?_
  refine JL.nil ?_
  refine JQ.then ?_
  obtain ⟨n_10, hx1, hq1⟩ := bnd_inv hm
  refine JC.seqJ (γ := Unit) (stj := fun q => ⟨[(3, .one (.val (S (rU UInt64) n_10)))], [], []⟩) (fun q => ?_) ?_
  · obtain _ := q
    refine JC.at ⟨[(3, .one (.val (S (rU UInt64) n_10)))], [], []⟩ ?_
    refine JC.seq ?_
    refine JC.region ?_
    refine JL.cons rfl (op_move (ltB rfl) (.tmp rfl)) ?_
    refine JL.cons rfl (op_assign (ltB rfl) (.tmp rfl)) ?_
    refine JL.nil ?_
    refine JQ.then ?_
    refine JC.ret ?_
    replace hq1 := Option.some.inj hq1
    subst hq1
    exact JQ.done (js := []) (ss := [.val (S (rU UInt64) n_10)]) () (.inl rfl) (.nil rfl) rfl (.cons (.tmp rfl) .nil) rfl rfl rfl
  · refine JC.seq ?_
    refine JC.region ?_
    refine JL.cons rfl (op_assign (ltB rfl) .cI) ?_
    refine JL.nil ?_
    refine JQ.then ?_
    refine JC.block ?_
    refine JC.pre ?_ (JC.loop (γ := Unit) (stf := fun s q => ⟨[(0, .one (.val (S (rL (rU UInt8)) b_1))), (3, .one (.val (S (rU UInt64) s.1))), (4, .one (.val (S (rI .i64) s.2)))], [], []⟩) (q := ()) hx1 ?_)
    · exact (Imp.norm (js := []) rfl (.cons rfl (.cons rfl (.cons rfl .nil))))
    · intro s q x hx hr
      obtain ⟨n_2, i_3⟩ := s
      obtain _ := q
      change ref01_Get.b1 k b_1 n_2 i_3 = some x at hx
      unfold ref01_Get.b1 at hx
      refine JC.at ⟨[(0, .one (.val (S (rL (rU UInt8)) b_1))), (3, .one (.val (S (rU UInt64) n_2))), (4, .one (.val (S (rI .i64) i_3)))], [], []⟩ ?_
      refine JC.seq ?_
      refine JC.seq ?_
      refine JC.region ?_
      refine JL.cons rfl (op_move (ltB rfl) (.tmp rfl)) ?_
      refine JL.cons rfl (op_move (ltB rfl) (.tmp rfl)) ?_
      refine JL.cons rfl (op_lenL (ltB rfl) tu23 (.tmp rfl)) ?_
      replace hx := lt1_inv hx
      obtain ⟨v_4, hv_v_4, hx⟩ := hx
      refine JL.cons rfl (op_cmpI (ltB rfl) (.tmp rfl) (.tmp rfl) (congrArg some hv_v_4)) ?_
      refine JL.nil ?_
      refine JQ.then ?_
      rcases iteB_inv hx with ⟨hc3, hx⟩ | ⟨hc3, hx⟩
      · refine JC.condT (.tmp rfl) hc3 ?_
        refine JC.skip ?_
        refine JQ.then ?_
        refine JC.seq ?_
        refine JC.block ?_
        refine JC.region ?_
        refine JL.cons rfl (op_move (ltB rfl) (.tmp rfl)) ?_
        replace hx := lt1_inv hx
        obtain ⟨v_5, hv_v_5, hx⟩ := hx
        refine JL.cons rfl (op_arU (ltB rfl) (.tmp rfl) (HasO.cU (x := (256 : UInt64)) rfl (by decide)) (congrArg some hv_v_5)) ?_
        refine JL.pre (Imp.sub (ρ' := [(0, .one (.val (S (rL (rU UInt8)) b_1))), (3, .one (.val (S (rU UInt64) n_2))), (4, .one (.val (S (rI .i64) i_3))), (12, .one (.val (S (rU UInt64) v_5)))]) (.cons rfl (.cons rfl (.cons rfl (.cons rfl .nil))))) ?_
        refine JL.at ⟨[(0, .one (.val (S (rL (rU UInt8)) b_1))), (3, .one (.val (S (rU UInt64) n_2))), (4, .one (.val (S (rI .i64) i_3))), (12, .one (.val (S (rU UInt64) v_5)))], [], []⟩ ?_
        refine JL.cons rfl (op_move (ltB rfl) (.tmp rfl)) ?_
        refine JL.cons rfl (op_move (ltB rfl) (.tmp rfl)) ?_
        replace hx := bnd_inv hx
        obtain ⟨v_6, hv_v_6, hx⟩ := hx
        refine JL.cons rfl (op_indexAddrLg (ltB rfl) tu23 tz5 (.tmp rfl) (.tmp rfl) hv_v_6) ?_
        refine JL.cons rfl (op_loadPSg (ltB rfl) tS5 rfl (.tmp rfl) rfl) ?_
        replace hx := lt1_inv hx
        obtain ⟨v_7, hv_v_7, hx⟩ := hx
        refine JL.cons rfl (op_convUU (ltB rfl) tu5 tu22 (.tmp rfl) hv_v_7) ?_
        replace hx := lt1_inv hx
        obtain ⟨v_8, hv_v_8, hx⟩ := hx
        refine JL.cons rfl (op_arU (ltB rfl) (.tmp rfl) (.tmp rfl) (congrArg some hv_v_8)) ?_
        refine JL.pre (Imp.sub (ρ' := [(0, .one (.val (S (rL (rU UInt8)) b_1))), (3, .one (.val (S (rU UInt64) n_2))), (4, .one (.val (S (rI .i64) i_3))), (18, .one (.val (S (rU UInt64) v_8)))]) (.cons rfl (.cons rfl (.cons rfl (.cons rfl .nil))))) ?_
        refine JL.at ⟨[(0, .one (.val (S (rL (rU UInt8)) b_1))), (3, .one (.val (S (rU UInt64) n_2))), (4, .one (.val (S (rI .i64) i_3))), (18, .one (.val (S (rU UInt64) v_8)))], [], []⟩ ?_
        refine JL.cons rfl (op_assign (ltB rfl) (.tmp rfl)) ?_
        refine JL.nil ?_
        refine JQ.outNB ?_
        refine JQ.then ?_
        refine JC.region ?_
        refine JL.cons rfl (op_move (ltB rfl) (.tmp rfl)) ?_
        replace hx := lt1_inv hx
        obtain ⟨v_9, hv_v_9, hx⟩ := hx
        refine JL.cons rfl (op_arI (ltB rfl) (.tmp rfl) .cI (congrArg some hv_v_9)) ?_
        refine JL.cons rfl (op_assign (ltB rfl) (.tmp rfl)) ?_
        refine JL.nil ?_
        replace hx := Option.some.inj hx
        subst hx
        exact JQ.next () rfl (Imp.norm (js := []) rfl (.cons rfl (.cons rfl (.cons rfl .nil))))
      · refine JC.condF (.tmp rfl) hc3 ?_
        refine JC.exit ?_
        refine JQ.outX ?_
        replace hx := Option.some.inj hx
        subst hx
        have ht := hr _ rfl
        have hq2 := congrArg some ht
        clear hr ht
        refine JQ.outX ?_
        refine JQ.here ?_
        replace hq2 := Option.some.inj hq2
        subst hq2
        exact JQ.join () (Imp.norm (js := []) rfl (.cons rfl .nil))

end Go.Proofs.Ytkbkdfcakpbojaa
