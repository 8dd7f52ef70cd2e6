/- Walks. -/
import Derived.Test.YtdncoiehmkcajaaT
import Derived.Test.YtdncoiehmkcajaaW9
namespace Go.Proofs.Ytdncoiehmkcajaa
open Go Fw
set_option linter.unusedVariables false
set_option maxRecDepth 100000
set_option maxHeartbeats 4000000

theorem sim_ref03_pad (k : Nat) (b_1 : (List UInt8)) (r : (List UInt8)) (hm : ref03_pad k b_1 = some r) : Sim Try.prog 29 [S (rL (rU UInt8)) b_1] [] (γ := Option Nat × Nat) (fun q => [cown q.1 (rU UInt8) r 0 q.2]) (fun q => .one (.val (HDR q.1 0 (List.length r) q.2))) := by
  unfold ref03_pad at hm
  refine Sim.of Try.func29 rfl rfl (Nat.le_of_ble_eq_true rfl) (fun e0 w0 => ?_)
  refine JC.at ⟨[(0, .one (.val (S (rL (rU UInt8)) b_1)))], [], []⟩ ?_
  refine JC.seq ?_
  refine JC.region ?_
  refine JL.cons rfl (op_assign (ltB rfl) HasO.nilH) ?_
  refine JL.nil ?_
  refine JQ.then ?_
  refine JC.seq ?_
  refine JC.region ?_
  refine JL.cons rfl (op_move (ltB rfl) (.tmp rfl)) ?_
  replace hm := bnd_inv hm
  obtain ⟨v_2, hv_v_2, hm⟩ := hm
  refine JL.pre (Imp.nilown (rU UInt8)) ?_
  refine JL.consX rfl (op_appendL (j := 0) (ltB rfl) tu25 tu25 rfl tB5 rfl (Nat.lt_of_lt_of_le Nat.zero_lt_one (Nat.le_of_ble_eq_true rfl)) (Nat.lt_of_lt_of_le Nat.zero_lt_one (Nat.le_of_ble_eq_true rfl))  rfl HasO.nilH (.tmp rfl) hv_v_2) (fun q => ?_)
  obtain ⟨go_3, gc_4⟩ := q
  refine JL.pre (Imp.sub (ρ' := [(0, .one (.val (S (rL (rU UInt8)) b_1))), (5, .one (.val (HDR go_3 0 (List.length v_2) gc_4)))]) (.cons rfl (.cons rfl .nil))) ?_
  refine JL.at ⟨[(0, .one (.val (S (rL (rU UInt8)) b_1))), (5, .one (.val (HDR go_3 0 (List.length v_2) gc_4)))], [cown go_3 (rU UInt8) v_2 0 gc_4], []⟩ ?_
  refine JL.cons rfl (op_buildF (r := (rU UInt8)) (ltB rfl) tu25 tz5 tZ5 rfl (Nat.le_of_ble_eq_true rfl) (.S rfl (HasO.cU (x := (128 : UInt8)) rfl (by decide)) .nil) rfl) ?_
  replace hm := bnd_inv hm
  obtain ⟨x_5, hv_x_5, hm⟩ := hm
  refine JL.consX rfl (op_appendL (j := 0) (ltB rfl) tu25 tu25 rfl tB5 rfl (Nat.lt_of_lt_of_le Nat.zero_lt_one (Nat.le_of_ble_eq_true rfl)) (Nat.lt_of_lt_of_le Nat.zero_lt_one (Nat.le_of_ble_eq_true rfl))  rfl (.tmp rfl) (.tmp rfl) hv_x_5) (fun q => ?_)
  obtain ⟨go_6, gc_7⟩ := q
  refine JL.pre (Imp.sub (ρ' := [(0, .one (.val (S (rL (rU UInt8)) b_1))), (7, .one (.val (HDR go_6 0 (List.length x_5) gc_7)))]) (.cons rfl (.cons rfl .nil))) ?_
  refine JL.at ⟨[(0, .one (.val (S (rL (rU UInt8)) b_1))), (7, .one (.val (HDR go_6 0 (List.length x_5) gc_7)))], [cown go_6 (rU UInt8) x_5 0 gc_7], []⟩ ?_
  refine JL.cons rfl (op_assign (ltB rfl) (.tmp rfl)) ?_
  refine JL.nil ?_
  refine JQ.then ?_
  replace hm := bnd_inv hm
  obtain ⟨o_16, hx1, hq1⟩ := hm
  refine JC.seqJ (γ := Option Nat × Nat) (stj := fun q => ⟨[(0, .one (.val (S (rL (rU UInt8)) b_1))), (3, .one (.val (HDR q.1 0 (List.length o_16) q.2)))], [cown q.1 (rU UInt8) o_16 0 q.2], []⟩) (fun q => ?_) ?_
  · obtain ⟨go_17, gc_18⟩ := q
    refine JC.at ⟨[(0, .one (.val (S (rL (rU UInt8)) b_1))), (3, .one (.val (HDR go_17 0 (List.length o_16) gc_18)))], [cown go_17 (rU UInt8) o_16 0 gc_18], []⟩ ?_
    refine JC.seq ?_
    refine JC.region ?_
    refine JL.cons rfl (op_move (ltB rfl) (.tmp rfl)) ?_
    refine JL.cons rfl (op_move (ltB rfl) (.tmp rfl)) ?_
    refine JL.cons rfl (op_lenL (ltB rfl) tu25 (.tmp rfl)) ?_
    replace hq1 := lt1_inv hq1
    obtain ⟨v_19, hv_v_19, hq1⟩ := hq1
    refine JL.cons rfl (op_convIU (ltB rfl) tu3 tu65 (.tmp rfl) hv_v_19) ?_
    replace hq1 := lt1_inv hq1
    obtain ⟨v_20, hv_v_20, hq1⟩ := hq1
    refine JL.cons rfl (op_arU (ltB rfl) (.tmp rfl) (HasO.cU (x := (8 : UInt64)) rfl (by decide)) (congrArg some hv_v_20)) ?_
    replace hq1 := bnd_inv hq1
    obtain ⟨v_21, hv_v_21, hq1⟩ := hq1
    refine JL.consX rfl (op_call (js := []) (ltD rfl) cl40 (sim_ref01_Put k v_20 (8 : Int) v_21 hv_v_21) .func (.cons (.tmp rfl) (.cons .cI .nil)) rfl) (fun q => ?_)
    obtain ⟨go_22, hqq⟩ : ∃ z, z = q := ⟨_, rfl⟩
    subst hqq
    refine JL.pre (Imp.sub (ρ' := [(15, .one (.val (HDR go_17 0 (List.length o_16) gc_18))), (20, .one (.val (HDR go_22 0 (List.length v_21) (Int.toNat (8 : Int)))))]) (.cons rfl (.cons rfl .nil))) ?_
    refine JL.at ⟨[(15, .one (.val (HDR go_17 0 (List.length o_16) gc_18))), (20, .one (.val (HDR go_22 0 (List.length v_21) (Int.toNat (8 : Int)))))], [cown go_22 (rU UInt8) v_21 0 (Int.toNat (8 : Int)), cown go_17 (rU UInt8) o_16 0 gc_18], []⟩ ?_
    replace hq1 := bnd_inv hq1
    obtain ⟨x_23, hv_x_23, hq1⟩ := hq1
    refine JL.consX rfl (op_appendO (j := 1) (j' := 0) (ltB rfl) tu25 tu25 rfl tB5 rfl (Nat.lt_of_lt_of_le Nat.zero_lt_one (Nat.le_of_ble_eq_true rfl)) (Nat.lt_of_lt_of_le Nat.zero_lt_one (Nat.le_of_ble_eq_true rfl))  rfl (.tmp rfl) rfl (.tmp rfl) hv_x_23) (fun q => ?_)
    obtain ⟨go_24, gc_25⟩ := q
    refine JL.pre (Imp.norm (ρ' := [(21, .one (.val (HDR go_24 0 (List.length x_23) gc_25)))]) (js := [1]) rfl (.cons rfl .nil)) ?_
    refine JL.at ⟨[(21, .one (.val (HDR go_24 0 (List.length x_23) gc_25)))], [cown go_24 (rU UInt8) x_23 0 gc_25], []⟩ ?_
    refine JL.cons rfl (op_assign (ltB rfl) (.tmp rfl)) ?_
    refine JL.nil ?_
    refine JQ.then ?_
    refine JC.ret ?_
    replace hq1 := Option.some.inj hq1
    subst hq1
    exact JQ.done (js := [0]) (ss := [.val (HDR go_24 0 (List.length x_23) gc_25)]) (go_24, gc_25) (.inl rfl) (.nil rfl) rfl (.cons (.tmp rfl) .nil) rfl rfl rfl
  · refine JC.block ?_
    refine JC.pre ?_ (JC.loop (γ := Option Nat × Nat) (stf := fun s q => ⟨[(0, .one (.val (S (rL (rU UInt8)) b_1))), (3, .one (.val (HDR q.1 0 (List.length s) q.2)))], [cown q.1 (rU UInt8) s 0 q.2], []⟩) (q := (go_6, gc_7)) hx1 ?_)
    · exact (Imp.norm (js := [0]) rfl (.cons rfl (.cons rfl .nil)))
    · intro o_8 q x hx hr
      obtain ⟨go_9, gc_10⟩ := q
      change ref03_pad.b1 k o_8 = some x at hx
      unfold ref03_pad.b1 at hx
      refine JC.at ⟨[(0, .one (.val (S (rL (rU UInt8)) b_1))), (3, .one (.val (HDR go_9 0 (List.length o_8) gc_10)))], [cown go_9 (rU UInt8) o_8 0 gc_10], []⟩ ?_
      refine JC.seq ?_
      refine JC.seq ?_
      refine JC.region ?_
      refine JL.cons rfl (op_move (ltB rfl) (.tmp rfl)) ?_
      refine JL.cons rfl (op_lenH (ltB rfl) tu25 (.tmp rfl)) ?_
      replace hx := bnd_inv hx
      obtain ⟨v_11, hv_v_11, hx⟩ := hx
      refine JL.cons rfl (op_arI (ltB rfl) (.tmp rfl) .cI hv_v_11) ?_
      replace hx := lt1_inv hx
      obtain ⟨v_12, hv_v_12, hx⟩ := hx
      refine JL.cons rfl (op_cmpI (ltB rfl) (.tmp rfl) .cI (congrArg some hv_v_12)) ?_
      refine JL.nil ?_
      refine JQ.then ?_
      replace hx := iteB_inv hx
      rcases hx with ⟨hc3, hx⟩ | ⟨hc3, hx⟩
      · refine JC.condT (.tmp rfl) hc3 ?_
        refine JC.skip ?_
        refine JQ.then ?_
        refine JC.block ?_
        refine JC.region ?_
        refine JL.cons rfl (op_move (ltB rfl) (.tmp rfl)) ?_
        refine JL.cons rfl (op_buildF (r := (rU UInt8)) (ltB rfl) tu25 tz5 tZ5 rfl (Nat.le_of_ble_eq_true rfl) (.S rfl (HasO.cU (x := (0 : UInt8)) rfl (by decide)) .nil) rfl) ?_
        refine JL.pre (Imp.sub (ρ' := [(0, .one (.val (S (rL (rU UInt8)) b_1))), (3, .one (.val (HDR go_9 0 (List.length o_8) gc_10))), (12, .one (.val (HDR go_9 0 (List.length o_8) gc_10))), (13, .one (.val (S (rL (rU UInt8)) ([(0 : UInt8)] : (List UInt8)))))]) (.cons rfl (.cons rfl (.cons rfl (.cons rfl .nil))))) ?_
        refine JL.at ⟨[(0, .one (.val (S (rL (rU UInt8)) b_1))), (3, .one (.val (HDR go_9 0 (List.length o_8) gc_10))), (12, .one (.val (HDR go_9 0 (List.length o_8) gc_10))), (13, .one (.val (S (rL (rU UInt8)) ([(0 : UInt8)] : (List UInt8)))))], [cown go_9 (rU UInt8) o_8 0 gc_10], []⟩ ?_
        replace hx := bnd_inv hx
        obtain ⟨o_13, hv_o_13, hx⟩ := hx
        refine JL.consX rfl (op_appendL (j := 0) (ltB rfl) tu25 tu25 rfl tB5 rfl (Nat.lt_of_lt_of_le Nat.zero_lt_one (Nat.le_of_ble_eq_true rfl)) (Nat.lt_of_lt_of_le Nat.zero_lt_one (Nat.le_of_ble_eq_true rfl))  rfl (.tmp rfl) (.tmp rfl) hv_o_13) (fun q => ?_)
        obtain ⟨go_14, gc_15⟩ := q
        refine JL.pre (Imp.sub (ρ' := [(0, .one (.val (S (rL (rU UInt8)) b_1))), (14, .one (.val (HDR go_14 0 (List.length o_13) gc_15)))]) (.cons rfl (.cons rfl .nil))) ?_
        refine JL.at ⟨[(0, .one (.val (S (rL (rU UInt8)) b_1))), (14, .one (.val (HDR go_14 0 (List.length o_13) gc_15)))], [cown go_14 (rU UInt8) o_13 0 gc_15], []⟩ ?_
        refine JL.cons rfl (op_assign (ltB rfl) (.tmp rfl)) ?_
        refine JL.nil ?_
        refine JQ.outNB ?_
        replace hx := Option.some.inj hx
        first | subst hx | clear hx
        exact JQ.next (go_14, gc_15) rfl (Imp.norm (js := [0]) rfl (.cons rfl (.cons rfl .nil)))
      · refine JC.condF (.tmp rfl) hc3 ?_
        refine JC.exit ?_
        refine JQ.outX ?_
        replace hx := Option.some.inj hx
        first | subst hx | clear hx
        have ht := hr _ rfl
        have hq2 := congrArg some ht
        clear hr ht
        refine JQ.outX ?_
        refine JQ.here ?_
        replace hq2 := Option.some.inj hq2
        first | subst hq2 | clear hq2
        exact JQ.join (go_9, gc_10) (Imp.norm (js := [0]) rfl (.cons rfl (.cons rfl .nil)))

theorem sim_ref01_Get (k : Nat) (b_1 : (List UInt8)) (r : UInt64) (hm : ref01_Get k b_1 = some r) : Sim Try.prog 41 [S (rL (rU UInt8)) b_1] [] (γ := Unit) (fun q => []) (fun q => .one (.val (S (rU UInt64) r))) := by
  unfold ref01_Get at hm
  refine Sim.of Try.func41 rfl rfl (Nat.le_of_ble_eq_true rfl) (fun e0 w0 => ?_)
  refine JC.at ⟨[(0, .one (.val (S (rL (rU UInt8)) b_1)))], [], []⟩ ?_
  refine JC.seq ?_
  refine JC.region ?_
  refine JL.cons rfl (op_assign (ltB rfl) (HasO.cU (x := (0 : UInt64)) rfl (by decide))) ?_
  refine JL.nil ?_
  refine JQ.then ?_
  refine JC.seq ?_
  refine JC.region ?_
  refine JL.cons rfl (op_assign (ltB rfl) (HasO.cU (x := (0 : UInt64)) rfl (by decide))) ?_
  refine JL.nil ?_
  refine JQ.then ?_
  replace hm := bnd_inv hm
  obtain ⟨n_10, hx1, hq1⟩ := hm
  refine JC.seqJ (γ := Unit) (stj := fun q => ⟨[(3, .one (.val (S (rU UInt64) n_10)))], [], []⟩) (fun q => ?_) ?_
  · obtain _ := q
    refine JC.at ⟨[(3, .one (.val (S (rU UInt64) n_10)))], [], []⟩ ?_
    refine JC.seq ?_
    refine JC.region ?_
    refine JL.cons rfl (op_move (ltB rfl) (.tmp rfl)) ?_
    refine JL.cons rfl (op_assign (ltB rfl) (.tmp rfl)) ?_
    refine JL.nil ?_
    refine JQ.then ?_
    refine JC.ret ?_
    replace hq1 := Option.some.inj hq1
    subst hq1
    exact JQ.done (js := []) (ss := [.val (S (rU UInt64) n_10)]) () (.inl rfl) (.nil rfl) rfl (.cons (.tmp rfl) .nil) rfl rfl rfl
  · refine JC.seq ?_
    refine JC.region ?_
    refine JL.cons rfl (op_assign (ltB rfl) .cI) ?_
    refine JL.nil ?_
    refine JQ.then ?_
    refine JC.block ?_
    refine JC.pre ?_ (JC.loop (γ := Unit) (stf := fun s q => ⟨[(0, .one (.val (S (rL (rU UInt8)) b_1))), (3, .one (.val (S (rU UInt64) s.1))), (4, .one (.val (S (rI .i64) s.2)))], [], []⟩) (q := ()) hx1 ?_)
    · exact (Imp.norm (js := []) rfl (.cons rfl (.cons rfl (.cons rfl .nil))))
    · intro s q x hx hr
      obtain ⟨n_2, i_3⟩ := s
      obtain _ := q
      change ref01_Get.b1 k b_1 n_2 i_3 = some x at hx
      unfold ref01_Get.b1 at hx
      refine JC.at ⟨[(0, .one (.val (S (rL (rU UInt8)) b_1))), (3, .one (.val (S (rU UInt64) n_2))), (4, .one (.val (S (rI .i64) i_3)))], [], []⟩ ?_
      refine JC.seq ?_
      refine JC.seq ?_
      refine JC.region ?_
      refine JL.cons rfl (op_move (ltB rfl) (.tmp rfl)) ?_
      refine JL.cons rfl (op_move (ltB rfl) (.tmp rfl)) ?_
      refine JL.cons rfl (op_lenL (ltB rfl) tu25 (.tmp rfl)) ?_
      replace hx := lt1_inv hx
      obtain ⟨v_4, hv_v_4, hx⟩ := hx
      refine JL.cons rfl (op_cmpI (ltB rfl) (.tmp rfl) (.tmp rfl) (congrArg some hv_v_4)) ?_
      refine JL.nil ?_
      refine JQ.then ?_
      replace hx := iteB_inv hx
      rcases hx with ⟨hc3, hx⟩ | ⟨hc3, hx⟩
      · refine JC.condT (.tmp rfl) hc3 ?_
        refine JC.skip ?_
        refine JQ.then ?_
        refine JC.seq ?_
        refine JC.block ?_
        refine JC.region ?_
        refine JL.cons rfl (op_move (ltB rfl) (.tmp rfl)) ?_
        replace hx := lt1_inv hx
        obtain ⟨v_5, hv_v_5, hx⟩ := hx
        refine JL.cons rfl (op_arU (ltB rfl) (.tmp rfl) (HasO.cU (x := (256 : UInt64)) rfl (by decide)) (congrArg some hv_v_5)) ?_
        refine JL.pre (Imp.sub (ρ' := [(0, .one (.val (S (rL (rU UInt8)) b_1))), (3, .one (.val (S (rU UInt64) n_2))), (4, .one (.val (S (rI .i64) i_3))), (12, .one (.val (S (rU UInt64) v_5)))]) (.cons rfl (.cons rfl (.cons rfl (.cons rfl .nil))))) ?_
        refine JL.at ⟨[(0, .one (.val (S (rL (rU UInt8)) b_1))), (3, .one (.val (S (rU UInt64) n_2))), (4, .one (.val (S (rI .i64) i_3))), (12, .one (.val (S (rU UInt64) v_5)))], [], []⟩ ?_
        refine JL.cons rfl (op_move (ltB rfl) (.tmp rfl)) ?_
        refine JL.cons rfl (op_move (ltB rfl) (.tmp rfl)) ?_
        replace hx := bnd_inv hx
        obtain ⟨v_6, hv_v_6, hx⟩ := hx
        refine JL.cons rfl (op_indexAddrLg (ltB rfl) tu25 tz5 (.tmp rfl) (.tmp rfl) hv_v_6) ?_
        refine JL.cons rfl (op_loadPSg (ltB rfl) tS5 rfl (.tmp rfl) rfl) ?_
        replace hx := lt1_inv hx
        obtain ⟨v_7, hv_v_7, hx⟩ := hx
        refine JL.cons rfl (op_convUU (ltB rfl) tu5 tu65 (.tmp rfl) hv_v_7) ?_
        replace hx := lt1_inv hx
        obtain ⟨v_8, hv_v_8, hx⟩ := hx
        refine JL.cons rfl (op_arU (ltB rfl) (.tmp rfl) (.tmp rfl) (congrArg some hv_v_8)) ?_
        refine JL.pre (Imp.sub (ρ' := [(0, .one (.val (S (rL (rU UInt8)) b_1))), (3, .one (.val (S (rU UInt64) n_2))), (4, .one (.val (S (rI .i64) i_3))), (18, .one (.val (S (rU UInt64) v_8)))]) (.cons rfl (.cons rfl (.cons rfl (.cons rfl .nil))))) ?_
        refine JL.at ⟨[(0, .one (.val (S (rL (rU UInt8)) b_1))), (3, .one (.val (S (rU UInt64) n_2))), (4, .one (.val (S (rI .i64) i_3))), (18, .one (.val (S (rU UInt64) v_8)))], [], []⟩ ?_
        refine JL.cons rfl (op_assign (ltB rfl) (.tmp rfl)) ?_
        refine JL.nil ?_
        refine JQ.outNB ?_
        refine JQ.then ?_
        refine JC.region ?_
        refine JL.cons rfl (op_move (ltB rfl) (.tmp rfl)) ?_
        replace hx := lt1_inv hx
        obtain ⟨v_9, hv_v_9, hx⟩ := hx
        refine JL.cons rfl (op_arI (ltB rfl) (.tmp rfl) .cI (congrArg some hv_v_9)) ?_
        refine JL.cons rfl (op_assign (ltB rfl) (.tmp rfl)) ?_
        refine JL.nil ?_
        replace hx := Option.some.inj hx
        first | subst hx | clear hx
        exact JQ.next () rfl (Imp.norm (js := []) rfl (.cons rfl (.cons rfl (.cons rfl .nil))))
      · refine JC.condF (.tmp rfl) hc3 ?_
        refine JC.exit ?_
        refine JQ.outX ?_
        replace hx := Option.some.inj hx
        first | subst hx | clear hx
        have ht := hr _ rfl
        have hq2 := congrArg some ht
        clear hr ht
        refine JQ.outX ?_
        refine JQ.here ?_
        replace hq2 := Option.some.inj hq2
        first | subst hq2 | clear hq2
        exact JQ.join () (Imp.norm (js := []) rfl (.cons rfl .nil))

theorem sim_ref03_ror (k : Nat) (x_1 : UInt32) (n_2 : UInt64) (r : UInt32) (hm : ref03_ror k x_1 n_2 = some r) : Sim Try.prog 42 [S (rU UInt32) x_1, S (rU UInt64) n_2] [] (γ := Unit) (fun q => []) (fun q => .one (.val (S (rU UInt32) r))) := by
  unfold ref03_ror at hm
  refine Sim.of Try.func42 rfl rfl (Nat.le_of_ble_eq_true rfl) (fun e0 w0 => ?_)
  refine JC.at ⟨[(0, .one (.val (S (rU UInt32) x_1))), (1, .one (.val (S (rU UInt64) n_2)))], [], []⟩ ?_
  refine JC.seq ?_
  refine JC.region ?_
  refine JL.cons rfl (op_assign (ltB rfl) (HasO.cU (x := (0 : UInt32)) rfl (by decide))) ?_
  refine JL.nil ?_
  refine JQ.then ?_
  refine JC.seq ?_
  refine JC.region ?_
  refine JL.cons rfl (op_move (ltB rfl) (.tmp rfl)) ?_
  refine JL.cons rfl (op_move (ltB rfl) (.tmp rfl)) ?_
  replace hm := lt1_inv hm
  obtain ⟨v_3, hv_v_3, hm⟩ := hm
  refine JL.cons rfl (op_shrUU (ltB rfl) (.tmp rfl) (.tmp rfl) hv_v_3) ?_
  refine JL.cons rfl (op_move (ltB rfl) (.tmp rfl)) ?_
  refine JL.cons rfl (op_move (ltB rfl) (.tmp rfl)) ?_
  refine JL.pre (Imp.sub (ρ' := [(4, .one (.val (S (rU UInt32) (0 : UInt32)))), (7, .one (.val (S (rU UInt32) v_3))), (8, .one (.val (S (rU UInt32) x_1))), (9, .one (.val (S (rU UInt64) n_2)))]) (.cons rfl (.cons rfl (.cons rfl (.cons rfl .nil))))) ?_
  refine JL.at ⟨[(4, .one (.val (S (rU UInt32) (0 : UInt32)))), (7, .one (.val (S (rU UInt32) v_3))), (8, .one (.val (S (rU UInt32) x_1))), (9, .one (.val (S (rU UInt64) n_2)))], [], []⟩ ?_
  replace hm := lt1_inv hm
  obtain ⟨v_4, hv_v_4, hm⟩ := hm
  refine JL.cons rfl (op_arU (ltB rfl) (HasO.cU (x := (32 : UInt64)) rfl (by decide)) (.tmp rfl) (congrArg some hv_v_4)) ?_
  replace hm := lt1_inv hm
  obtain ⟨v_5, hv_v_5, hm⟩ := hm
  refine JL.cons rfl (op_shlUU (ltB rfl) (.tmp rfl) (.tmp rfl) hv_v_5) ?_
  replace hm := lt1_inv hm
  obtain ⟨v_6, hv_v_6, hm⟩ := hm
  refine JL.cons rfl (op_arU (ltB rfl) (.tmp rfl) (.tmp rfl) (congrArg some hv_v_6)) ?_
  refine JL.cons rfl (op_assign (ltB rfl) (.tmp rfl)) ?_
  refine JL.nil ?_
  refine JQ.then ?_
  refine JC.ret ?_
  replace hm := Option.some.inj hm
  subst hm
  exact JQ.done (js := []) (ss := [.val (S (rU UInt32) v_6)]) () (.inl rfl) (.nil rfl) rfl (.cons (.tmp rfl) .nil) rfl rfl rfl

end Go.Proofs.Ytdncoiehmkcajaa
