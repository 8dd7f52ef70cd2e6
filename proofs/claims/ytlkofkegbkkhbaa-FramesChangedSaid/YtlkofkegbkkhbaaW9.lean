/- The walk of one function. -/
import Derived.Test.YtlkofkegbkkhbaaT
import Derived.Test.YtlkofkegbkkhbaaW10
namespace Go.Proofs.Ytlkofkegbkkhbaa
open Go Fw
set_option linter.unusedVariables false
set_option maxRecDepth 100000
set_option maxHeartbeats 4000000

theorem sim_crc_Close (k : Nat) (l_1 : (List (List UInt8))) (r : (List UInt8)) (hm : crc_Close k l_1 = some r) : Sim Try.prog 9 [S (rL (rL (rU UInt8))) l_1] [.own UInt8 (rU UInt8) r 0] (.one (.own 0)) := by
  unfold crc_Close at hm
  refine Sim.of Try.func9 rfl rfl (Nat.le_of_ble_eq_true rfl) (fun e0 w0 => ?_)
  refine JC.at (M := HM.none) ⟨[(0, .one (.val (S (rL (rL (rU UInt8))) l_1)))], [], ()⟩ ?_
  refine JC.seq ?_
  refine JC.region ?_
  refine JL.cons rfl (op_nilA (rU UInt8) (ltB rfl)) ?_
  refine JL.nil ?_
  refine JQ.then ?_
  obtain ⟨out_8, hx1, hq1⟩ := bnd_inv hm
  refine JC.seqJ (stj := ⟨[(2, .one (.own 0))], [.own UInt8 (rU UInt8) out_8 0], ()⟩) ?_ ?_
  · obtain ⟨out_18, hx4, hq4⟩ := bnd_inv hq1
    refine JC.seqJ (stj := ⟨[(2, .one (.own 0))], [.own UInt8 (rU UInt8) out_18 (List.length out_18)], ()⟩) ?_ ?_
    · refine JC.seq ?_
      refine JC.region ?_
      refine JL.cons rfl (op_move (ltB rfl) (.tmp rfl)) ?_
      refine JL.cons rfl (op_assign (ltB rfl) (.tmp rfl)) ?_
      refine JL.nil ?_
      refine JQ.then ?_
      refine JC.ret ?_
      replace hq4 := Option.some.inj hq4
      subst hq4
      refine JQ.doneO (j := 0) (ss := [.own 0]) (.inl rfl) rfl rfl rfl (flatU _) (.cons (.tmp rfl) .nil) ?_ ?_
      · intro s hs
        simp only [List.mem_cons, List.not_mem_nil, or_false] at hs
        subst hs
        · exact Nat.zero_lt_one
      · intro s hs
        simp only [List.mem_cons, List.not_mem_nil, or_false] at hs
        subst hs
        · exact trivial
    · refine JC.seq ?_
      refine JC.region ?_
      refine JL.cons rfl (op_move (ltB rfl) (.tmp rfl)) ?_
      refine JL.pre (Imp.freeze (s := 17) rfl rfl) ?_
      refine JL.cons rfl (op_buildF (r := (rL (rU UInt8))) (ltB rfl) tu22 tz23 tZ23 rfl (Nat.le_of_ble_eq_true rfl) (.S rfl (.tmp rfl) .nil) rfl) ?_
      obtain ⟨v_9, hv_v_9, hx4⟩ := bnd_inv hx4
      refine JL.cons rfl (op_call (ltB rfl) cl10 (sim_crc_Sum k ([out_8] : (List (List UInt8))) v_9 hv_v_9) (.cons (.tmp rfl) .nil)) ?_
      refine JL.cons rfl (op_assign (ltB rfl) (.tmp rfl)) ?_
      refine JL.cons rfl (op_assign (ltB rfl) .cI) ?_
      refine JL.nil ?_
      refine JQ.then ?_
      refine JC.block ?_
      refine JC.pre ?_ (JC.loop (stf := fun s => ⟨[(2, .one (.own 0)), (5, .one (.val (S (rU UInt32) s.1))), (6, .one (.val (S (rI .i64) s.2.1)))], [.own UInt8 (rU UInt8) s.2.2 (List.length s.2.2)], ()⟩) hx4 ?_)
      · exact (Imp.norm (n := 1) rfl (.cons rfl rfl (.cons rfl rfl (.cons rfl rfl .nil))))
      · intro s x hx hr
        obtain ⟨s_10, i_11, out_12⟩ := s
        change crc_Close.b2 k s_10 i_11 out_12 = some x at hx
        unfold crc_Close.b2 at hx
        refine JC.at (M := HM.none) ⟨[(2, .one (.own 0)), (5, .one (.val (S (rU UInt32) s_10))), (6, .one (.val (S (rI .i64) i_11)))], [.own UInt8 (rU UInt8) out_12 (List.length out_12)], ()⟩ ?_
        refine JC.seq ?_
        refine JC.seq ?_
        refine JC.region ?_
        refine JL.cons rfl (op_move (ltB rfl) (.tmp rfl)) ?_
        obtain ⟨v_13, hv_v_13, hx⟩ := lt1_inv hx
        refine JL.cons rfl (op_cmpI (ltB rfl) (.tmp rfl) .cI (congrArg some hv_v_13)) ?_
        refine JL.nil ?_
        refine JQ.then ?_
        rcases iteB_inv hx with ⟨hc6, hx⟩ | ⟨hc6, hx⟩
        · refine JC.condT (.tmp rfl) hc6 ?_
          refine JC.skip ?_
          refine JQ.then ?_
          refine JC.seq ?_
          refine JC.block ?_
          refine JC.seq ?_
          refine JC.region ?_
          refine JL.cons rfl (op_move (ltB rfl) (.tmp rfl)) ?_
          refine JL.cons rfl (op_move (ltB rfl) (.tmp rfl)) ?_
          obtain ⟨v_14, hv_v_14, hx⟩ := lt1_inv hx
          refine JL.cons rfl (op_convUU (ltB rfl) tu26 tu5 (.tmp rfl) hv_v_14) ?_
          refine JL.cons rfl (op_buildF (r := (rU UInt8)) (ltB rfl) tu23 tz5 tZ5 rfl (Nat.le_of_ble_eq_true rfl) (.S rfl (.tmp rfl) .nil) rfl) ?_
          refine JL.pre (Imp.norm (n := 1) (ρ' := [(2, .one (.own 0)), (5, .one (.val (S (rU UInt32) s_10))), (6, .one (.val (S (rI .i64) i_11))), (24, .one (.own 0)), (27, .one (.val (S (rL (rU UInt8)) ([v_14] : (List UInt8)))))]) (X' := [.own UInt8 (rU UInt8) out_12 (List.length out_12)]) rfl (.cons rfl rfl (.cons rfl rfl (.cons rfl rfl (.cons rfl rfl (.cons rfl rfl .nil)))))) ?_
          refine JL.at (M := HM.none) ⟨[(2, .one (.own 0)), (5, .one (.val (S (rU UInt32) s_10))), (6, .one (.val (S (rI .i64) i_11))), (24, .one (.own 0)), (27, .one (.val (S (rL (rU UInt8)) ([v_14] : (List UInt8)))))], [.own UInt8 (rU UInt8) out_12 (List.length out_12)], ()⟩ ?_
          obtain ⟨out_15, hv_out_15, hx⟩ := bnd_inv hx
          refine JL.cons rfl (op_appendL (ltB rfl) tu23 tu23 rfl tB5 rfl (Nat.lt_of_lt_of_le Nat.zero_lt_one (Nat.le_of_ble_eq_true rfl)) (Nat.lt_of_lt_of_le Nat.zero_lt_one (Nat.le_of_ble_eq_true rfl)) rfl (.tmp rfl) (.tmp rfl) hv_out_15) ?_
          refine JL.cons rfl (op_assign (ltB rfl) (.tmp rfl)) ?_
          refine JL.nil ?_
          refine JQ.then ?_
          refine JC.region ?_
          refine JL.cons rfl (op_move (ltB rfl) (.tmp rfl)) ?_
          obtain ⟨v_16, hv_v_16, hx⟩ := lt1_inv hx
          refine JL.cons rfl (op_shrUU (ltB rfl) (.tmp rfl) (HasO.cU (x := (8 : UInt64)) rfl (by decide)) hv_v_16) ?_
          refine JL.cons rfl (op_assign (ltB rfl) (.tmp rfl)) ?_
          refine JL.nil ?_
          refine JQ.outNB ?_
          refine JQ.then ?_
          refine JC.region ?_
          refine JL.cons rfl (op_move (ltB rfl) (.tmp rfl)) ?_
          refine JL.pre (Imp.norm (n := 1) (ρ' := [(2, .one (.own 0)), (5, .one (.val (S (rU UInt32) v_16))), (6, .one (.val (S (rI .i64) i_11))), (22, .one (.val (S (rI .i64) i_11)))]) (X' := [.own UInt8 (rU UInt8) out_15 (List.length out_12)]) rfl (.cons rfl rfl (.cons rfl rfl (.cons rfl rfl (.cons rfl rfl .nil))))) ?_
          refine JL.at (M := HM.none) ⟨[(2, .one (.own 0)), (5, .one (.val (S (rU UInt32) v_16))), (6, .one (.val (S (rI .i64) i_11))), (22, .one (.val (S (rI .i64) i_11)))], [.own UInt8 (rU UInt8) out_15 (List.length out_12)], ()⟩ ?_
          obtain ⟨v_17, hv_v_17, hx⟩ := lt1_inv hx
          refine JL.cons rfl (op_arI (ltB rfl) (.tmp rfl) .cI (congrArg some hv_v_17)) ?_
          refine JL.cons rfl (op_assign (ltB rfl) (.tmp rfl)) ?_
          refine JL.nil ?_
          replace hx := Option.some.inj hx
          subst hx
          refine JQ.pre (Imp.freezeB (s := 2) rfl rfl) ?_
          exact JQ.next rfl (Imp.norm (n := 1) rfl (.cons rfl rfl (.cons rfl rfl (.cons rfl rfl .nil))))
        · refine JC.condF (.tmp rfl) hc6 ?_
          refine JC.exit ?_
          refine JQ.outX ?_
          replace hx := Option.some.inj hx
          subst hx
          have ht := hr _ rfl
          have hq5 := congrArg some ht
          clear hr ht
          refine JQ.outX ?_
          refine JQ.here ?_
          replace hq5 := Option.some.inj hq5
          subst hq5
          exact JQ.join (Imp.norm (n := 1) rfl (.cons rfl rfl .nil))
  · refine JC.seq ?_
    refine JC.region ?_
    refine JL.cons rfl (op_move (ltB rfl) (.tmp rfl)) ?_
    refine JL.cons rfl (op_lenL (ltB rfl) tu22 (.tmp rfl)) ?_
    refine JL.cons rfl (op_move (ltB rfl) .cI) ?_
    refine JL.nil ?_
    refine JQ.then ?_
    refine JC.block ?_
    refine JC.pre ?_ (JC.loop (stf := fun s => ⟨[(2, .one (.own 0)), (7, .one (.val (S (rL (rL (rU UInt8))) l_1))), (8, .one (.val (S (rI .i64) (List.length l_1 : Int)))), (9, .one (.val (S (rI .i64) s.1)))], [.own UInt8 (rU UInt8) s.2 0], ()⟩) hx1 ?_)
    · exact (Imp.norm (n := 1) rfl (.cons rfl rfl (.cons rfl rfl (.cons rfl rfl (.cons rfl rfl .nil)))))
    · intro s x hx hr
      obtain ⟨v_2, out_3⟩ := s
      change crc_Close.b1 k l_1 v_2 out_3 = some x at hx
      unfold crc_Close.b1 at hx
      refine JC.at (M := HM.none) ⟨[(2, .one (.own 0)), (7, .one (.val (S (rL (rL (rU UInt8))) l_1))), (8, .one (.val (S (rI .i64) (List.length l_1 : Int)))), (9, .one (.val (S (rI .i64) v_2)))], [.own UInt8 (rU UInt8) out_3 0], ()⟩ ?_
      refine JC.seq ?_
      refine JC.region ?_
      obtain ⟨v_4, hv_v_4, hx⟩ := lt1_inv hx
      refine JL.cons rfl (op_cmpI (ltB rfl) (.tmp rfl) (.tmp rfl) (congrArg some hv_v_4)) ?_
      refine JL.nil ?_
      refine JQ.then ?_
      refine JC.seq ?_
      rcases iteB_inv hx with ⟨hc3, hx⟩ | ⟨hc3, hx⟩
      · refine JC.condT (.tmp rfl) hc3 ?_
        refine JC.skip ?_
        refine JQ.then ?_
        refine JC.seq ?_
        refine JC.block ?_
        refine JC.seq ?_
        refine JC.region ?_
        obtain ⟨v_5, hv_v_5, hx⟩ := bnd_inv hx
        refine JL.cons rfl (op_indexAddrLg (ltB rfl) tu22 tz23 (.tmp rfl) (.tmp rfl) hv_v_5) ?_
        refine JL.cons rfl (op_loadPS (ltB rfl) tS23 rfl (.tmp rfl)) ?_
        refine JL.cons rfl (op_assign (ltB rfl) (.tmp rfl)) ?_
        refine JL.nil ?_
        refine JQ.then ?_
        refine JC.region ?_
        refine JL.cons rfl (op_move (ltB rfl) (.tmp rfl)) ?_
        refine JL.cons rfl (op_move (ltB rfl) (.tmp rfl)) ?_
        refine JL.pre (Imp.norm (n := 1) (ρ' := [(2, .one (.own 0)), (7, .one (.val (S (rL (rL (rU UInt8))) l_1))), (8, .one (.val (S (rI .i64) (List.length l_1 : Int)))), (9, .one (.val (S (rI .i64) v_2))), (13, .one (.own 0)), (14, .one (.val (S (rL (rU UInt8)) v_5)))]) (X' := [.own UInt8 (rU UInt8) out_3 0]) rfl (.cons rfl rfl (.cons rfl rfl (.cons rfl rfl (.cons rfl rfl (.cons rfl rfl (.cons rfl rfl .nil))))))) ?_
        refine JL.at (M := HM.none) ⟨[(2, .one (.own 0)), (7, .one (.val (S (rL (rL (rU UInt8))) l_1))), (8, .one (.val (S (rI .i64) (List.length l_1 : Int)))), (9, .one (.val (S (rI .i64) v_2))), (13, .one (.own 0)), (14, .one (.val (S (rL (rU UInt8)) v_5)))], [.own UInt8 (rU UInt8) out_3 0], ()⟩ ?_
        obtain ⟨out_6, hv_out_6, hx⟩ := bnd_inv hx
        refine JL.cons rfl (op_appendL (ltB rfl) tu23 tu23 rfl tB5 rfl (Nat.lt_of_lt_of_le Nat.zero_lt_one (Nat.le_of_ble_eq_true rfl)) (Nat.lt_of_lt_of_le Nat.zero_lt_one (Nat.le_of_ble_eq_true rfl)) rfl (.tmp rfl) (.tmp rfl) hv_out_6) ?_
        refine JL.cons rfl (op_assign (ltB rfl) (.tmp rfl)) ?_
        refine JL.nil ?_
        refine JQ.outNB ?_
        refine JQ.then ?_
        refine JC.region ?_
        obtain ⟨v_7, hv_v_7, hx⟩ := lt1_inv hx
        refine JL.cons rfl (op_arI (ltB rfl) (.tmp rfl) .cI (congrArg some hv_v_7)) ?_
        refine JL.cons rfl (op_move (ltB rfl) (.tmp rfl)) ?_
        refine JL.nil ?_
        replace hx := Option.some.inj hx
        subst hx
        exact JQ.next rfl (Imp.norm (n := 1) rfl (.cons rfl rfl (.cons rfl rfl (.cons rfl rfl (.cons rfl rfl .nil)))))
      · refine JC.condF (.tmp rfl) hc3 ?_
        refine JC.exit ?_
        refine JQ.outX ?_
        replace hx := Option.some.inj hx
        subst hx
        have ht := hr _ rfl
        have hq2 := congrArg some ht
        clear hr ht
        refine JQ.outX ?_
        refine JQ.here ?_
        replace hq2 := Option.some.inj hq2
        subst hq2
        exact JQ.join (Imp.norm (n := 1) rfl (.cons rfl rfl .nil))

theorem sim_crc_Close_z (k : Nat) (l_1 : (List (List UInt8))) (r : (List UInt8)) (hm : crc_Close k l_1 = some r) : Sim Try.prog 9 [S (rL (rL (rU UInt8))) l_1] [] (.one (.val (S (rL (rU UInt8)) r))) :=
  Sim.frz1 (sim_crc_Close k l_1 r hm)

end Go.Proofs.Ytlkofkegbkkhbaa
