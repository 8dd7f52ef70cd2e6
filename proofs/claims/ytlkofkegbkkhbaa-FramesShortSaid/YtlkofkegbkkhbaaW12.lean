/- The walk of one function. -/
import Derived.Test.YtlkofkegbkkhbaaT
import Derived.Test.YtlkofkegbkkhbaaW11
namespace Go.Proofs.Ytlkofkegbkkhbaa
open Go Fw
set_option linter.unusedVariables false
set_option maxRecDepth 100000
set_option maxHeartbeats 4000000

theorem sim_ref02_Close (k : Nat) (b_1 : (List UInt8)) (r : (List UInt8)) (hm : ref02_Close k b_1 = some r) : Sim Try.prog 12 [S (rL (rU UInt8)) b_1] [.own UInt8 (rU UInt8) r 0] (.one (.own 0)) := by
  unfold ref02_Close at hm
  refine Sim.of Try.func12 rfl rfl (Nat.le_of_ble_eq_true rfl) (fun e0 w0 => ?_)
  refine JC.at (M := HM.none) ⟨[(0, .one (.val (S (rL (rU UInt8)) b_1)))], [], ()⟩ ?_
  refine JC.seq ?_
  refine JC.region ?_
  refine JL.cons rfl (op_assign (ltB rfl) (HasO.nilL (r := (rU UInt8)))) ?_
  refine JL.nil ?_
  refine JQ.then ?_
  refine JC.seq ?_
  refine JC.region ?_
  refine JL.cons rfl (op_move (ltB rfl) (.tmp rfl)) ?_
  obtain ⟨v_2, hv_v_2, hm⟩ := bnd_inv hm
  refine JL.cons rfl (op_call (ltB rfl) cl11 (sim_ref02_Sum k b_1 v_2 hv_v_2) (.cons (.tmp rfl) .nil)) ?_
  refine JL.cons rfl (op_assign (ltB rfl) (.tmp rfl)) ?_
  refine JL.nil ?_
  refine JQ.then ?_
  refine JC.seq ?_
  refine JC.region ?_
  refine JL.cons rfl (op_move (ltB rfl) (.tmp rfl)) ?_
  obtain ⟨v_3, hv_v_3, hm⟩ := bnd_inv hm
  refine JL.cons rfl (op_appendNL (ltB rfl) tu23 tu23 rfl tB5 rfl (Nat.lt_of_lt_of_le Nat.zero_lt_one (Nat.le_of_ble_eq_true rfl)) (Nat.lt_of_lt_of_le Nat.zero_lt_one (Nat.le_of_ble_eq_true rfl)) (.tmp rfl) hv_v_3) ?_
  refine JL.pre (Imp.norm (n := 1) (ρ' := [(3, .one (.val (S (rU UInt32) v_2))), (9, .one (.own 0))]) (X' := [.own UInt8 (rU UInt8) v_3 0]) rfl (.cons rfl rfl (.cons rfl rfl .nil))) ?_
  refine JL.at (M := HM.none) ⟨[(3, .one (.val (S (rU UInt32) v_2))), (9, .one (.own 0))], [.own UInt8 (rU UInt8) v_3 0], ()⟩ ?_
  refine JL.cons rfl (op_assign (ltB rfl) (.tmp rfl)) ?_
  refine JL.nil ?_
  refine JQ.then ?_
  obtain ⟨o_13, hx1, hq1⟩ := bnd_inv hm
  refine JC.seqJ (stj := ⟨[(4, .one (.own 0))], [.own UInt8 (rU UInt8) o_13 0], ()⟩) ?_ ?_
  · refine JC.seq ?_
    refine JC.region ?_
    refine JL.cons rfl (op_move (ltB rfl) (.tmp rfl)) ?_
    refine JL.cons rfl (op_assign (ltB rfl) (.tmp rfl)) ?_
    refine JL.nil ?_
    refine JQ.then ?_
    refine JC.ret ?_
    replace hq1 := Option.some.inj hq1
    subst hq1
    refine JQ.doneO (j := 0) (ss := [.own 0]) (.inl rfl) rfl rfl rfl (flatU _) (.cons (.tmp rfl) .nil) ?_ ?_
    · intro s hs
      simp only [List.mem_cons, List.not_mem_nil, or_false] at hs
      subst hs
      · exact Nat.zero_lt_one
    · intro s hs
      simp only [List.mem_cons, List.not_mem_nil, or_false] at hs
      subst hs
      · exact trivial
  · refine JC.seq ?_
    refine JC.region ?_
    refine JL.cons rfl (op_assign (ltB rfl) .cI) ?_
    refine JL.nil ?_
    refine JQ.then ?_
    refine JC.block ?_
    refine JC.pre ?_ (JC.loop (stf := fun s => ⟨[(3, .one (.val (S (rU UInt32) s.1))), (4, .one (.own 0)), (5, .one (.val (S (rI .i64) s.2.1)))], [.own UInt8 (rU UInt8) s.2.2 0], ()⟩) hx1 ?_)
    · exact (Imp.norm (n := 1) rfl (.cons rfl rfl (.cons rfl rfl (.cons rfl rfl .nil))))
    · intro s x hx hr
      obtain ⟨s_4, i_5, o_6⟩ := s
      change ref02_Close.b1 k s_4 i_5 o_6 = some x at hx
      unfold ref02_Close.b1 at hx
      refine JC.at (M := HM.none) ⟨[(3, .one (.val (S (rU UInt32) s_4))), (4, .one (.own 0)), (5, .one (.val (S (rI .i64) i_5)))], [.own UInt8 (rU UInt8) o_6 0], ()⟩ ?_
      refine JC.seq ?_
      refine JC.seq ?_
      refine JC.region ?_
      refine JL.cons rfl (op_move (ltB rfl) (.tmp rfl)) ?_
      obtain ⟨v_7, hv_v_7, hx⟩ := lt1_inv hx
      refine JL.cons rfl (op_cmpI (ltB rfl) (.tmp rfl) .cI (congrArg some hv_v_7)) ?_
      refine JL.nil ?_
      refine JQ.then ?_
      rcases iteB_inv hx with ⟨hc3, hx⟩ | ⟨hc3, hx⟩
      · refine JC.condT (.tmp rfl) hc3 ?_
        refine JC.skip ?_
        refine JQ.then ?_
        refine JC.seq ?_
        refine JC.block ?_
        refine JC.seq ?_
        refine JC.region ?_
        refine JL.cons rfl (op_move (ltB rfl) (.tmp rfl)) ?_
        refine JL.cons rfl (op_move (ltB rfl) (.tmp rfl)) ?_
        obtain ⟨v_8, hv_v_8, hx⟩ := bnd_inv hx
        refine JL.cons rfl (op_arU (ltB rfl) (.tmp rfl) (HasO.cU (x := (256 : UInt32)) rfl (by decide)) hv_v_8) ?_
        obtain ⟨v_9, hv_v_9, hx⟩ := lt1_inv hx
        refine JL.cons rfl (op_convUU (ltB rfl) tu26 tu5 (.tmp rfl) hv_v_9) ?_
        refine JL.pre (Imp.norm (n := 1) (ρ' := [(3, .one (.val (S (rU UInt32) s_4))), (4, .one (.own 0)), (5, .one (.val (S (rI .i64) i_5))), (14, .one (.own 0)), (17, .one (.val (S (rU UInt8) v_9)))]) (X' := [.own UInt8 (rU UInt8) o_6 0]) rfl (.cons rfl rfl (.cons rfl rfl (.cons rfl rfl (.cons rfl rfl (.cons rfl rfl .nil)))))) ?_
        refine JL.at (M := HM.none) ⟨[(3, .one (.val (S (rU UInt32) s_4))), (4, .one (.own 0)), (5, .one (.val (S (rI .i64) i_5))), (14, .one (.own 0)), (17, .one (.val (S (rU UInt8) v_9)))], [.own UInt8 (rU UInt8) o_6 0], ()⟩ ?_
        refine JL.cons rfl (op_buildF (r := (rU UInt8)) (ltB rfl) tu23 tz5 tZ5 rfl (Nat.le_of_ble_eq_true rfl) (.S rfl (.tmp rfl) .nil) rfl) ?_
        obtain ⟨o_10, hv_o_10, hx⟩ := bnd_inv hx
        refine JL.cons rfl (op_appendL (ltB rfl) tu23 tu23 rfl tB5 rfl (Nat.lt_of_lt_of_le Nat.zero_lt_one (Nat.le_of_ble_eq_true rfl)) (Nat.lt_of_lt_of_le Nat.zero_lt_one (Nat.le_of_ble_eq_true rfl)) rfl (.tmp rfl) (.tmp rfl) hv_o_10) ?_
        refine JL.cons rfl (op_assign (ltB rfl) (.tmp rfl)) ?_
        refine JL.nil ?_
        refine JQ.then ?_
        refine JC.region ?_
        refine JL.cons rfl (op_move (ltB rfl) (.tmp rfl)) ?_
        obtain ⟨v_11, hv_v_11, hx⟩ := bnd_inv hx
        refine JL.cons rfl (op_arU (ltB rfl) (.tmp rfl) (HasO.cU (x := (256 : UInt32)) rfl (by decide)) hv_v_11) ?_
        refine JL.cons rfl (op_assign (ltB rfl) (.tmp rfl)) ?_
        refine JL.nil ?_
        refine JQ.outNB ?_
        refine JQ.then ?_
        refine JC.region ?_
        refine JL.cons rfl (op_move (ltB rfl) (.tmp rfl)) ?_
        refine JL.pre (Imp.norm (n := 1) (ρ' := [(3, .one (.val (S (rU UInt32) v_11))), (4, .one (.own 0)), (5, .one (.val (S (rI .i64) i_5))), (12, .one (.val (S (rI .i64) i_5)))]) (X' := [.own UInt8 (rU UInt8) o_10 0]) rfl (.cons rfl rfl (.cons rfl rfl (.cons rfl rfl (.cons rfl rfl .nil))))) ?_
        refine JL.at (M := HM.none) ⟨[(3, .one (.val (S (rU UInt32) v_11))), (4, .one (.own 0)), (5, .one (.val (S (rI .i64) i_5))), (12, .one (.val (S (rI .i64) i_5)))], [.own UInt8 (rU UInt8) o_10 0], ()⟩ ?_
        obtain ⟨v_12, hv_v_12, hx⟩ := lt1_inv hx
        refine JL.cons rfl (op_arI (ltB rfl) (.tmp rfl) .cI (congrArg some hv_v_12)) ?_
        refine JL.cons rfl (op_assign (ltB rfl) (.tmp rfl)) ?_
        refine JL.nil ?_
        replace hx := Option.some.inj hx
        subst hx
        exact JQ.next rfl (Imp.norm (n := 1) rfl (.cons rfl rfl (.cons rfl rfl (.cons rfl rfl .nil))))
      · refine JC.condF (.tmp rfl) hc3 ?_
        refine JC.exit ?_
        refine JQ.outX ?_
        replace hx := Option.some.inj hx
        subst hx
        have ht := hr _ rfl
        have hq2 := congrArg some ht
        clear hr ht
        refine JQ.outX ?_
        refine JQ.here ?_
        replace hq2 := Option.some.inj hq2
        subst hq2
        exact JQ.join (Imp.norm (n := 1) rfl (.cons rfl rfl .nil))

theorem sim_ref02_Close_z (k : Nat) (b_1 : (List UInt8)) (r : (List UInt8)) (hm : ref02_Close k b_1 = some r) : Sim Try.prog 12 [S (rL (rU UInt8)) b_1] [] (.one (.val (S (rL (rU UInt8)) r))) :=
  Sim.frz1 (sim_ref02_Close k b_1 r hm)

end Go.Proofs.Ytlkofkegbkkhbaa
