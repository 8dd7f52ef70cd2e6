/- The walk of one function. -/
import Derived.Test.YtlkofkegbkkhbaaT
import Derived.Test.YtlkofkegbkkhbaaW16
namespace Go.Proofs.Ytlkofkegbkkhbaa
open Go Fw
set_option linter.unusedVariables false
set_option maxRecDepth 100000
set_option maxHeartbeats 4000000

theorem sim_crc_Sum (k : Nat) (l_1 : (List (List UInt8))) (r : UInt32) (hm : crc_Sum k l_1 = some r) : Sim Try.prog 10 [S (rL (rL (rU UInt8))) l_1] [] (.one (.val (S (rU UInt32) r))) := by
  unfold crc_Sum at hm
  refine Sim.of Try.func10 rfl rfl (Nat.le_of_ble_eq_true rfl) (fun e0 w0 => ?_)
  refine JC.at (M := HM.none) ⟨[(0, .one (.val (S (rL (rL (rU UInt8))) l_1)))], [], ()⟩ ?_
  refine JC.seq ?_
  refine JC.region ?_
  refine JL.cons rfl (op_assign (ltB rfl) (HasO.cU (x := (0 : UInt32)) rfl (by decide))) ?_
  refine JL.nil ?_
  refine JQ.then ?_
  obtain ⟨s_8, hx1, hq1⟩ := bnd_inv hm
  refine JC.seqJ (stj := ⟨[(2, .one (.val (S (rU UInt32) s_8)))], [], ()⟩) ?_ ?_
  · refine JC.seq ?_
    refine JC.region ?_
    refine JL.cons rfl (op_move (ltB rfl) (.tmp rfl)) ?_
    refine JL.cons rfl (op_assign (ltB rfl) (.tmp rfl)) ?_
    refine JL.nil ?_
    refine JQ.then ?_
    refine JC.ret ?_
    replace hq1 := Option.some.inj hq1
    subst hq1
    exact JQ.doneV (ss := [.val (S (rU UInt32) s_8)]) (.inl rfl) rfl rfl (.cons (.tmp rfl) .nil) rfl
  · refine JC.seq ?_
    refine JC.region ?_
    refine JL.cons rfl (op_move (ltB rfl) (.tmp rfl)) ?_
    refine JL.cons rfl (op_lenL (ltB rfl) tu22 (.tmp rfl)) ?_
    refine JL.cons rfl (op_move (ltB rfl) .cI) ?_
    refine JL.nil ?_
    refine JQ.then ?_
    refine JC.block ?_
    refine JC.pre ?_ (JC.loop (stf := fun s => ⟨[(2, .one (.val (S (rU UInt32) s.1))), (5, .one (.val (S (rL (rL (rU UInt8))) l_1))), (6, .one (.val (S (rI .i64) (List.length l_1 : Int)))), (7, .one (.val (S (rI .i64) s.2)))], [], ()⟩) hx1 ?_)
    · exact (Imp.norm (n := 0) rfl (.cons rfl rfl (.cons rfl rfl (.cons rfl rfl (.cons rfl rfl .nil)))))
    · intro s x hx hr
      obtain ⟨s_2, v_3⟩ := s
      change crc_Sum.b1 k l_1 s_2 v_3 = some x at hx
      unfold crc_Sum.b1 at hx
      refine JC.at (M := HM.none) ⟨[(2, .one (.val (S (rU UInt32) s_2))), (5, .one (.val (S (rL (rL (rU UInt8))) l_1))), (6, .one (.val (S (rI .i64) (List.length l_1 : Int)))), (7, .one (.val (S (rI .i64) v_3)))], [], ()⟩ ?_
      refine JC.seq ?_
      refine JC.region ?_
      obtain ⟨v_4, hv_v_4, hx⟩ := lt1_inv hx
      refine JL.cons rfl (op_cmpI (ltB rfl) (.tmp rfl) (.tmp rfl) (congrArg some hv_v_4)) ?_
      refine JL.nil ?_
      refine JQ.then ?_
      refine JC.seq ?_
      rcases iteB_inv hx with ⟨hc3, hx⟩ | ⟨hc3, hx⟩
      · refine JC.condT (.tmp rfl) hc3 ?_
        refine JC.skip ?_
        refine JQ.then ?_
        refine JC.seq ?_
        refine JC.block ?_
        refine JC.seq ?_
        refine JC.region ?_
        obtain ⟨v_5, hv_v_5, hx⟩ := bnd_inv hx
        refine JL.cons rfl (op_indexAddrLg (ltB rfl) tu22 tz23 (.tmp rfl) (.tmp rfl) hv_v_5) ?_
        refine JL.cons rfl (op_loadPS (ltB rfl) tS23 rfl (.tmp rfl)) ?_
        refine JL.cons rfl (op_assign (ltB rfl) (.tmp rfl)) ?_
        refine JL.nil ?_
        refine JQ.then ?_
        refine JC.region ?_
        refine JL.cons rfl (op_move (ltB rfl) (.tmp rfl)) ?_
        refine JL.cons rfl (op_move (ltB rfl) (.tmp rfl)) ?_
        refine JL.pre (Imp.norm (n := 0) (ρ' := [(2, .one (.val (S (rU UInt32) s_2))), (5, .one (.val (S (rL (rL (rU UInt8))) l_1))), (6, .one (.val (S (rI .i64) (List.length l_1 : Int)))), (7, .one (.val (S (rI .i64) v_3))), (11, .one (.val (S (rU UInt32) s_2))), (12, .one (.val (S (rL (rU UInt8)) v_5)))]) (X' := []) rfl (.cons rfl rfl (.cons rfl rfl (.cons rfl rfl (.cons rfl rfl (.cons rfl rfl (.cons rfl rfl .nil))))))) ?_
        refine JL.at (M := HM.none) ⟨[(2, .one (.val (S (rU UInt32) s_2))), (5, .one (.val (S (rL (rL (rU UInt8))) l_1))), (6, .one (.val (S (rI .i64) (List.length l_1 : Int)))), (7, .one (.val (S (rI .i64) v_3))), (11, .one (.val (S (rU UInt32) s_2))), (12, .one (.val (S (rL (rU UInt8)) v_5)))], [], ()⟩ ?_
        obtain ⟨v_6, hv_v_6, hx⟩ := bnd_inv hx
        refine JL.cons rfl (op_call (ltB rfl) cl16 (sim_crc_sum k s_2 v_5 v_6 hv_v_6) (.cons (.tmp rfl) (.cons (.tmp rfl) .nil))) ?_
        refine JL.cons rfl (op_assign (ltB rfl) (.tmp rfl)) ?_
        refine JL.nil ?_
        refine JQ.outNB ?_
        refine JQ.then ?_
        refine JC.region ?_
        obtain ⟨v_7, hv_v_7, hx⟩ := lt1_inv hx
        refine JL.cons rfl (op_arI (ltB rfl) (.tmp rfl) .cI (congrArg some hv_v_7)) ?_
        refine JL.cons rfl (op_move (ltB rfl) (.tmp rfl)) ?_
        refine JL.nil ?_
        replace hx := Option.some.inj hx
        subst hx
        exact JQ.next rfl (Imp.norm (n := 0) rfl (.cons rfl rfl (.cons rfl rfl (.cons rfl rfl (.cons rfl rfl .nil)))))
      · refine JC.condF (.tmp rfl) hc3 ?_
        refine JC.exit ?_
        refine JQ.outX ?_
        replace hx := Option.some.inj hx
        subst hx
        have ht := hr _ rfl
        have hq2 := congrArg some ht
        clear hr ht
        refine JQ.outX ?_
        refine JQ.here ?_
        replace hq2 := Option.some.inj hq2
        subst hq2
        exact JQ.join (Imp.norm (n := 0) rfl (.cons rfl rfl .nil))

end Go.Proofs.Ytlkofkegbkkhbaa
