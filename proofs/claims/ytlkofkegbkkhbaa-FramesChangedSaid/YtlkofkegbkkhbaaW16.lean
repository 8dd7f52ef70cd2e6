/- The walk of one function. -/
import Derived.Test.YtlkofkegbkkhbaaT
import Derived.Test.YtlkofkegbkkhbaaW18
namespace Go.Proofs.Ytlkofkegbkkhbaa
open Go Fw
set_option linter.unusedVariables false
set_option maxRecDepth 100000
set_option maxHeartbeats 4000000

theorem sim_crc_sum (k : Nat) (was_1 : UInt32) (b_2 : (List UInt8)) (r : UInt32) (hm : crc_sum k was_1 b_2 = some r) : Sim Try.prog 16 [S (rU UInt32) was_1, S (rL (rU UInt8)) b_2] [] (.one (.val (S (rU UInt32) r))) := by
  unfold crc_sum at hm
  refine Sim.of Try.func16 rfl rfl (Nat.le_of_ble_eq_true rfl) (fun e0 w0 => ?_)
  refine JC.at (M := HM.none) ⟨[(0, .one (.val (S (rU UInt32) was_1))), (1, .one (.val (S (rL (rU UInt8)) b_2)))], [], ()⟩ ?_
  refine JC.seq ?_
  refine JC.region ?_
  refine JL.cons rfl (op_assign (ltB rfl) (HasO.cU (x := (0 : UInt32)) rfl (by decide))) ?_
  refine JL.nil ?_
  refine JQ.then ?_
  refine JC.seq ?_
  refine JC.region ?_
  obtain ⟨v_3, hv_v_3, hm⟩ := bnd_inv hm
  refine JL.cons rfl (op_call (ltB rfl) cl18 (sim_crc_fours k v_3 hv_v_3) .nil) ?_
  refine JL.cons rfl (op_move (ltB rfl) (.tmp rfl)) ?_
  obtain ⟨v_4, hv_v_4, hm⟩ := lt1_inv hm
  refine JL.cons rfl (op_com (ltB rfl) (.tmp rfl) hv_v_4) ?_
  refine JL.cons rfl (op_alloc (ltB rfl) tZ42 zr42) ?_
  refine JL.pre (Imp.norm (n := 1) (ρ' := [(1, .one (.val (S (rL (rU UInt8)) b_2))), (5, .one (.ptr 0 0)), (9, .one (.val (A (rV 16 (rU UInt32)) v_3))), (11, .one (.val (S (rU UInt32) v_4)))]) (X' := [.var (Vector UInt32 16) (rV 16 (rU UInt32)) (Vector.replicate 16 (0 : UInt32))]) rfl (.cons rfl rfl (.cons rfl rfl (.cons rfl rfl (.cons rfl rfl .nil))))) ?_
  refine JL.at (M := HM.none) ⟨[(1, .one (.val (S (rL (rU UInt8)) b_2))), (5, .one (.ptr 0 0)), (9, .one (.val (A (rV 16 (rU UInt32)) v_3))), (11, .one (.val (S (rU UInt32) v_4)))], [.var (Vector UInt32 16) (rV 16 (rU UInt32)) (Vector.replicate 16 (0 : UInt32))], ()⟩ ?_
  refine JL.cons rfl (op_storeA tA42 (.tmp rfl) (.tmp rfl) rfl (Upd.self (rV 16 (rU UInt32)) (Vector.replicate 16 (0 : UInt32)) _)) ?_
  refine JL.cons rfl (op_assign (ltB rfl) (.tmp rfl)) ?_
  refine JL.nil ?_
  refine JQ.then ?_
  obtain ⟨x_22, hx1, hq1⟩ := bnd_inv hm
  refine JC.seqJ (stj := ⟨[(6, .one (.val (S (rU UInt32) x_22)))], [], ()⟩) ?_ ?_
  · refine JC.seq ?_
    refine JC.region ?_
    refine JL.cons rfl (op_move (ltB rfl) (.tmp rfl)) ?_
    obtain ⟨v_23, hv_v_23, hq1⟩ := lt1_inv hq1
    refine JL.cons rfl (op_com (ltB rfl) (.tmp rfl) hv_v_23) ?_
    refine JL.cons rfl (op_assign (ltB rfl) (.tmp rfl)) ?_
    refine JL.nil ?_
    refine JQ.then ?_
    refine JC.ret ?_
    replace hq1 := Option.some.inj hq1
    subst hq1
    exact JQ.doneV (ss := [.val (S (rU UInt32) v_23)]) (.inl rfl) rfl rfl (.cons (.tmp rfl) .nil) rfl
  · refine JC.seq ?_
    refine JC.region ?_
    refine JL.cons rfl (op_move (ltB rfl) (.tmp rfl)) ?_
    refine JL.cons rfl (op_lenL (ltB rfl) tu23 (.tmp rfl)) ?_
    refine JL.cons rfl (op_move (ltB rfl) .cI) ?_
    refine JL.nil ?_
    refine JQ.then ?_
    refine JC.block ?_
    refine JC.pre ?_ (JC.loop (stf := fun s => ⟨[(5, .one (.ptr 0 0)), (6, .one (.val (S (rU UInt32) s.1))), (12, .one (.val (S (rL (rU UInt8)) b_2))), (13, .one (.val (S (rI .i64) (List.length b_2 : Int)))), (14, .one (.val (S (rI .i64) s.2)))], [.var (Vector UInt32 16) (rV 16 (rU UInt32)) v_3], ()⟩) hx1 ?_)
    · exact (Imp.norm (n := 1) rfl (.cons rfl rfl (.cons rfl rfl (.cons rfl rfl (.cons rfl rfl (.cons rfl rfl .nil))))))
    · intro s x hx hr
      obtain ⟨x_5, v_6⟩ := s
      change crc_sum.b1 k b_2 v_3 x_5 v_6 = some x at hx
      unfold crc_sum.b1 at hx
      refine JC.at (M := HM.none) ⟨[(5, .one (.ptr 0 0)), (6, .one (.val (S (rU UInt32) x_5))), (12, .one (.val (S (rL (rU UInt8)) b_2))), (13, .one (.val (S (rI .i64) (List.length b_2 : Int)))), (14, .one (.val (S (rI .i64) v_6)))], [.var (Vector UInt32 16) (rV 16 (rU UInt32)) v_3], ()⟩ ?_
      refine JC.seq ?_
      refine JC.region ?_
      obtain ⟨v_7, hv_v_7, hx⟩ := lt1_inv hx
      refine JL.cons rfl (op_cmpI (ltB rfl) (.tmp rfl) (.tmp rfl) (congrArg some hv_v_7)) ?_
      refine JL.nil ?_
      refine JQ.then ?_
      refine JC.seq ?_
      rcases iteB_inv hx with ⟨hc3, hx⟩ | ⟨hc3, hx⟩
      · refine JC.condT (.tmp rfl) hc3 ?_
        refine JC.skip ?_
        refine JQ.then ?_
        refine JC.seq ?_
        refine JC.block ?_
        refine JC.seq ?_
        refine JC.region ?_
        obtain ⟨v_8, hv_v_8, hx⟩ := bnd_inv hx
        refine JL.cons rfl (op_indexAddrLg (ltB rfl) tu23 tz5 (.tmp rfl) (.tmp rfl) hv_v_8) ?_
        refine JL.cons rfl (op_loadPS (ltB rfl) tS5 rfl (.tmp rfl)) ?_
        refine JL.cons rfl (op_assign (ltB rfl) (.tmp rfl)) ?_
        refine JL.nil ?_
        refine JQ.then ?_
        refine JC.seq ?_
        refine JC.region ?_
        refine JL.cons rfl (op_move (ltB rfl) (.tmp rfl)) ?_
        refine JL.cons rfl (op_move (ltB rfl) (.tmp rfl)) ?_
        refine JL.pre (Imp.norm (n := 1) (ρ' := [(5, .one (.ptr 0 0)), (6, .one (.val (S (rU UInt32) x_5))), (12, .one (.val (S (rL (rU UInt8)) b_2))), (13, .one (.val (S (rI .i64) (List.length b_2 : Int)))), (14, .one (.val (S (rI .i64) v_6))), (18, .one (.val (S (rU UInt32) x_5))), (19, .one (.val (S (rU UInt8) v_8)))]) (X' := [.var (Vector UInt32 16) (rV 16 (rU UInt32)) v_3]) rfl (.cons rfl rfl (.cons rfl rfl (.cons rfl rfl (.cons rfl rfl (.cons rfl rfl (.cons rfl rfl (.cons rfl rfl .nil)))))))) ?_
        refine JL.at (M := HM.none) ⟨[(5, .one (.ptr 0 0)), (6, .one (.val (S (rU UInt32) x_5))), (12, .one (.val (S (rL (rU UInt8)) b_2))), (13, .one (.val (S (rI .i64) (List.length b_2 : Int)))), (14, .one (.val (S (rI .i64) v_6))), (18, .one (.val (S (rU UInt32) x_5))), (19, .one (.val (S (rU UInt8) v_8)))], [.var (Vector UInt32 16) (rV 16 (rU UInt32)) v_3], ()⟩ ?_
        obtain ⟨v_9, hv_v_9, hx⟩ := lt1_inv hx
        refine JL.cons rfl (op_convUU (ltB rfl) tu5 tu26 (.tmp rfl) hv_v_9) ?_
        obtain ⟨v_10, hv_v_10, hx⟩ := lt1_inv hx
        refine JL.cons rfl (op_arU (ltB rfl) (.tmp rfl) (.tmp rfl) (congrArg some hv_v_10)) ?_
        refine JL.cons rfl (op_assign (ltB rfl) (.tmp rfl)) ?_
        refine JL.nil ?_
        refine JQ.then ?_
        refine JC.seq ?_
        refine JC.region ?_
        refine JL.cons rfl (op_move (ltB rfl) (.tmp rfl)) ?_
        obtain ⟨v_11, hv_v_11, hx⟩ := lt1_inv hx
        refine JL.cons rfl (op_arU (ltB rfl) (.tmp rfl) (HasO.cU (x := (15 : UInt32)) rfl (by decide)) (congrArg some hv_v_11)) ?_
        obtain ⟨i_12, hv_i_12, hx⟩ := bnd_inv hx
        refine JL.cons rfl (op_indexAddrUF (ltB rfl) tr42 (.tmp rfl) (.tmp rfl) hv_i_12) ?_
        refine JL.pre (Imp.norm (n := 1) (ρ' := [(5, .one (.ptr 0 0)), (6, .one (.val (S (rU UInt32) v_10))), (12, .one (.val (S (rL (rU UInt8)) b_2))), (13, .one (.val (S (rI .i64) (List.length b_2 : Int)))), (14, .one (.val (S (rI .i64) v_6))), (24, .one (.ptr 0 (0 + i_12.1 * 1)))]) (X' := [.var (Vector UInt32 16) (rV 16 (rU UInt32)) v_3]) rfl (.cons rfl rfl (.cons rfl rfl (.cons rfl rfl (.cons rfl rfl (.cons rfl rfl (.cons rfl rfl .nil))))))) ?_
        refine JL.at (M := HM.none) ⟨[(5, .one (.ptr 0 0)), (6, .one (.val (S (rU UInt32) v_10))), (12, .one (.val (S (rL (rU UInt8)) b_2))), (13, .one (.val (S (rI .i64) (List.length b_2 : Int)))), (14, .one (.val (S (rI .i64) v_6))), (24, .one (.ptr 0 (0 + i_12.1 * 1)))], [.var (Vector UInt32 16) (rV 16 (rU UInt32)) v_3], ()⟩ ?_
        obtain ⟨v_13, hv_v_13, hx⟩ := lt1_inv hx
        refine JL.cons rfl (op_loadSg (ltB rfl) tS26 (.tmp rfl) rfl (Comp.at (Comp.self (rV 16 (rU UInt32)) v_3) i_12.2 rfl) rfl hv_v_13) ?_
        refine JL.cons rfl (op_move (ltB rfl) (.tmp rfl)) ?_
        obtain ⟨v_14, hv_v_14, hx⟩ := lt1_inv hx
        refine JL.cons rfl (op_shrUU (ltB rfl) (.tmp rfl) (HasO.cU (x := (4 : UInt64)) rfl (by decide)) hv_v_14) ?_
        obtain ⟨v_15, hv_v_15, hx⟩ := lt1_inv hx
        refine JL.cons rfl (op_arU (ltB rfl) (.tmp rfl) (.tmp rfl) (congrArg some hv_v_15)) ?_
        refine JL.cons rfl (op_assign (ltB rfl) (.tmp rfl)) ?_
        refine JL.nil ?_
        refine JQ.then ?_
        refine JC.region ?_
        refine JL.cons rfl (op_move (ltB rfl) (.tmp rfl)) ?_
        refine JL.pre (Imp.norm (n := 1) (ρ' := [(5, .one (.ptr 0 0)), (6, .one (.val (S (rU UInt32) v_15))), (12, .one (.val (S (rL (rU UInt8)) b_2))), (13, .one (.val (S (rI .i64) (List.length b_2 : Int)))), (14, .one (.val (S (rI .i64) v_6))), (29, .one (.val (S (rU UInt32) v_15)))]) (X' := [.var (Vector UInt32 16) (rV 16 (rU UInt32)) v_3]) rfl (.cons rfl rfl (.cons rfl rfl (.cons rfl rfl (.cons rfl rfl (.cons rfl rfl (.cons rfl rfl .nil))))))) ?_
        refine JL.at (M := HM.none) ⟨[(5, .one (.ptr 0 0)), (6, .one (.val (S (rU UInt32) v_15))), (12, .one (.val (S (rL (rU UInt8)) b_2))), (13, .one (.val (S (rI .i64) (List.length b_2 : Int)))), (14, .one (.val (S (rI .i64) v_6))), (29, .one (.val (S (rU UInt32) v_15)))], [.var (Vector UInt32 16) (rV 16 (rU UInt32)) v_3], ()⟩ ?_
        obtain ⟨v_16, hv_v_16, hx⟩ := lt1_inv hx
        refine JL.cons rfl (op_arU (ltB rfl) (.tmp rfl) (HasO.cU (x := (15 : UInt32)) rfl (by decide)) (congrArg some hv_v_16)) ?_
        obtain ⟨i_17, hv_i_17, hx⟩ := bnd_inv hx
        refine JL.cons rfl (op_indexAddrUF (ltB rfl) tr42 (.tmp rfl) (.tmp rfl) hv_i_17) ?_
        obtain ⟨v_18, hv_v_18, hx⟩ := lt1_inv hx
        refine JL.cons rfl (op_loadSg (ltB rfl) tS26 (.tmp rfl) rfl (Comp.at (Comp.self (rV 16 (rU UInt32)) v_3) i_17.2 rfl) rfl hv_v_18) ?_
        refine JL.cons rfl (op_move (ltB rfl) (.tmp rfl)) ?_
        obtain ⟨v_19, hv_v_19, hx⟩ := lt1_inv hx
        refine JL.cons rfl (op_shrUU (ltB rfl) (.tmp rfl) (HasO.cU (x := (4 : UInt64)) rfl (by decide)) hv_v_19) ?_
        obtain ⟨v_20, hv_v_20, hx⟩ := lt1_inv hx
        refine JL.cons rfl (op_arU (ltB rfl) (.tmp rfl) (.tmp rfl) (congrArg some hv_v_20)) ?_
        refine JL.pre (Imp.norm (n := 1) (ρ' := [(5, .one (.ptr 0 0)), (6, .one (.val (S (rU UInt32) v_15))), (12, .one (.val (S (rL (rU UInt8)) b_2))), (13, .one (.val (S (rI .i64) (List.length b_2 : Int)))), (14, .one (.val (S (rI .i64) v_6))), (35, .one (.val (S (rU UInt32) v_20)))]) (X' := [.var (Vector UInt32 16) (rV 16 (rU UInt32)) v_3]) rfl (.cons rfl rfl (.cons rfl rfl (.cons rfl rfl (.cons rfl rfl (.cons rfl rfl (.cons rfl rfl .nil))))))) ?_
        refine JL.at (M := HM.none) ⟨[(5, .one (.ptr 0 0)), (6, .one (.val (S (rU UInt32) v_15))), (12, .one (.val (S (rL (rU UInt8)) b_2))), (13, .one (.val (S (rI .i64) (List.length b_2 : Int)))), (14, .one (.val (S (rI .i64) v_6))), (35, .one (.val (S (rU UInt32) v_20)))], [.var (Vector UInt32 16) (rV 16 (rU UInt32)) v_3], ()⟩ ?_
        refine JL.cons rfl (op_assign (ltB rfl) (.tmp rfl)) ?_
        refine JL.nil ?_
        refine JQ.outNB ?_
        refine JQ.then ?_
        refine JC.region ?_
        obtain ⟨v_21, hv_v_21, hx⟩ := lt1_inv hx
        refine JL.cons rfl (op_arI (ltB rfl) (.tmp rfl) .cI (congrArg some hv_v_21)) ?_
        refine JL.cons rfl (op_move (ltB rfl) (.tmp rfl)) ?_
        refine JL.nil ?_
        replace hx := Option.some.inj hx
        subst hx
        exact JQ.next rfl (Imp.norm (n := 1) rfl (.cons rfl rfl (.cons rfl rfl (.cons rfl rfl (.cons rfl rfl (.cons rfl rfl .nil))))))
      · refine JC.condF (.tmp rfl) hc3 ?_
        refine JC.exit ?_
        refine JQ.outX ?_
        replace hx := Option.some.inj hx
        subst hx
        have ht := hr _ rfl
        have hq2 := congrArg some ht
        clear hr ht
        refine JQ.outX ?_
        refine JQ.here ?_
        replace hq2 := Option.some.inj hq2
        subst hq2
        exact JQ.join (Imp.norm (n := 0) rfl (.cons rfl rfl .nil))

end Go.Proofs.Ytlkofkegbkkhbaa
