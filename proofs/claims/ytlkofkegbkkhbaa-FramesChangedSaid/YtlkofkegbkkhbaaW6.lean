/- The walk of one function. -/
import Derived.Test.YtlkofkegbkkhbaaT
import Derived.Test.YtlkofkegbkkhbaaW8
import Derived.Test.YtlkofkegbkkhbaaW9
import Derived.Test.YtlkofkegbkkhbaaW14
namespace Go.Proofs.Ytlkofkegbkkhbaa
open Go Fw
set_option linter.unusedVariables false
set_option maxRecDepth 100000
set_option maxHeartbeats 4000000

theorem sim_law02_FramesChanged (k : Nat) (t_1 : (List UInt8)) (a_2 : Int) (a_3 : UInt32) (r : Bool) (hm : law02_FramesChanged k t_1 a_2 a_3 = some r) : Sim Try.prog 6 [S (rL (rU UInt8)) t_1, S (rI .i64) a_2, S (rU UInt32) a_3] [] (.one (.val (S rB r))) := by
  unfold law02_FramesChanged at hm
  refine Sim.of Try.func6 rfl rfl (Nat.le_of_ble_eq_true rfl) (fun e0 w0 => ?_)
  refine JC.at (M := HM.none) ⟨[(0, .one (.val (S (rL (rU UInt8)) t_1))), (1, .one (.val (S (rI .i64) a_2))), (2, .one (.val (S (rU UInt32) a_3)))], [], ()⟩ ?_
  refine JC.seq ?_
  refine JC.region ?_
  refine JL.cons rfl (op_assign (ltB rfl) .cB) ?_
  refine JL.nil ?_
  refine JQ.then ?_
  refine JC.seq ?_
  refine JC.region ?_
  refine JL.cons rfl (op_move (ltB rfl) (.tmp rfl)) ?_
  refine JL.cons rfl (op_buildF (r := (rL (rU UInt8))) (ltB rfl) tu22 tz23 tZ23 rfl (Nat.le_of_ble_eq_true rfl) (.S rfl (.tmp rfl) .nil) rfl) ?_
  obtain ⟨v_4, hv_v_4, hm⟩ := bnd_inv hm
  refine JL.cons rfl (op_call (ltB rfl) cl9 (sim_crc_Close k ([t_1] : (List (List UInt8))) v_4 hv_v_4) (.cons (.tmp rfl) .nil)) ?_
  refine JL.pre (Imp.norm (n := 1) (ρ' := [(0, .one (.val (S (rL (rU UInt8)) t_1))), (1, .one (.val (S (rI .i64) a_2))), (2, .one (.val (S (rU UInt32) a_3))), (14, .one (.own 0))]) (X' := [.own UInt8 (rU UInt8) v_4 0]) rfl (.cons rfl rfl (.cons rfl rfl (.cons rfl rfl (.cons rfl rfl .nil))))) ?_
  refine JL.at (M := HM.none) ⟨[(0, .one (.val (S (rL (rU UInt8)) t_1))), (1, .one (.val (S (rI .i64) a_2))), (2, .one (.val (S (rU UInt32) a_3))), (14, .one (.own 0))], [.own UInt8 (rU UInt8) v_4 0], ()⟩ ?_
  refine JL.cons rfl (op_assign (ltB rfl) (.tmp rfl)) ?_
  refine JL.nil ?_
  refine JQ.then ?_
  refine JC.seq ?_
  obtain ⟨v_11, hx1, hq1⟩ := bnd_inv hm
  refine JC.seqJ (stj := ⟨[(1, .one (.val (S (rI .i64) a_2))), (2, .one (.val (S (rU UInt32) a_3))), (7, .one (.own 0)), (33, .one (.val (S rB v_11)))], [.own UInt8 (rU UInt8) v_4 0], ()⟩) ?_ ?_
  · rcases iteB_inv hq1 with ⟨hc5, hq1⟩ | ⟨hc5, hq1⟩
    · refine JC.condT (.tmp rfl) hc5 ?_
      refine JC.seq ?_
      refine JC.region ?_
      obtain ⟨v_12, hv_v_12, hq1⟩ := bnd_inv hq1
      refine JL.cons rfl (op_call (ltB rfl) cl8 (sim_law02_known k v_12 hv_v_12) .nil) ?_
      refine JL.cons rfl (op_assign (ltB rfl) (.tmp rfl)) ?_
      refine JL.nil ?_
      refine JQ.then ?_
      refine JC.ret ?_
      refine JQ.outR ?_
      replace hq1 := Option.some.inj hq1
      subst hq1
      exact JQ.doneV (ss := [.val (S rB v_12)]) (.inl rfl) rfl rfl (.cons (.tmp rfl) .nil) rfl
    · refine JC.condF (.tmp rfl) hc5 ?_
      refine JC.skip ?_
      refine JQ.then ?_
      obtain ⟨x_32, hx6, hq6⟩ := bnd_inv hq1
      refine JC.seqJ (stj := ⟨[(7, .one (.own 0))], [.own UInt8 (rU UInt8) x_32 0], ()⟩) ?_ ?_
      · refine JC.seq ?_
        refine JC.region ?_
        refine JL.cons rfl (op_move (ltB rfl) (.tmp rfl)) ?_
        obtain ⟨⟨v_33, v_34⟩, hv_v_33, hq6⟩ := bnd_inv hq6
        refine JL.pre (Imp.freeze (s := 63) rfl rfl) ?_
        refine JL.cons rfl (op_call (ltB rfl) cl14 (sim_crc_Open k x_32 (v_33, v_34) hv_v_33) (.cons (.tmp rfl) .nil)) ?_
        refine JL.pre (Imp.norm (n := 2) (ρ' := [(64, .tup [.own 1, .val (S rB v_34)])]) (X' := [.own UInt8 (rU UInt8) x_32 (List.length x_32), .own UInt8 (rU UInt8) v_33 0]) rfl (.cons rfl rfl .nil)) ?_
        refine JL.at (M := HM.none) ⟨[(64, .tup [.own 1, .val (S rB v_34)])], [.own UInt8 (rU UInt8) x_32 (List.length x_32), .own UInt8 (rU UInt8) v_33 0], ()⟩ ?_
        refine JL.cons rfl (op_move (ltB rfl) (.tmp rfl)) ?_
        refine JL.cons rfl (op_extract (i := 0) (ltB rfl) (.tmp rfl) rfl) ?_
        refine JL.cons rfl (op_extract (i := 1) (ltB rfl) (.tmp rfl) rfl) ?_
        refine JL.cons rfl (op_assign (ltB rfl) (.tmp rfl)) ?_
        refine JL.cons rfl (op_assign (ltB rfl) (.tmp rfl)) ?_
        refine JL.nil ?_
        refine JQ.then ?_
        obtain ⟨v_38, hx9, hq9⟩ := bnd_inv hq6
        refine JC.seqJ (stj := ⟨[(6, .one (.val (S rB v_38)))], [], ()⟩) ?_ ?_
        · refine JC.ret ?_
          replace hq9 := Option.some.inj hq9
          subst hq9
          exact JQ.doneV (ss := [.val (S rB v_38)]) (.inl rfl) rfl rfl (.cons (.tmp rfl) .nil) rfl
        · refine JC.region ?_
          refine JL.cons rfl (op_move (ltB rfl) (.tmp rfl)) ?_
          refine JL.pre (Imp.norm (n := 2) (ρ' := [(10, .one (.own 1)), (67, .one (.val (S rB v_34)))]) (X' := [.own UInt8 (rU UInt8) x_32 (List.length x_32), .own UInt8 (rU UInt8) v_33 0]) rfl (.cons rfl rfl (.cons rfl rfl .nil))) ?_
          refine JL.at (M := HM.none) ⟨[(10, .one (.own 1)), (67, .one (.val (S rB v_34)))], [.own UInt8 (rU UInt8) x_32 (List.length x_32), .own UInt8 (rU UInt8) v_33 0], ()⟩ ?_
          obtain ⟨v_35, hv_v_35, hx9⟩ := lt1_inv hx9
          refine JL.cons rfl (op_not (ltB rfl) (.tmp rfl) hv_v_35) ?_
          refine JL.cons rfl (op_move (ltB rfl) (.tmp rfl)) ?_
          rcases iteB_inv hx9 with ⟨hc10, hx9⟩ | ⟨hc10, hx9⟩
          · refine JL.run (.yes rfl (ltB rfl) rfl hc10) (op_move (ltB rfl) (.tmp rfl)) ?_
            refine JL.run (.yes rfl (ltB rfl) rfl hc10) (op_lenO (ltB rfl) tu23 rfl (.tmp rfl)) ?_
            obtain ⟨v_36, hv_v_36, hx9⟩ := lt1_inv hx9
            refine JL.run (.yes rfl (ltB rfl) rfl hc10) (op_cmpI (ltB rfl) (.tmp rfl) .cI (congrArg some hv_v_36)) ?_
            refine JL.cons rfl (op_pickT (ltB rfl) (.tmp rfl) hc10 (.tmp rfl)) ?_
            refine JL.pre (Imp.norm (n := 0) (ρ' := [(73, .one (.val (S rB v_36)))]) (X' := []) rfl (.cons rfl rfl .nil)) ?_
            refine JL.at (M := HM.none) ⟨[(73, .one (.val (S rB v_36)))], [], ()⟩ ?_
            refine JL.cons rfl (op_move (ltB rfl) (.tmp rfl)) ?_
            rcases iteB_inv hx9 with ⟨hc11, hx9⟩ | ⟨hc11, hx9⟩
            · obtain ⟨v_37, hv_v_37, hx9⟩ := bnd_inv hx9
              refine JL.run (.yes rfl (ltB rfl) rfl hc11) (op_call (ltB rfl) cl8 (sim_law02_known k v_37 hv_v_37) .nil) ?_
              refine JL.cons rfl (op_pickT (ltB rfl) (.tmp rfl) hc11 (.tmp rfl)) ?_
              refine JL.cons rfl (op_assign (ltB rfl) (.tmp rfl)) ?_
              refine JL.nil ?_
              replace hx9 := Option.some.inj hx9
              subst hx9
              exact JQ.join (Imp.norm (n := 0) rfl (.cons rfl rfl .nil))
            · refine JL.skip (.no rfl (ltB rfl) rfl hc11) (fun d h => by cases h; exact ltB rfl) ?_
              refine JL.cons rfl (op_pickF (ltB rfl) (.tmp rfl) hc11 .cB) ?_
              refine JL.cons rfl (op_assign (ltB rfl) (.tmp rfl)) ?_
              refine JL.nil ?_
              replace hx9 := Option.some.inj hx9
              subst hx9
              exact JQ.join (Imp.norm (n := 0) rfl (.cons rfl rfl .nil))
          · refine JL.skip (.no rfl (ltB rfl) rfl hc10) (fun d h => by cases h; exact ltB rfl) ?_
            refine JL.skip (.no rfl (ltB rfl) rfl hc10) (fun d h => by cases h; exact ltB rfl) ?_
            refine JL.skip (.no rfl (ltB rfl) rfl hc10) (fun d h => by cases h; exact ltB rfl) ?_
            refine JL.cons rfl (op_pickF (ltB rfl) (.tmp rfl) hc10 .cB) ?_
            refine JL.cons rfl (op_move (ltB rfl) (.tmp rfl)) ?_
            refine JL.skip (.no rfl (ltB rfl) rfl rfl) (fun d h => by cases h; exact ltB rfl) ?_
            refine JL.cons rfl (op_pickF (ltB rfl) (.tmp rfl) rfl .cB) ?_
            refine JL.cons rfl (op_assign (ltB rfl) (.tmp rfl)) ?_
            refine JL.nil ?_
            replace hx9 := Option.some.inj hx9
            subst hx9
            exact JQ.join (Imp.norm (n := 0) rfl (.cons rfl rfl .nil))
      · refine JC.seq ?_
        refine JC.region ?_
        refine JL.cons rfl (op_assign (ltB rfl) .cI) ?_
        refine JL.nil ?_
        refine JQ.then ?_
        refine JC.block ?_
        refine JC.pre ?_ (JC.loop (stf := fun s => ⟨[(1, .one (.val (S (rI .i64) a_2))), (2, .one (.val (S (rU UInt32) a_3))), (7, .one (.own 0)), (8, .one (.val (S (rI .i64) s.1)))], [.own UInt8 (rU UInt8) s.2 0], ()⟩) hx6 ?_)
        · exact (Imp.norm (n := 1) rfl (.cons rfl rfl (.cons rfl rfl (.cons rfl rfl (.cons rfl rfl .nil)))))
        · intro s x hx hr
          obtain ⟨v_13, x_14⟩ := s
          change law02_FramesChanged.b1 k a_2 a_3 v_13 x_14 = some x at hx
          unfold law02_FramesChanged.b1 at hx
          refine JC.at (M := HM.none) ⟨[(1, .one (.val (S (rI .i64) a_2))), (2, .one (.val (S (rU UInt32) a_3))), (7, .one (.own 0)), (8, .one (.val (S (rI .i64) v_13)))], [.own UInt8 (rU UInt8) x_14 0], ()⟩ ?_
          refine JC.seq ?_
          refine JC.seq ?_
          refine JC.region ?_
          refine JL.cons rfl (op_move (ltB rfl) (.tmp rfl)) ?_
          obtain ⟨v_15, hv_v_15, hx⟩ := lt1_inv hx
          refine JL.cons rfl (op_cmpI (ltB rfl) (.tmp rfl) .cI (congrArg some hv_v_15)) ?_
          refine JL.nil ?_
          refine JQ.then ?_
          rcases iteB_inv hx with ⟨hc8, hx⟩ | ⟨hc8, hx⟩
          · refine JC.condT (.tmp rfl) hc8 ?_
            refine JC.skip ?_
            refine JQ.then ?_
            refine JC.seq ?_
            refine JC.block ?_
            refine JC.seq ?_
            refine JC.region ?_
            refine JL.cons rfl (op_move (ltB rfl) (.tmp rfl)) ?_
            refine JL.cons rfl (op_move (ltB rfl) (.tmp rfl)) ?_
            obtain ⟨v_16, hv_v_16, hx⟩ := lt1_inv hx
            refine JL.cons rfl (op_arI (ltB rfl) (.tmp rfl) (.tmp rfl) (congrArg some hv_v_16)) ?_
            refine JL.cons rfl (op_assign (ltB rfl) (.tmp rfl)) ?_
            refine JL.nil ?_
            refine JQ.then ?_
            refine JC.region ?_
            refine JL.cons rfl (op_move (ltB rfl) (.tmp rfl)) ?_
            refine JL.pre (Imp.norm (n := 1) (ρ' := [(1, .one (.val (S (rI .i64) a_2))), (2, .one (.val (S (rU UInt32) a_3))), (7, .one (.own 0)), (8, .one (.val (S (rI .i64) v_13))), (9, .one (.val (S (rI .i64) v_16))), (42, .one (.own 0))]) (X' := [.own UInt8 (rU UInt8) x_14 0]) rfl (.cons rfl rfl (.cons rfl rfl (.cons rfl rfl (.cons rfl rfl (.cons rfl rfl (.cons rfl rfl .nil))))))) ?_
            refine JL.at (M := HM.none) ⟨[(1, .one (.val (S (rI .i64) a_2))), (2, .one (.val (S (rU UInt32) a_3))), (7, .one (.own 0)), (8, .one (.val (S (rI .i64) v_13))), (9, .one (.val (S (rI .i64) v_16))), (42, .one (.own 0))], [.own UInt8 (rU UInt8) x_14 0], ()⟩ ?_
            refine JL.cons rfl (op_move (ltB rfl) (.tmp rfl)) ?_
            obtain ⟨v_17, hv_v_17, hx⟩ := bnd_inv hx
            refine JL.cons rfl (op_arI (ltB rfl) (.tmp rfl) .cI hv_v_17) ?_
            refine JL.cons rfl (op_move (ltB rfl) (.tmp rfl)) ?_
            refine JL.cons rfl (op_move (ltB rfl) (.tmp rfl)) ?_
            obtain ⟨v_18, hv_v_18, hx⟩ := bnd_inv hx
            refine JL.cons rfl (op_arI (ltB rfl) (.tmp rfl) .cI hv_v_18) ?_
            obtain ⟨i_19, hv_i_19, hx⟩ := bnd_inv hx
            refine JL.cons rfl (op_indexAddrOF (ltB rfl) tu23 tz5 rfl (.tmp rfl) (.tmp rfl) hv_i_19) ?_
            refine JL.pre (Imp.norm (n := 1) (ρ' := [(1, .one (.val (S (rI .i64) a_2))), (2, .one (.val (S (rU UInt32) a_3))), (7, .one (.own 0)), (8, .one (.val (S (rI .i64) v_13))), (9, .one (.val (S (rI .i64) v_16))), (42, .one (.own 0)), (44, .one (.val (S (rI .i64) v_17))), (48, .one (.ptr 0 (i_19 * 1)))]) (X' := [.own UInt8 (rU UInt8) x_14 0]) rfl (.cons rfl rfl (.cons rfl rfl (.cons rfl rfl (.cons rfl rfl (.cons rfl rfl (.cons rfl rfl (.cons rfl rfl (.cons rfl rfl .nil))))))))) ?_
            refine JL.at (M := HM.none) ⟨[(1, .one (.val (S (rI .i64) a_2))), (2, .one (.val (S (rU UInt32) a_3))), (7, .one (.own 0)), (8, .one (.val (S (rI .i64) v_13))), (9, .one (.val (S (rI .i64) v_16))), (42, .one (.own 0)), (44, .one (.val (S (rI .i64) v_17))), (48, .one (.ptr 0 (i_19 * 1)))], [.own UInt8 (rU UInt8) x_14 0], ()⟩ ?_
            obtain ⟨v_20, hv_v_20, hx⟩ := bnd_inv hx
            refine JL.cons rfl (op_loadOSg (r := (rU UInt8)) (ltB rfl) tS5 rfl rfl (.tmp rfl) hv_v_20) ?_
            refine JL.cons rfl (op_move (ltB rfl) (.tmp rfl)) ?_
            refine JL.cons rfl (op_move (ltB rfl) (.tmp rfl)) ?_
            obtain ⟨v_21, hv_v_21, hx⟩ := lt1_inv hx
            refine JL.cons rfl (op_convIU (ltB rfl) tu3 tu36 (.tmp rfl) hv_v_21) ?_
            obtain ⟨v_22, hv_v_22, hx⟩ := lt1_inv hx
            refine JL.cons rfl (op_shrUU (ltB rfl) (.tmp rfl) (.tmp rfl) hv_v_22) ?_
            obtain ⟨v_23, hv_v_23, hx⟩ := bnd_inv hx
            refine JL.cons rfl (op_arU (ltB rfl) (.tmp rfl) (HasO.cU (x := (2 : UInt32)) rfl (by decide)) hv_v_23) ?_
            refine JL.pre (Imp.norm (n := 1) (ρ' := [(1, .one (.val (S (rI .i64) a_2))), (2, .one (.val (S (rU UInt32) a_3))), (7, .one (.own 0)), (8, .one (.val (S (rI .i64) v_13))), (9, .one (.val (S (rI .i64) v_16))), (42, .one (.own 0)), (44, .one (.val (S (rI .i64) v_17))), (49, .one (.val (S (rU UInt8) v_20))), (54, .one (.val (S (rU UInt32) v_23)))]) (X' := [.own UInt8 (rU UInt8) x_14 0]) rfl (.cons rfl rfl (.cons rfl rfl (.cons rfl rfl (.cons rfl rfl (.cons rfl rfl (.cons rfl rfl (.cons rfl rfl (.cons rfl rfl (.cons rfl rfl .nil)))))))))) ?_
            refine JL.at (M := HM.none) ⟨[(1, .one (.val (S (rI .i64) a_2))), (2, .one (.val (S (rU UInt32) a_3))), (7, .one (.own 0)), (8, .one (.val (S (rI .i64) v_13))), (9, .one (.val (S (rI .i64) v_16))), (42, .one (.own 0)), (44, .one (.val (S (rI .i64) v_17))), (49, .one (.val (S (rU UInt8) v_20))), (54, .one (.val (S (rU UInt32) v_23)))], [.own UInt8 (rU UInt8) x_14 0], ()⟩ ?_
            obtain ⟨v_24, hv_v_24, hx⟩ := lt1_inv hx
            refine JL.cons rfl (op_convUU (ltB rfl) tu26 tu5 (.tmp rfl) hv_v_24) ?_
            refine JL.cons rfl (op_move (ltB rfl) (.tmp rfl)) ?_
            obtain ⟨v_25, hv_v_25, hx⟩ := bnd_inv hx
            refine JL.cons rfl (op_arI (ltB rfl) (.tmp rfl) .cI hv_v_25) ?_
            obtain ⟨v_26, hv_v_26, hx⟩ := lt1_inv hx
            refine JL.cons rfl (op_convIU (ltB rfl) tu3 tu36 (.tmp rfl) hv_v_26) ?_
            obtain ⟨v_27, hv_v_27, hx⟩ := lt1_inv hx
            refine JL.cons rfl (op_shlUU (ltB rfl) (.tmp rfl) (.tmp rfl) hv_v_27) ?_
            obtain ⟨v_28, hv_v_28, hx⟩ := lt1_inv hx
            refine JL.cons rfl (op_arU (ltB rfl) (.tmp rfl) (.tmp rfl) (congrArg some hv_v_28)) ?_
            refine JL.pre (Imp.norm (n := 1) (ρ' := [(1, .one (.val (S (rI .i64) a_2))), (2, .one (.val (S (rU UInt32) a_3))), (7, .one (.own 0)), (8, .one (.val (S (rI .i64) v_13))), (42, .one (.own 0)), (44, .one (.val (S (rI .i64) v_17))), (60, .one (.val (S (rU UInt8) v_28)))]) (X' := [.own UInt8 (rU UInt8) x_14 0]) rfl (.cons rfl rfl (.cons rfl rfl (.cons rfl rfl (.cons rfl rfl (.cons rfl rfl (.cons rfl rfl (.cons rfl rfl .nil)))))))) ?_
            refine JL.at (M := HM.none) ⟨[(1, .one (.val (S (rI .i64) a_2))), (2, .one (.val (S (rU UInt32) a_3))), (7, .one (.own 0)), (8, .one (.val (S (rI .i64) v_13))), (42, .one (.own 0)), (44, .one (.val (S (rI .i64) v_17))), (60, .one (.val (S (rU UInt8) v_28)))], [.own UInt8 (rU UInt8) x_14 0], ()⟩ ?_
            obtain ⟨i_29, hv_i_29, hx⟩ := bnd_inv hx
            refine JL.cons rfl (op_indexAddrOF (ltB rfl) tu23 tz5 rfl (.tmp rfl) (.tmp rfl) hv_i_29) ?_
            obtain ⟨x_30, hv_x_30, hx⟩ := bnd_inv hx
            refine JL.cons rfl (op_storeOSg (r := (rU UInt8)) tS5 rfl rfl (.tmp rfl) (.tmp rfl) hv_x_30) ?_
            refine JL.nil ?_
            refine JQ.outNB ?_
            refine JQ.then ?_
            refine JC.region ?_
            refine JL.cons rfl (op_move (ltB rfl) (.tmp rfl)) ?_
            obtain ⟨v_31, hv_v_31, hx⟩ := lt1_inv hx
            refine JL.cons rfl (op_arI (ltB rfl) (.tmp rfl) .cI (congrArg some hv_v_31)) ?_
            refine JL.cons rfl (op_assign (ltB rfl) (.tmp rfl)) ?_
            refine JL.nil ?_
            replace hx := Option.some.inj hx
            subst hx
            exact JQ.next rfl (Imp.norm (n := 1) rfl (.cons rfl rfl (.cons rfl rfl (.cons rfl rfl (.cons rfl rfl .nil)))))
          · refine JC.condF (.tmp rfl) hc8 ?_
            refine JC.exit ?_
            refine JQ.outX ?_
            replace hx := Option.some.inj hx
            subst hx
            have ht := hr _ rfl
            have hq7 := congrArg some ht
            clear hr ht
            refine JQ.outX ?_
            refine JQ.here ?_
            replace hq7 := Option.some.inj hq7
            subst hq7
            exact JQ.join (Imp.norm (n := 1) rfl (.cons rfl rfl .nil))
  · refine JC.region ?_
    refine JL.cons rfl (op_move (ltB rfl) (.tmp rfl)) ?_
    refine JL.cons rfl (op_lenL (ltB rfl) tu23 (.tmp rfl)) ?_
    obtain ⟨v_5, hv_v_5, hx1⟩ := lt1_inv hx1
    refine JL.cons rfl (op_cmpI (ltB rfl) (.tmp rfl) .cI (congrArg some hv_v_5)) ?_
    refine JL.cons rfl (op_move (ltB rfl) (.tmp rfl)) ?_
    rcases iteB_inv hx1 with ⟨hc2, hx1⟩ | ⟨hc2, hx1⟩
    · refine JL.skip (.no rfl (ltB rfl) rfl hc2) (fun d h => by cases h; exact ltB rfl) ?_
      refine JL.skip (.no rfl (ltB rfl) rfl hc2) (fun d h => by cases h; exact ltB rfl) ?_
      refine JL.cons rfl (op_pickT (ltB rfl) (.tmp rfl) hc2 .cB) ?_
      refine JL.pre (Imp.norm (n := 1) (ρ' := [(1, .one (.val (S (rI .i64) a_2))), (2, .one (.val (S (rU UInt32) a_3))), (7, .one (.own 0)), (21, .one (.val (S rB true)))]) (X' := [.own UInt8 (rU UInt8) v_4 0]) rfl (.cons rfl rfl (.cons rfl rfl (.cons rfl rfl (.cons rfl rfl .nil))))) ?_
      refine JL.at (M := HM.none) ⟨[(1, .one (.val (S (rI .i64) a_2))), (2, .one (.val (S (rU UInt32) a_3))), (7, .one (.own 0)), (21, .one (.val (S rB true)))], [.own UInt8 (rU UInt8) v_4 0], ()⟩ ?_
      refine JL.cons rfl (op_move (ltB rfl) (.tmp rfl)) ?_
      refine JL.skip (.no rfl (ltB rfl) rfl rfl) (fun d h => by cases h; exact ltB rfl) ?_
      refine JL.skip (.no rfl (ltB rfl) rfl rfl) (fun d h => by cases h; exact ltB rfl) ?_
      refine JL.cons rfl (op_pickT (ltB rfl) (.tmp rfl) rfl .cB) ?_
      refine JL.cons rfl (op_move (ltB rfl) (.tmp rfl)) ?_
      refine JL.skip (.no rfl (ltB rfl) rfl rfl) (fun d h => by cases h; exact ltB rfl) ?_
      refine JL.skip (.no rfl (ltB rfl) rfl rfl) (fun d h => by cases h; exact ltB rfl) ?_
      refine JL.skip (.no rfl (ltB rfl) rfl rfl) (fun d h => by cases h; exact ltB rfl) ?_
      refine JL.skip (.no rfl (ltB rfl) rfl rfl) (fun d h => by cases h; exact ltB rfl) ?_
      refine JL.skip (.no rfl (ltB rfl) rfl rfl) (fun d h => by cases h; exact ltB rfl) ?_
      refine JL.skip (.no rfl (ltB rfl) rfl rfl) (fun d h => by cases h; exact ltB rfl) ?_
      refine JL.cons rfl (op_pickT (ltB rfl) (.tmp rfl) rfl .cB) ?_
      refine JL.nil ?_
      replace hx1 := Option.some.inj hx1
      subst hx1
      exact JQ.join (Imp.norm (n := 1) rfl (.cons rfl rfl (.cons rfl rfl (.cons rfl rfl (.cons rfl rfl .nil)))))
    · refine JL.run (.yes rfl (ltB rfl) rfl hc2) (op_move (ltB rfl) (.tmp rfl)) ?_
      refine JL.pre (Imp.norm (n := 1) (ρ' := [(1, .one (.val (S (rI .i64) a_2))), (2, .one (.val (S (rU UInt32) a_3))), (7, .one (.own 0)), (18, .one (.val (S rB v_5))), (19, .one (.val (S (rU UInt32) a_3)))]) (X' := [.own UInt8 (rU UInt8) v_4 0]) rfl (.cons rfl rfl (.cons rfl rfl (.cons rfl rfl (.cons rfl rfl (.cons rfl rfl .nil)))))) ?_
      refine JL.at (M := HM.none) ⟨[(1, .one (.val (S (rI .i64) a_2))), (2, .one (.val (S (rU UInt32) a_3))), (7, .one (.own 0)), (18, .one (.val (S rB v_5))), (19, .one (.val (S (rU UInt32) a_3)))], [.own UInt8 (rU UInt8) v_4 0], ()⟩ ?_
      obtain ⟨v_6, hv_v_6, hx1⟩ := lt1_inv hx1
      refine JL.run (.yes rfl (ltB rfl) rfl hc2) (op_cmpU (ltB rfl) (.tmp rfl) (HasO.cU (x := (0 : UInt32)) rfl (by decide)) (congrArg some hv_v_6)) ?_
      refine JL.cons rfl (op_pickF (ltB rfl) (.tmp rfl) hc2 (.tmp rfl)) ?_
      refine JL.cons rfl (op_move (ltB rfl) (.tmp rfl)) ?_
      rcases iteB_inv hx1 with ⟨hc3, hx1⟩ | ⟨hc3, hx1⟩
      · refine JL.skip (.no rfl (ltB rfl) rfl hc3) (fun d h => by cases h; exact ltB rfl) ?_
        refine JL.skip (.no rfl (ltB rfl) rfl hc3) (fun d h => by cases h; exact ltB rfl) ?_
        refine JL.cons rfl (op_pickT (ltB rfl) (.tmp rfl) hc3 .cB) ?_
        refine JL.cons rfl (op_move (ltB rfl) (.tmp rfl)) ?_
        refine JL.skip (.no rfl (ltB rfl) rfl rfl) (fun d h => by cases h; exact ltB rfl) ?_
        refine JL.skip (.no rfl (ltB rfl) rfl rfl) (fun d h => by cases h; exact ltB rfl) ?_
        refine JL.skip (.no rfl (ltB rfl) rfl rfl) (fun d h => by cases h; exact ltB rfl) ?_
        refine JL.skip (.no rfl (ltB rfl) rfl rfl) (fun d h => by cases h; exact ltB rfl) ?_
        refine JL.skip (.no rfl (ltB rfl) rfl rfl) (fun d h => by cases h; exact ltB rfl) ?_
        refine JL.skip (.no rfl (ltB rfl) rfl rfl) (fun d h => by cases h; exact ltB rfl) ?_
        refine JL.cons rfl (op_pickT (ltB rfl) (.tmp rfl) rfl .cB) ?_
        refine JL.nil ?_
        replace hx1 := Option.some.inj hx1
        subst hx1
        exact JQ.join (Imp.norm (n := 1) rfl (.cons rfl rfl (.cons rfl rfl (.cons rfl rfl (.cons rfl rfl .nil)))))
      · refine JL.run (.yes rfl (ltB rfl) rfl hc3) (op_move (ltB rfl) (.tmp rfl)) ?_
        obtain ⟨v_7, hv_v_7, hx1⟩ := lt1_inv hx1
        refine JL.run (.yes rfl (ltB rfl) rfl hc3) (op_cmpI (ltB rfl) (.tmp rfl) .cI (congrArg some hv_v_7)) ?_
        refine JL.cons rfl (op_pickF (ltB rfl) (.tmp rfl) hc3 (.tmp rfl)) ?_
        refine JL.pre (Imp.norm (n := 1) (ρ' := [(1, .one (.val (S (rI .i64) a_2))), (2, .one (.val (S (rU UInt32) a_3))), (7, .one (.own 0)), (25, .one (.val (S rB v_7)))]) (X' := [.own UInt8 (rU UInt8) v_4 0]) rfl (.cons rfl rfl (.cons rfl rfl (.cons rfl rfl (.cons rfl rfl .nil))))) ?_
        refine JL.at (M := HM.none) ⟨[(1, .one (.val (S (rI .i64) a_2))), (2, .one (.val (S (rU UInt32) a_3))), (7, .one (.own 0)), (25, .one (.val (S rB v_7)))], [.own UInt8 (rU UInt8) v_4 0], ()⟩ ?_
        refine JL.cons rfl (op_move (ltB rfl) (.tmp rfl)) ?_
        rcases iteB_inv hx1 with ⟨hc4, hx1⟩ | ⟨hc4, hx1⟩
        · refine JL.skip (.no rfl (ltB rfl) rfl hc4) (fun d h => by cases h; exact ltB rfl) ?_
          refine JL.skip (.no rfl (ltB rfl) rfl hc4) (fun d h => by cases h; exact ltB rfl) ?_
          refine JL.skip (.no rfl (ltB rfl) rfl hc4) (fun d h => by cases h; exact ltB rfl) ?_
          refine JL.skip (.no rfl (ltB rfl) rfl hc4) (fun d h => by cases h; exact ltB rfl) ?_
          refine JL.skip (.no rfl (ltB rfl) rfl hc4) (fun d h => by cases h; exact ltB rfl) ?_
          refine JL.skip (.no rfl (ltB rfl) rfl hc4) (fun d h => by cases h; exact ltB rfl) ?_
          refine JL.cons rfl (op_pickT (ltB rfl) (.tmp rfl) hc4 .cB) ?_
          refine JL.nil ?_
          replace hx1 := Option.some.inj hx1
          subst hx1
          exact JQ.join (Imp.norm (n := 1) rfl (.cons rfl rfl (.cons rfl rfl (.cons rfl rfl (.cons rfl rfl .nil)))))
        · refine JL.run (.yes rfl (ltB rfl) rfl hc4) (op_move (ltB rfl) (.tmp rfl)) ?_
          refine JL.run (.yes rfl (ltB rfl) rfl hc4) (op_move (ltB rfl) (.tmp rfl)) ?_
          refine JL.run (.yes rfl (ltB rfl) rfl hc4) (op_lenO (ltB rfl) tu23 rfl (.tmp rfl)) ?_
          obtain ⟨v_8, hv_v_8, hx1⟩ := lt1_inv hx1
          refine JL.run (.yes rfl (ltB rfl) rfl hc4) (op_arI (ltB rfl) .cI (.tmp rfl) (congrArg some hv_v_8)) ?_
          obtain ⟨v_9, hv_v_9, hx1⟩ := lt1_inv hx1
          refine JL.run (.yes rfl (ltB rfl) rfl hc4) (op_arI (ltB rfl) (.tmp rfl) .cI (congrArg some hv_v_9)) ?_
          refine JL.pre (Imp.norm (n := 1) (ρ' := [(1, .one (.val (S (rI .i64) a_2))), (2, .one (.val (S (rU UInt32) a_3))), (7, .one (.own 0)), (26, .one (.val (S rB v_7))), (27, .one (.val (S (rI .i64) a_2))), (31, .one (.val (S (rI .i64) v_9)))]) (X' := [.own UInt8 (rU UInt8) v_4 0]) rfl (.cons rfl rfl (.cons rfl rfl (.cons rfl rfl (.cons rfl rfl (.cons rfl rfl (.cons rfl rfl .nil))))))) ?_
          refine JL.at (M := HM.none) ⟨[(1, .one (.val (S (rI .i64) a_2))), (2, .one (.val (S (rU UInt32) a_3))), (7, .one (.own 0)), (26, .one (.val (S rB v_7))), (27, .one (.val (S (rI .i64) a_2))), (31, .one (.val (S (rI .i64) v_9)))], [.own UInt8 (rU UInt8) v_4 0], ()⟩ ?_
          obtain ⟨v_10, hv_v_10, hx1⟩ := lt1_inv hx1
          refine JL.run (.yes rfl (ltB rfl) rfl hc4) (op_cmpI (ltB rfl) (.tmp rfl) (.tmp rfl) (congrArg some hv_v_10)) ?_
          refine JL.cons rfl (op_pickF (ltB rfl) (.tmp rfl) hc4 (.tmp rfl)) ?_
          refine JL.nil ?_
          replace hx1 := Option.some.inj hx1
          subst hx1
          exact JQ.join (Imp.norm (n := 1) rfl (.cons rfl rfl (.cons rfl rfl (.cons rfl rfl (.cons rfl rfl .nil)))))

end Go.Proofs.Ytlkofkegbkkhbaa
