/- The walk of one function. -/
import Derived.Test.YtlkofkegbkkhbaaT
import Derived.Test.YtlkofkegbkkhbaaW9
import Derived.Test.YtlkofkegbkkhbaaW10
import Derived.Test.YtlkofkegbkkhbaaW14
namespace Go.Proofs.Ytlkofkegbkkhbaa
open Go Fw
set_option linter.unusedVariables false
set_option maxRecDepth 100000
set_option maxHeartbeats 4000000

theorem sim_law02_known (k : Nat) (r : Bool) (hm : law02_known k = some r) : Sim Try.prog 8 [] [] (.one (.val (S rB r))) := by
  unfold law02_known at hm
  refine Sim.of Try.func8 rfl rfl (Nat.le_of_ble_eq_true rfl) (fun e0 w0 => ?_)
  refine JC.at (M := HM.none) ⟨[], [], ()⟩ ?_
  refine JC.seq ?_
  refine JC.region ?_
  refine JL.cons rfl (op_assign (ltB rfl) .cB) ?_
  refine JL.nil ?_
  refine JQ.then ?_
  refine JC.seq ?_
  refine JC.region ?_
  refine JL.cons rfl (op_buildF (r := (rU UInt8)) (ltB rfl) tu23 tz5 tZ5 rfl (Nat.le_of_ble_eq_true rfl) (.S rfl (HasO.cU (x := (0 : UInt8)) rfl (by decide)) (.S rfl (HasO.cU (x := (0 : UInt8)) rfl (by decide)) (.S rfl (HasO.cU (x := (0 : UInt8)) rfl (by decide)) (.S rfl (HasO.cU (x := (0 : UInt8)) rfl (by decide)) .nil)))) rfl) ?_
  obtain ⟨⟨v_1, v_2⟩, hv_v_1, hm⟩ := bnd_inv hm
  refine JL.cons rfl (op_call (ltB rfl) cl14 (sim_crc_Open k ([(0 : UInt8), (0 : UInt8), (0 : UInt8), (0 : UInt8)] : (List UInt8)) (v_1, v_2) hv_v_1) (.cons (.tmp rfl) .nil)) ?_
  refine JL.pre (Imp.norm (n := 1) (ρ' := [(7, .tup [.own 0, .val (S rB v_2)])]) (X' := [.own UInt8 (rU UInt8) v_1 0]) rfl (.cons rfl rfl .nil)) ?_
  refine JL.at (M := HM.none) ⟨[(7, .tup [.own 0, .val (S rB v_2)])], [.own UInt8 (rU UInt8) v_1 0], ()⟩ ?_
  refine JL.cons rfl (op_move (ltB rfl) (.tmp rfl)) ?_
  refine JL.cons rfl (op_extract (i := 0) (ltB rfl) (.tmp rfl) rfl) ?_
  refine JL.cons rfl (op_extract (i := 1) (ltB rfl) (.tmp rfl) rfl) ?_
  refine JL.cons rfl (op_assign (ltB rfl) (.tmp rfl)) ?_
  refine JL.cons rfl (op_assign (ltB rfl) (.tmp rfl)) ?_
  refine JL.nil ?_
  refine JQ.then ?_
  refine JC.seq ?_
  refine JC.region ?_
  refine JL.cons rfl (op_buildF (r := (rU UInt8)) (ltB rfl) tu23 tz5 tZ5 rfl (Nat.le_of_ble_eq_true rfl) (.S rfl (HasO.cU (x := (0 : UInt8)) rfl (by decide)) (.S rfl (HasO.cU (x := (0 : UInt8)) rfl (by decide)) (.S rfl (HasO.cU (x := (0 : UInt8)) rfl (by decide)) (.S rfl (HasO.cU (x := (1 : UInt8)) rfl (by decide)) .nil)))) rfl) ?_
  refine JL.pre (Imp.norm (n := 1) (ρ' := [(1, .one (.own 0)), (2, .one (.val (S rB v_2))), (11, .one (.val (S (rL (rU UInt8)) ([(0 : UInt8), (0 : UInt8), (0 : UInt8), (1 : UInt8)] : (List UInt8)))))]) (X' := [.own UInt8 (rU UInt8) v_1 0]) rfl (.cons rfl rfl (.cons rfl rfl (.cons rfl rfl .nil)))) ?_
  refine JL.at (M := HM.none) ⟨[(1, .one (.own 0)), (2, .one (.val (S rB v_2))), (11, .one (.val (S (rL (rU UInt8)) ([(0 : UInt8), (0 : UInt8), (0 : UInt8), (1 : UInt8)] : (List UInt8)))))], [.own UInt8 (rU UInt8) v_1 0], ()⟩ ?_
  obtain ⟨⟨v_3, v_4⟩, hv_v_3, hm⟩ := bnd_inv hm
  refine JL.cons rfl (op_call (ltB rfl) cl14 (sim_crc_Open k ([(0 : UInt8), (0 : UInt8), (0 : UInt8), (1 : UInt8)] : (List UInt8)) (v_3, v_4) hv_v_3) (.cons (.tmp rfl) .nil)) ?_
  refine JL.pre (Imp.norm (n := 2) (ρ' := [(1, .one (.own 0)), (2, .one (.val (S rB v_2))), (12, .tup [.own 1, .val (S rB v_4)])]) (X' := [.own UInt8 (rU UInt8) v_1 0, .own UInt8 (rU UInt8) v_3 0]) rfl (.cons rfl rfl (.cons rfl rfl (.cons rfl rfl .nil)))) ?_
  refine JL.at (M := HM.none) ⟨[(1, .one (.own 0)), (2, .one (.val (S rB v_2))), (12, .tup [.own 1, .val (S rB v_4)])], [.own UInt8 (rU UInt8) v_1 0, .own UInt8 (rU UInt8) v_3 0], ()⟩ ?_
  refine JL.cons rfl (op_move (ltB rfl) (.tmp rfl)) ?_
  refine JL.cons rfl (op_extract (i := 0) (ltB rfl) (.tmp rfl) rfl) ?_
  refine JL.cons rfl (op_extract (i := 1) (ltB rfl) (.tmp rfl) rfl) ?_
  refine JL.cons rfl (op_assign (ltB rfl) (.tmp rfl)) ?_
  refine JL.cons rfl (op_assign (ltB rfl) (.tmp rfl)) ?_
  refine JL.nil ?_
  refine JQ.then ?_
  obtain ⟨v_19, hx1, hq1⟩ := bnd_inv hm
  refine JC.seqJ (stj := ⟨[(0, .one (.val (S rB v_19)))], [], ()⟩) ?_ ?_
  · refine JC.ret ?_
    replace hq1 := Option.some.inj hq1
    subst hq1
    exact JQ.doneV (ss := [.val (S rB v_19)]) (.inl rfl) rfl rfl (.cons (.tmp rfl) .nil) rfl
  · refine JC.region ?_
    obtain ⟨v_5, hv_v_5, hx1⟩ := bnd_inv hx1
    refine JL.cons rfl (op_call (ltB rfl) cl10 (sim_crc_Sum k ([] : (List (List UInt8))) v_5 hv_v_5) (.cons (HasO.nilL (r := (rL (rU UInt8)))) .nil)) ?_
    refine JL.pre (Imp.norm (n := 2) (ρ' := [(1, .one (.own 0)), (2, .one (.val (S rB v_2))), (3, .one (.own 1)), (4, .one (.val (S rB v_4))), (15, .one (.val (S (rU UInt32) v_5)))]) (X' := [.own UInt8 (rU UInt8) v_1 0, .own UInt8 (rU UInt8) v_3 0]) rfl (.cons rfl rfl (.cons rfl rfl (.cons rfl rfl (.cons rfl rfl (.cons rfl rfl .nil)))))) ?_
    refine JL.at (M := HM.none) ⟨[(1, .one (.own 0)), (2, .one (.val (S rB v_2))), (3, .one (.own 1)), (4, .one (.val (S rB v_4))), (15, .one (.val (S (rU UInt32) v_5)))], [.own UInt8 (rU UInt8) v_1 0, .own UInt8 (rU UInt8) v_3 0], ()⟩ ?_
    obtain ⟨v_6, hv_v_6, hx1⟩ := lt1_inv hx1
    refine JL.cons rfl (op_cmpU (ltB rfl) (.tmp rfl) (HasO.cU (x := (0 : UInt32)) rfl (by decide)) (congrArg some hv_v_6)) ?_
    refine JL.cons rfl (op_move (ltB rfl) (.tmp rfl)) ?_
    rcases iteB_inv hx1 with ⟨hc2, hx1⟩ | ⟨hc2, hx1⟩
    · refine JL.run (.yes rfl (ltB rfl) rfl hc2) (op_buildO (r := (rU UInt8)) (ltB rfl) tu23 tz5 tZ5 rfl (Nat.le_of_ble_eq_true rfl) (.S rfl (HasO.cU (x := (49 : UInt8)) rfl (by decide)) (.S rfl (HasO.cU (x := (50 : UInt8)) rfl (by decide)) (.S rfl (HasO.cU (x := (51 : UInt8)) rfl (by decide)) (.S rfl (HasO.cU (x := (52 : UInt8)) rfl (by decide)) (.S rfl (HasO.cU (x := (53 : UInt8)) rfl (by decide)) (.S rfl (HasO.cU (x := (54 : UInt8)) rfl (by decide)) (.S rfl (HasO.cU (x := (55 : UInt8)) rfl (by decide)) (.S rfl (HasO.cU (x := (56 : UInt8)) rfl (by decide)) (.S rfl (HasO.cU (x := (57 : UInt8)) rfl (by decide)) .nil))))))))) rfl) ?_
      refine JL.pre (Imp.norm (n := 3) (ρ' := [(1, .one (.own 0)), (2, .one (.val (S rB v_2))), (3, .one (.own 1)), (4, .one (.val (S rB v_4))), (17, .one (.val (S rB v_6))), (18, .one (.own 2))]) (X' := [.own UInt8 (rU UInt8) v_1 0, .own UInt8 (rU UInt8) v_3 0, .own UInt8 (rU UInt8) ([(49 : UInt8), (50 : UInt8), (51 : UInt8), (52 : UInt8), (53 : UInt8), (54 : UInt8), (55 : UInt8), (56 : UInt8), (57 : UInt8)] : (List UInt8)) 0]) rfl (.cons rfl rfl (.cons rfl rfl (.cons rfl rfl (.cons rfl rfl (.cons rfl rfl (.cons rfl rfl .nil))))))) ?_
      refine JL.at (M := HM.none) ⟨[(1, .one (.own 0)), (2, .one (.val (S rB v_2))), (3, .one (.own 1)), (4, .one (.val (S rB v_4))), (17, .one (.val (S rB v_6))), (18, .one (.own 2))], [.own UInt8 (rU UInt8) v_1 0, .own UInt8 (rU UInt8) v_3 0, .own UInt8 (rU UInt8) ([(49 : UInt8), (50 : UInt8), (51 : UInt8), (52 : UInt8), (53 : UInt8), (54 : UInt8), (55 : UInt8), (56 : UInt8), (57 : UInt8)] : (List UInt8)) 0], ()⟩ ?_
      refine JL.run (.yes rfl (ltB rfl) rfl hc2) (op_markO (ltB rfl) tu23 tu5 rfl (.tmp rfl) (Nat.le_of_ble_eq_true rfl)) ?_
      refine JL.pre (Imp.freeze (s := 19) rfl rfl) ?_
      refine JL.run (.yes rfl (ltB rfl) rfl hc2) (op_buildF (r := (rL (rU UInt8))) (ltB rfl) tu22 tz23 tZ23 rfl (Nat.le_of_ble_eq_true rfl) (.S rfl (.tmp rfl) .nil) rfl) ?_
      obtain ⟨v_7, hv_v_7, hx1⟩ := bnd_inv hx1
      refine JL.run (.yes rfl (ltB rfl) rfl hc2) (op_call (ltB rfl) cl10 (sim_crc_Sum k ([([(49 : UInt8), (50 : UInt8), (51 : UInt8), (52 : UInt8), (53 : UInt8), (54 : UInt8), (55 : UInt8), (56 : UInt8), (57 : UInt8)] : (List UInt8))] : (List (List UInt8))) v_7 hv_v_7) (.cons (.tmp rfl) .nil)) ?_
      obtain ⟨v_8, hv_v_8, hx1⟩ := lt1_inv hx1
      refine JL.run (.yes rfl (ltB rfl) rfl hc2) (op_cmpU (ltB rfl) (.tmp rfl) (HasO.cU (x := (3808858755 : UInt32)) rfl (by decide)) (congrArg some hv_v_8)) ?_
      refine JL.cons rfl (op_pickT (ltB rfl) (.tmp rfl) hc2 (.tmp rfl)) ?_
      refine JL.cons rfl (op_move (ltB rfl) (.tmp rfl)) ?_
      refine JL.pre (Imp.norm (n := 2) (ρ' := [(1, .one (.own 0)), (2, .one (.val (S rB v_2))), (3, .one (.own 1)), (4, .one (.val (S rB v_4))), (24, .one (.val (S rB v_8)))]) (X' := [.own UInt8 (rU UInt8) v_1 0, .own UInt8 (rU UInt8) v_3 0]) rfl (.cons rfl rfl (.cons rfl rfl (.cons rfl rfl (.cons rfl rfl (.cons rfl rfl .nil)))))) ?_
      refine JL.at (M := HM.none) ⟨[(1, .one (.own 0)), (2, .one (.val (S rB v_2))), (3, .one (.own 1)), (4, .one (.val (S rB v_4))), (24, .one (.val (S rB v_8)))], [.own UInt8 (rU UInt8) v_1 0, .own UInt8 (rU UInt8) v_3 0], ()⟩ ?_
      rcases iteB_inv hx1 with ⟨hc3, hx1⟩ | ⟨hc3, hx1⟩
      · refine JL.run (.yes rfl (ltB rfl) rfl hc3) (op_buildO (r := (rU UInt8)) (ltB rfl) tu23 tz5 tZ5 rfl (Nat.le_of_ble_eq_true rfl) (.S rfl (HasO.cU (x := (97 : UInt8)) rfl (by decide)) .nil) rfl) ?_
        refine JL.pre (Imp.norm (n := 3) (ρ' := [(1, .one (.own 0)), (2, .one (.val (S rB v_2))), (3, .one (.own 1)), (4, .one (.val (S rB v_4))), (24, .one (.val (S rB v_8))), (25, .one (.own 2))]) (X' := [.own UInt8 (rU UInt8) v_1 0, .own UInt8 (rU UInt8) v_3 0, .own UInt8 (rU UInt8) ([(97 : UInt8)] : (List UInt8)) 0]) rfl (.cons rfl rfl (.cons rfl rfl (.cons rfl rfl (.cons rfl rfl (.cons rfl rfl (.cons rfl rfl .nil))))))) ?_
        refine JL.at (M := HM.none) ⟨[(1, .one (.own 0)), (2, .one (.val (S rB v_2))), (3, .one (.own 1)), (4, .one (.val (S rB v_4))), (24, .one (.val (S rB v_8))), (25, .one (.own 2))], [.own UInt8 (rU UInt8) v_1 0, .own UInt8 (rU UInt8) v_3 0, .own UInt8 (rU UInt8) ([(97 : UInt8)] : (List UInt8)) 0], ()⟩ ?_
        refine JL.run (.yes rfl (ltB rfl) rfl hc3) (op_markO (ltB rfl) tu23 tu5 rfl (.tmp rfl) (Nat.le_of_ble_eq_true rfl)) ?_
        refine JL.pre (Imp.freeze (s := 26) rfl rfl) ?_
        refine JL.run (.yes rfl (ltB rfl) rfl hc3) (op_buildF (r := (rL (rU UInt8))) (ltB rfl) tu22 tz23 tZ23 rfl (Nat.le_of_ble_eq_true rfl) (.S rfl (.tmp rfl) .nil) rfl) ?_
        obtain ⟨v_9, hv_v_9, hx1⟩ := bnd_inv hx1
        refine JL.run (.yes rfl (ltB rfl) rfl hc3) (op_call (ltB rfl) cl10 (sim_crc_Sum k ([([(97 : UInt8)] : (List UInt8))] : (List (List UInt8))) v_9 hv_v_9) (.cons (.tmp rfl) .nil)) ?_
        obtain ⟨v_10, hv_v_10, hx1⟩ := lt1_inv hx1
        refine JL.run (.yes rfl (ltB rfl) rfl hc3) (op_cmpU (ltB rfl) (.tmp rfl) (HasO.cU (x := (3251651376 : UInt32)) rfl (by decide)) (congrArg some hv_v_10)) ?_
        refine JL.cons rfl (op_pickT (ltB rfl) (.tmp rfl) hc3 (.tmp rfl)) ?_
        refine JL.cons rfl (op_move (ltB rfl) (.tmp rfl)) ?_
        refine JL.pre (Imp.norm (n := 2) (ρ' := [(1, .one (.own 0)), (2, .one (.val (S rB v_2))), (3, .one (.own 1)), (4, .one (.val (S rB v_4))), (31, .one (.val (S rB v_10)))]) (X' := [.own UInt8 (rU UInt8) v_1 0, .own UInt8 (rU UInt8) v_3 0]) rfl (.cons rfl rfl (.cons rfl rfl (.cons rfl rfl (.cons rfl rfl (.cons rfl rfl .nil)))))) ?_
        refine JL.at (M := HM.none) ⟨[(1, .one (.own 0)), (2, .one (.val (S rB v_2))), (3, .one (.own 1)), (4, .one (.val (S rB v_4))), (31, .one (.val (S rB v_10)))], [.own UInt8 (rU UInt8) v_1 0, .own UInt8 (rU UInt8) v_3 0], ()⟩ ?_
        rcases iteB_inv hx1 with ⟨hc4, hx1⟩ | ⟨hc4, hx1⟩
        · obtain ⟨v_11, hv_v_11, hx1⟩ := bnd_inv hx1
          refine JL.run (.yes rfl (ltB rfl) rfl hc4) (op_makeOg (ltB rfl) tu23 tB5 zr5 .cI .cI hv_v_11) ?_
          refine JL.pre (Imp.norm (n := 3) (ρ' := [(1, .one (.own 0)), (2, .one (.val (S rB v_2))), (3, .one (.own 1)), (4, .one (.val (S rB v_4))), (31, .one (.val (S rB v_10))), (32, .one (.own 2))]) (X' := [.own UInt8 (rU UInt8) v_1 0, .own UInt8 (rU UInt8) v_3 0, .own UInt8 (rU UInt8) v_11 0]) rfl (.cons rfl rfl (.cons rfl rfl (.cons rfl rfl (.cons rfl rfl (.cons rfl rfl (.cons rfl rfl .nil))))))) ?_
          refine JL.at (M := HM.none) ⟨[(1, .one (.own 0)), (2, .one (.val (S rB v_2))), (3, .one (.own 1)), (4, .one (.val (S rB v_4))), (31, .one (.val (S rB v_10))), (32, .one (.own 2))], [.own UInt8 (rU UInt8) v_1 0, .own UInt8 (rU UInt8) v_3 0, .own UInt8 (rU UInt8) v_11 0], ()⟩ ?_
          refine JL.pre (Imp.freeze (s := 32) rfl rfl) ?_
          refine JL.run (.yes rfl (ltB rfl) rfl hc4) (op_buildF (r := (rL (rU UInt8))) (ltB rfl) tu22 tz23 tZ23 rfl (Nat.le_of_ble_eq_true rfl) (.S rfl (.tmp rfl) .nil) rfl) ?_
          obtain ⟨v_12, hv_v_12, hx1⟩ := bnd_inv hx1
          refine JL.run (.yes rfl (ltB rfl) rfl hc4) (op_call (ltB rfl) cl10 (sim_crc_Sum k ([v_11] : (List (List UInt8))) v_12 hv_v_12) (.cons (.tmp rfl) .nil)) ?_
          obtain ⟨v_13, hv_v_13, hx1⟩ := lt1_inv hx1
          refine JL.run (.yes rfl (ltB rfl) rfl hc4) (op_cmpU (ltB rfl) (.tmp rfl) (HasO.cU (x := (1214729159 : UInt32)) rfl (by decide)) (congrArg some hv_v_13)) ?_
          refine JL.cons rfl (op_pickT (ltB rfl) (.tmp rfl) hc4 (.tmp rfl)) ?_
          refine JL.cons rfl (op_move (ltB rfl) (.tmp rfl)) ?_
          rcases iteB_inv hx1 with ⟨hc5, hx1⟩ | ⟨hc5, hx1⟩
          · obtain ⟨v_14, hv_v_14, hx1⟩ := bnd_inv hx1
            refine JL.run (.yes rfl (ltB rfl) rfl hc5) (op_call (ltB rfl) cl9 (sim_crc_Close k ([] : (List (List UInt8))) v_14 hv_v_14) (.cons (HasO.nilL (r := (rL (rU UInt8)))) .nil)) ?_
            refine JL.pre (Imp.norm (n := 4) (ρ' := [(1, .one (.own 0)), (2, .one (.val (S rB v_2))), (3, .one (.own 1)), (4, .one (.val (S rB v_4))), (37, .one (.val (S rB v_13))), (38, .one (.own 3))]) (X' := [.own UInt8 (rU UInt8) v_1 0, .own UInt8 (rU UInt8) v_3 0, .own UInt8 (rU UInt8) v_11 (List.length v_11), .own UInt8 (rU UInt8) v_14 0]) rfl (.cons rfl rfl (.cons rfl rfl (.cons rfl rfl (.cons rfl rfl (.cons rfl rfl (.cons rfl rfl .nil))))))) ?_
            refine JL.at (M := HM.none) ⟨[(1, .one (.own 0)), (2, .one (.val (S rB v_2))), (3, .one (.own 1)), (4, .one (.val (S rB v_4))), (37, .one (.val (S rB v_13))), (38, .one (.own 3))], [.own UInt8 (rU UInt8) v_1 0, .own UInt8 (rU UInt8) v_3 0, .own UInt8 (rU UInt8) v_11 (List.length v_11), .own UInt8 (rU UInt8) v_14 0], ()⟩ ?_
            refine JL.run (.yes rfl (ltB rfl) rfl hc5) (op_convOS (ltB rfl) tu23 tu5 tu9 rfl (.tmp rfl)) ?_
            obtain ⟨v_15, hv_v_15, hx1⟩ := lt1_inv hx1
            refine JL.run (.yes rfl (ltB rfl) rfl hc5) (op_cmpS (ltB rfl) (.tmp rfl) (HasO.cS (l := [0, 0, 0, 0]) rfl) (congrArg some hv_v_15)) ?_
            refine JL.cons rfl (op_pickT (ltB rfl) (.tmp rfl) hc5 (.tmp rfl)) ?_
            refine JL.cons rfl (op_move (ltB rfl) (.tmp rfl)) ?_
            rcases iteB_inv hx1 with ⟨hc6, hx1⟩ | ⟨hc6, hx1⟩
            · refine JL.run (.yes rfl (ltB rfl) rfl hc6) (op_move (ltB rfl) (.tmp rfl)) ?_
              refine JL.run (.yes rfl (ltB rfl) rfl hc6) (op_lenO (ltB rfl) tu23 rfl (.tmp rfl)) ?_
              refine JL.pre (Imp.norm (n := 2) (ρ' := [(2, .one (.val (S rB v_2))), (3, .one (.own 1)), (4, .one (.val (S rB v_4))), (42, .one (.val (S rB v_15))), (44, .one (.val (S (rI .i64) (List.length v_1 : Int))))]) (X' := [.own UInt8 (rU UInt8) v_1 0, .own UInt8 (rU UInt8) v_3 0]) rfl (.cons rfl rfl (.cons rfl rfl (.cons rfl rfl (.cons rfl rfl (.cons rfl rfl .nil)))))) ?_
              refine JL.at (M := HM.none) ⟨[(2, .one (.val (S rB v_2))), (3, .one (.own 1)), (4, .one (.val (S rB v_4))), (42, .one (.val (S rB v_15))), (44, .one (.val (S (rI .i64) (List.length v_1 : Int))))], [.own UInt8 (rU UInt8) v_1 0, .own UInt8 (rU UInt8) v_3 0], ()⟩ ?_
              obtain ⟨v_16, hv_v_16, hx1⟩ := lt1_inv hx1
              refine JL.run (.yes rfl (ltB rfl) rfl hc6) (op_cmpI (ltB rfl) (.tmp rfl) .cI (congrArg some hv_v_16)) ?_
              refine JL.cons rfl (op_pickT (ltB rfl) (.tmp rfl) hc6 (.tmp rfl)) ?_
              refine JL.cons rfl (op_move (ltB rfl) (.tmp rfl)) ?_
              rcases iteB_inv hx1 with ⟨hc7, hx1⟩ | ⟨hc7, hx1⟩
              · refine JL.run (.yes rfl (ltB rfl) rfl hc7) (op_move (ltB rfl) (.tmp rfl)) ?_
                refine JL.cons rfl (op_pickT (ltB rfl) (.tmp rfl) hc7 (.tmp rfl)) ?_
                refine JL.cons rfl (op_move (ltB rfl) (.tmp rfl)) ?_
                refine JL.pre (Imp.norm (n := 2) (ρ' := [(3, .one (.own 1)), (4, .one (.val (S rB v_4))), (50, .one (.val (S rB v_2)))]) (X' := [.own UInt8 (rU UInt8) v_1 0, .own UInt8 (rU UInt8) v_3 0]) rfl (.cons rfl rfl (.cons rfl rfl (.cons rfl rfl .nil)))) ?_
                refine JL.at (M := HM.none) ⟨[(3, .one (.own 1)), (4, .one (.val (S rB v_4))), (50, .one (.val (S rB v_2)))], [.own UInt8 (rU UInt8) v_1 0, .own UInt8 (rU UInt8) v_3 0], ()⟩ ?_
                rcases iteB_inv hx1 with ⟨hc8, hx1⟩ | ⟨hc8, hx1⟩
                · refine JL.run (.yes rfl (ltB rfl) rfl hc8) (op_move (ltB rfl) (.tmp rfl)) ?_
                  refine JL.run (.yes rfl (ltB rfl) rfl hc8) (op_lenO (ltB rfl) tu23 rfl (.tmp rfl)) ?_
                  obtain ⟨v_17, hv_v_17, hx1⟩ := lt1_inv hx1
                  refine JL.run (.yes rfl (ltB rfl) rfl hc8) (op_cmpI (ltB rfl) (.tmp rfl) .cI (congrArg some hv_v_17)) ?_
                  refine JL.cons rfl (op_pickT (ltB rfl) (.tmp rfl) hc8 (.tmp rfl)) ?_
                  refine JL.cons rfl (op_move (ltB rfl) (.tmp rfl)) ?_
                  rcases iteB_inv hx1 with ⟨hc9, hx1⟩ | ⟨hc9, hx1⟩
                  · refine JL.run (.yes rfl (ltB rfl) rfl hc9) (op_move (ltB rfl) (.tmp rfl)) ?_
                    refine JL.pre (Imp.norm (n := 0) (ρ' := [(55, .one (.val (S rB v_17))), (56, .one (.val (S rB v_4)))]) (X' := []) rfl (.cons rfl rfl (.cons rfl rfl .nil))) ?_
                    refine JL.at (M := HM.none) ⟨[(55, .one (.val (S rB v_17))), (56, .one (.val (S rB v_4)))], [], ()⟩ ?_
                    obtain ⟨v_18, hv_v_18, hx1⟩ := lt1_inv hx1
                    refine JL.run (.yes rfl (ltB rfl) rfl hc9) (op_not (ltB rfl) (.tmp rfl) hv_v_18) ?_
                    refine JL.cons rfl (op_pickT (ltB rfl) (.tmp rfl) hc9 (.tmp rfl)) ?_
                    refine JL.cons rfl (op_assign (ltB rfl) (.tmp rfl)) ?_
                    refine JL.nil ?_
                    replace hx1 := Option.some.inj hx1
                    subst hx1
                    exact JQ.join (Imp.norm (n := 0) rfl (.cons rfl rfl .nil))
                  · refine JL.skip (.no rfl (ltB rfl) rfl hc9) (fun d h => by cases h; exact ltB rfl) ?_
                    refine JL.skip (.no rfl (ltB rfl) rfl hc9) (fun d h => by cases h; exact ltB rfl) ?_
                    refine JL.cons rfl (op_pickF (ltB rfl) (.tmp rfl) hc9 .cB) ?_
                    refine JL.pre (Imp.norm (n := 0) (ρ' := [(58, .one (.val (S rB false)))]) (X' := []) rfl (.cons rfl rfl .nil)) ?_
                    refine JL.at (M := HM.none) ⟨[(58, .one (.val (S rB false)))], [], ()⟩ ?_
                    refine JL.cons rfl (op_assign (ltB rfl) (.tmp rfl)) ?_
                    refine JL.nil ?_
                    replace hx1 := Option.some.inj hx1
                    subst hx1
                    exact JQ.join (Imp.norm (n := 0) rfl (.cons rfl rfl .nil))
                · refine JL.skip (.no rfl (ltB rfl) rfl hc8) (fun d h => by cases h; exact ltB rfl) ?_
                  refine JL.skip (.no rfl (ltB rfl) rfl hc8) (fun d h => by cases h; exact ltB rfl) ?_
                  refine JL.skip (.no rfl (ltB rfl) rfl hc8) (fun d h => by cases h; exact ltB rfl) ?_
                  refine JL.cons rfl (op_pickF (ltB rfl) (.tmp rfl) hc8 .cB) ?_
                  refine JL.cons rfl (op_move (ltB rfl) (.tmp rfl)) ?_
                  refine JL.skip (.no rfl (ltB rfl) rfl rfl) (fun d h => by cases h; exact ltB rfl) ?_
                  refine JL.skip (.no rfl (ltB rfl) rfl rfl) (fun d h => by cases h; exact ltB rfl) ?_
                  refine JL.cons rfl (op_pickF (ltB rfl) (.tmp rfl) rfl .cB) ?_
                  refine JL.cons rfl (op_assign (ltB rfl) (.tmp rfl)) ?_
                  refine JL.nil ?_
                  replace hx1 := Option.some.inj hx1
                  subst hx1
                  exact JQ.join (Imp.norm (n := 0) rfl (.cons rfl rfl .nil))
              · refine JL.skip (.no rfl (ltB rfl) rfl hc7) (fun d h => by cases h; exact ltB rfl) ?_
                refine JL.cons rfl (op_pickF (ltB rfl) (.tmp rfl) hc7 .cB) ?_
                refine JL.cons rfl (op_move (ltB rfl) (.tmp rfl)) ?_
                refine JL.skip (.no rfl (ltB rfl) rfl rfl) (fun d h => by cases h; exact ltB rfl) ?_
                refine JL.skip (.no rfl (ltB rfl) rfl rfl) (fun d h => by cases h; exact ltB rfl) ?_
                refine JL.skip (.no rfl (ltB rfl) rfl rfl) (fun d h => by cases h; exact ltB rfl) ?_
                refine JL.cons rfl (op_pickF (ltB rfl) (.tmp rfl) rfl .cB) ?_
                refine JL.pre (Imp.norm (n := 0) (ρ' := [(4, .one (.val (S rB v_4))), (54, .one (.val (S rB false)))]) (X' := []) rfl (.cons rfl rfl (.cons rfl rfl .nil))) ?_
                refine JL.at (M := HM.none) ⟨[(4, .one (.val (S rB v_4))), (54, .one (.val (S rB false)))], [], ()⟩ ?_
                refine JL.cons rfl (op_move (ltB rfl) (.tmp rfl)) ?_
                refine JL.skip (.no rfl (ltB rfl) rfl rfl) (fun d h => by cases h; exact ltB rfl) ?_
                refine JL.skip (.no rfl (ltB rfl) rfl rfl) (fun d h => by cases h; exact ltB rfl) ?_
                refine JL.cons rfl (op_pickF (ltB rfl) (.tmp rfl) rfl .cB) ?_
                refine JL.cons rfl (op_assign (ltB rfl) (.tmp rfl)) ?_
                refine JL.nil ?_
                replace hx1 := Option.some.inj hx1
                subst hx1
                exact JQ.join (Imp.norm (n := 0) rfl (.cons rfl rfl .nil))
            · refine JL.skip (.no rfl (ltB rfl) rfl hc6) (fun d h => by cases h; exact ltB rfl) ?_
              refine JL.skip (.no rfl (ltB rfl) rfl hc6) (fun d h => by cases h; exact ltB rfl) ?_
              refine JL.skip (.no rfl (ltB rfl) rfl hc6) (fun d h => by cases h; exact ltB rfl) ?_
              refine JL.cons rfl (op_pickF (ltB rfl) (.tmp rfl) hc6 .cB) ?_
              refine JL.cons rfl (op_move (ltB rfl) (.tmp rfl)) ?_
              refine JL.pre (Imp.norm (n := 2) (ρ' := [(2, .one (.val (S rB v_2))), (3, .one (.own 1)), (4, .one (.val (S rB v_4))), (47, .one (.val (S rB false)))]) (X' := [.own UInt8 (rU UInt8) v_1 0, .own UInt8 (rU UInt8) v_3 0]) rfl (.cons rfl rfl (.cons rfl rfl (.cons rfl rfl (.cons rfl rfl .nil))))) ?_
              refine JL.at (M := HM.none) ⟨[(2, .one (.val (S rB v_2))), (3, .one (.own 1)), (4, .one (.val (S rB v_4))), (47, .one (.val (S rB false)))], [.own UInt8 (rU UInt8) v_1 0, .own UInt8 (rU UInt8) v_3 0], ()⟩ ?_
              refine JL.skip (.no rfl (ltB rfl) rfl rfl) (fun d h => by cases h; exact ltB rfl) ?_
              refine JL.cons rfl (op_pickF (ltB rfl) (.tmp rfl) rfl .cB) ?_
              refine JL.cons rfl (op_move (ltB rfl) (.tmp rfl)) ?_
              refine JL.skip (.no rfl (ltB rfl) rfl rfl) (fun d h => by cases h; exact ltB rfl) ?_
              refine JL.skip (.no rfl (ltB rfl) rfl rfl) (fun d h => by cases h; exact ltB rfl) ?_
              refine JL.skip (.no rfl (ltB rfl) rfl rfl) (fun d h => by cases h; exact ltB rfl) ?_
              refine JL.cons rfl (op_pickF (ltB rfl) (.tmp rfl) rfl .cB) ?_
              refine JL.cons rfl (op_move (ltB rfl) (.tmp rfl)) ?_
              refine JL.skip (.no rfl (ltB rfl) rfl rfl) (fun d h => by cases h; exact ltB rfl) ?_
              refine JL.skip (.no rfl (ltB rfl) rfl rfl) (fun d h => by cases h; exact ltB rfl) ?_
              refine JL.cons rfl (op_pickF (ltB rfl) (.tmp rfl) rfl .cB) ?_
              refine JL.cons rfl (op_assign (ltB rfl) (.tmp rfl)) ?_
              refine JL.nil ?_
              replace hx1 := Option.some.inj hx1
              subst hx1
              exact JQ.join (Imp.norm (n := 0) rfl (.cons rfl rfl .nil))
          · refine JL.skip (.no rfl (ltB rfl) rfl hc5) (fun d h => by cases h; exact ltB rfl) ?_
            refine JL.skip (.no rfl (ltB rfl) rfl hc5) (fun d h => by cases h; exact ltB rfl) ?_
            refine JL.skip (.no rfl (ltB rfl) rfl hc5) (fun d h => by cases h; exact ltB rfl) ?_
            refine JL.cons rfl (op_pickF (ltB rfl) (.tmp rfl) hc5 .cB) ?_
            refine JL.pre (Imp.norm (n := 2) (ρ' := [(1, .one (.own 0)), (2, .one (.val (S rB v_2))), (3, .one (.own 1)), (4, .one (.val (S rB v_4))), (41, .one (.val (S rB false)))]) (X' := [.own UInt8 (rU UInt8) v_1 0, .own UInt8 (rU UInt8) v_3 0]) rfl (.cons rfl rfl (.cons rfl rfl (.cons rfl rfl (.cons rfl rfl (.cons rfl rfl .nil)))))) ?_
            refine JL.at (M := HM.none) ⟨[(1, .one (.own 0)), (2, .one (.val (S rB v_2))), (3, .one (.own 1)), (4, .one (.val (S rB v_4))), (41, .one (.val (S rB false)))], [.own UInt8 (rU UInt8) v_1 0, .own UInt8 (rU UInt8) v_3 0], ()⟩ ?_
            refine JL.cons rfl (op_move (ltB rfl) (.tmp rfl)) ?_
            refine JL.skip (.no rfl (ltB rfl) rfl rfl) (fun d h => by cases h; exact ltB rfl) ?_
            refine JL.skip (.no rfl (ltB rfl) rfl rfl) (fun d h => by cases h; exact ltB rfl) ?_
            refine JL.skip (.no rfl (ltB rfl) rfl rfl) (fun d h => by cases h; exact ltB rfl) ?_
            refine JL.cons rfl (op_pickF (ltB rfl) (.tmp rfl) rfl .cB) ?_
            refine JL.cons rfl (op_move (ltB rfl) (.tmp rfl)) ?_
            refine JL.skip (.no rfl (ltB rfl) rfl rfl) (fun d h => by cases h; exact ltB rfl) ?_
            refine JL.cons rfl (op_pickF (ltB rfl) (.tmp rfl) rfl .cB) ?_
            refine JL.cons rfl (op_move (ltB rfl) (.tmp rfl)) ?_
            refine JL.skip (.no rfl (ltB rfl) rfl rfl) (fun d h => by cases h; exact ltB rfl) ?_
            refine JL.skip (.no rfl (ltB rfl) rfl rfl) (fun d h => by cases h; exact ltB rfl) ?_
            refine JL.skip (.no rfl (ltB rfl) rfl rfl) (fun d h => by cases h; exact ltB rfl) ?_
            refine JL.cons rfl (op_pickF (ltB rfl) (.tmp rfl) rfl .cB) ?_
            refine JL.pre (Imp.norm (n := 0) (ρ' := [(4, .one (.val (S rB v_4))), (54, .one (.val (S rB false)))]) (X' := []) rfl (.cons rfl rfl (.cons rfl rfl .nil))) ?_
            refine JL.at (M := HM.none) ⟨[(4, .one (.val (S rB v_4))), (54, .one (.val (S rB false)))], [], ()⟩ ?_
            refine JL.cons rfl (op_move (ltB rfl) (.tmp rfl)) ?_
            refine JL.skip (.no rfl (ltB rfl) rfl rfl) (fun d h => by cases h; exact ltB rfl) ?_
            refine JL.skip (.no rfl (ltB rfl) rfl rfl) (fun d h => by cases h; exact ltB rfl) ?_
            refine JL.cons rfl (op_pickF (ltB rfl) (.tmp rfl) rfl .cB) ?_
            refine JL.cons rfl (op_assign (ltB rfl) (.tmp rfl)) ?_
            refine JL.nil ?_
            replace hx1 := Option.some.inj hx1
            subst hx1
            exact JQ.join (Imp.norm (n := 0) rfl (.cons rfl rfl .nil))
        · refine JL.skip (.no rfl (ltB rfl) rfl hc4) (fun d h => by cases h; exact ltB rfl) ?_
          refine JL.skip (.no rfl (ltB rfl) rfl hc4) (fun d h => by cases h; exact ltB rfl) ?_
          refine JL.skip (.no rfl (ltB rfl) rfl hc4) (fun d h => by cases h; exact ltB rfl) ?_
          refine JL.skip (.no rfl (ltB rfl) rfl hc4) (fun d h => by cases h; exact ltB rfl) ?_
          refine JL.cons rfl (op_pickF (ltB rfl) (.tmp rfl) hc4 .cB) ?_
          refine JL.cons rfl (op_move (ltB rfl) (.tmp rfl)) ?_
          refine JL.skip (.no rfl (ltB rfl) rfl rfl) (fun d h => by cases h; exact ltB rfl) ?_
          refine JL.skip (.no rfl (ltB rfl) rfl rfl) (fun d h => by cases h; exact ltB rfl) ?_
          refine JL.skip (.no rfl (ltB rfl) rfl rfl) (fun d h => by cases h; exact ltB rfl) ?_
          refine JL.cons rfl (op_pickF (ltB rfl) (.tmp rfl) rfl .cB) ?_
          refine JL.cons rfl (op_move (ltB rfl) (.tmp rfl)) ?_
          refine JL.skip (.no rfl (ltB rfl) rfl rfl) (fun d h => by cases h; exact ltB rfl) ?_
          refine JL.skip (.no rfl (ltB rfl) rfl rfl) (fun d h => by cases h; exact ltB rfl) ?_
          refine JL.skip (.no rfl (ltB rfl) rfl rfl) (fun d h => by cases h; exact ltB rfl) ?_
          refine JL.cons rfl (op_pickF (ltB rfl) (.tmp rfl) rfl .cB) ?_
          refine JL.cons rfl (op_move (ltB rfl) (.tmp rfl)) ?_
          refine JL.pre (Imp.norm (n := 2) (ρ' := [(2, .one (.val (S rB v_2))), (3, .one (.own 1)), (4, .one (.val (S rB v_4))), (47, .one (.val (S rB false)))]) (X' := [.own UInt8 (rU UInt8) v_1 0, .own UInt8 (rU UInt8) v_3 0]) rfl (.cons rfl rfl (.cons rfl rfl (.cons rfl rfl (.cons rfl rfl .nil))))) ?_
          refine JL.at (M := HM.none) ⟨[(2, .one (.val (S rB v_2))), (3, .one (.own 1)), (4, .one (.val (S rB v_4))), (47, .one (.val (S rB false)))], [.own UInt8 (rU UInt8) v_1 0, .own UInt8 (rU UInt8) v_3 0], ()⟩ ?_
          refine JL.skip (.no rfl (ltB rfl) rfl rfl) (fun d h => by cases h; exact ltB rfl) ?_
          refine JL.cons rfl (op_pickF (ltB rfl) (.tmp rfl) rfl .cB) ?_
          refine JL.cons rfl (op_move (ltB rfl) (.tmp rfl)) ?_
          refine JL.skip (.no rfl (ltB rfl) rfl rfl) (fun d h => by cases h; exact ltB rfl) ?_
          refine JL.skip (.no rfl (ltB rfl) rfl rfl) (fun d h => by cases h; exact ltB rfl) ?_
          refine JL.skip (.no rfl (ltB rfl) rfl rfl) (fun d h => by cases h; exact ltB rfl) ?_
          refine JL.cons rfl (op_pickF (ltB rfl) (.tmp rfl) rfl .cB) ?_
          refine JL.cons rfl (op_move (ltB rfl) (.tmp rfl)) ?_
          refine JL.skip (.no rfl (ltB rfl) rfl rfl) (fun d h => by cases h; exact ltB rfl) ?_
          refine JL.skip (.no rfl (ltB rfl) rfl rfl) (fun d h => by cases h; exact ltB rfl) ?_
          refine JL.cons rfl (op_pickF (ltB rfl) (.tmp rfl) rfl .cB) ?_
          refine JL.cons rfl (op_assign (ltB rfl) (.tmp rfl)) ?_
          refine JL.nil ?_
          replace hx1 := Option.some.inj hx1
          subst hx1
          exact JQ.join (Imp.norm (n := 0) rfl (.cons rfl rfl .nil))
      · refine JL.skip (.no rfl (ltB rfl) rfl hc3) (fun d h => by cases h; exact ltB rfl) ?_
        refine JL.skip (.no rfl (ltB rfl) rfl hc3) (fun d h => by cases h; exact ltB rfl) ?_
        refine JL.skip (.no rfl (ltB rfl) rfl hc3) (fun d h => by cases h; exact ltB rfl) ?_
        refine JL.skip (.no rfl (ltB rfl) rfl hc3) (fun d h => by cases h; exact ltB rfl) ?_
        refine JL.skip (.no rfl (ltB rfl) rfl hc3) (fun d h => by cases h; exact ltB rfl) ?_
        refine JL.cons rfl (op_pickF (ltB rfl) (.tmp rfl) hc3 .cB) ?_
        refine JL.cons rfl (op_move (ltB rfl) (.tmp rfl)) ?_
        refine JL.skip (.no rfl (ltB rfl) rfl rfl) (fun d h => by cases h; exact ltB rfl) ?_
        refine JL.skip (.no rfl (ltB rfl) rfl rfl) (fun d h => by cases h; exact ltB rfl) ?_
        refine JL.skip (.no rfl (ltB rfl) rfl rfl) (fun d h => by cases h; exact ltB rfl) ?_
        refine JL.skip (.no rfl (ltB rfl) rfl rfl) (fun d h => by cases h; exact ltB rfl) ?_
        refine JL.cons rfl (op_pickF (ltB rfl) (.tmp rfl) rfl .cB) ?_
        refine JL.cons rfl (op_move (ltB rfl) (.tmp rfl)) ?_
        refine JL.skip (.no rfl (ltB rfl) rfl rfl) (fun d h => by cases h; exact ltB rfl) ?_
        refine JL.skip (.no rfl (ltB rfl) rfl rfl) (fun d h => by cases h; exact ltB rfl) ?_
        refine JL.skip (.no rfl (ltB rfl) rfl rfl) (fun d h => by cases h; exact ltB rfl) ?_
        refine JL.cons rfl (op_pickF (ltB rfl) (.tmp rfl) rfl .cB) ?_
        refine JL.cons rfl (op_move (ltB rfl) (.tmp rfl)) ?_
        refine JL.pre (Imp.norm (n := 2) (ρ' := [(1, .one (.own 0)), (2, .one (.val (S rB v_2))), (3, .one (.own 1)), (4, .one (.val (S rB v_4))), (42, .one (.val (S rB false)))]) (X' := [.own UInt8 (rU UInt8) v_1 0, .own UInt8 (rU UInt8) v_3 0]) rfl (.cons rfl rfl (.cons rfl rfl (.cons rfl rfl (.cons rfl rfl (.cons rfl rfl .nil)))))) ?_
        refine JL.at (M := HM.none) ⟨[(1, .one (.own 0)), (2, .one (.val (S rB v_2))), (3, .one (.own 1)), (4, .one (.val (S rB v_4))), (42, .one (.val (S rB false)))], [.own UInt8 (rU UInt8) v_1 0, .own UInt8 (rU UInt8) v_3 0], ()⟩ ?_
        refine JL.skip (.no rfl (ltB rfl) rfl rfl) (fun d h => by cases h; exact ltB rfl) ?_
        refine JL.skip (.no rfl (ltB rfl) rfl rfl) (fun d h => by cases h; exact ltB rfl) ?_
        refine JL.skip (.no rfl (ltB rfl) rfl rfl) (fun d h => by cases h; exact ltB rfl) ?_
        refine JL.cons rfl (op_pickF (ltB rfl) (.tmp rfl) rfl .cB) ?_
        refine JL.cons rfl (op_move (ltB rfl) (.tmp rfl)) ?_
        refine JL.skip (.no rfl (ltB rfl) rfl rfl) (fun d h => by cases h; exact ltB rfl) ?_
        refine JL.cons rfl (op_pickF (ltB rfl) (.tmp rfl) rfl .cB) ?_
        refine JL.cons rfl (op_move (ltB rfl) (.tmp rfl)) ?_
        refine JL.skip (.no rfl (ltB rfl) rfl rfl) (fun d h => by cases h; exact ltB rfl) ?_
        refine JL.skip (.no rfl (ltB rfl) rfl rfl) (fun d h => by cases h; exact ltB rfl) ?_
        refine JL.skip (.no rfl (ltB rfl) rfl rfl) (fun d h => by cases h; exact ltB rfl) ?_
        refine JL.cons rfl (op_pickF (ltB rfl) (.tmp rfl) rfl .cB) ?_
        refine JL.cons rfl (op_move (ltB rfl) (.tmp rfl)) ?_
        refine JL.pre (Imp.norm (n := 0) (ρ' := [(4, .one (.val (S rB v_4))), (55, .one (.val (S rB false)))]) (X' := []) rfl (.cons rfl rfl (.cons rfl rfl .nil))) ?_
        refine JL.at (M := HM.none) ⟨[(4, .one (.val (S rB v_4))), (55, .one (.val (S rB false)))], [], ()⟩ ?_
        refine JL.skip (.no rfl (ltB rfl) rfl rfl) (fun d h => by cases h; exact ltB rfl) ?_
        refine JL.skip (.no rfl (ltB rfl) rfl rfl) (fun d h => by cases h; exact ltB rfl) ?_
        refine JL.cons rfl (op_pickF (ltB rfl) (.tmp rfl) rfl .cB) ?_
        refine JL.cons rfl (op_assign (ltB rfl) (.tmp rfl)) ?_
        refine JL.nil ?_
        replace hx1 := Option.some.inj hx1
        subst hx1
        exact JQ.join (Imp.norm (n := 0) rfl (.cons rfl rfl .nil))
    · refine JL.skip (.no rfl (ltB rfl) rfl hc2) (fun d h => by cases h; exact ltB rfl) ?_
      refine JL.skip (.no rfl (ltB rfl) rfl hc2) (fun d h => by cases h; exact ltB rfl) ?_
      refine JL.skip (.no rfl (ltB rfl) rfl hc2) (fun d h => by cases h; exact ltB rfl) ?_
      refine JL.skip (.no rfl (ltB rfl) rfl hc2) (fun d h => by cases h; exact ltB rfl) ?_
      refine JL.skip (.no rfl (ltB rfl) rfl hc2) (fun d h => by cases h; exact ltB rfl) ?_
      refine JL.cons rfl (op_pickF (ltB rfl) (.tmp rfl) hc2 .cB) ?_
      refine JL.cons rfl (op_move (ltB rfl) (.tmp rfl)) ?_
      refine JL.skip (.no rfl (ltB rfl) rfl rfl) (fun d h => by cases h; exact ltB rfl) ?_
      refine JL.skip (.no rfl (ltB rfl) rfl rfl) (fun d h => by cases h; exact ltB rfl) ?_
      refine JL.skip (.no rfl (ltB rfl) rfl rfl) (fun d h => by cases h; exact ltB rfl) ?_
      refine JL.skip (.no rfl (ltB rfl) rfl rfl) (fun d h => by cases h; exact ltB rfl) ?_
      refine JL.skip (.no rfl (ltB rfl) rfl rfl) (fun d h => by cases h; exact ltB rfl) ?_
      refine JL.cons rfl (op_pickF (ltB rfl) (.tmp rfl) rfl .cB) ?_
      refine JL.cons rfl (op_move (ltB rfl) (.tmp rfl)) ?_
      refine JL.pre (Imp.norm (n := 2) (ρ' := [(1, .one (.own 0)), (2, .one (.val (S rB v_2))), (3, .one (.own 1)), (4, .one (.val (S rB v_4))), (31, .one (.val (S rB false)))]) (X' := [.own UInt8 (rU UInt8) v_1 0, .own UInt8 (rU UInt8) v_3 0]) rfl (.cons rfl rfl (.cons rfl rfl (.cons rfl rfl (.cons rfl rfl (.cons rfl rfl .nil)))))) ?_
      refine JL.at (M := HM.none) ⟨[(1, .one (.own 0)), (2, .one (.val (S rB v_2))), (3, .one (.own 1)), (4, .one (.val (S rB v_4))), (31, .one (.val (S rB false)))], [.own UInt8 (rU UInt8) v_1 0, .own UInt8 (rU UInt8) v_3 0], ()⟩ ?_
      refine JL.skip (.no rfl (ltB rfl) rfl rfl) (fun d h => by cases h; exact ltB rfl) ?_
      refine JL.skip (.no rfl (ltB rfl) rfl rfl) (fun d h => by cases h; exact ltB rfl) ?_
      refine JL.skip (.no rfl (ltB rfl) rfl rfl) (fun d h => by cases h; exact ltB rfl) ?_
      refine JL.skip (.no rfl (ltB rfl) rfl rfl) (fun d h => by cases h; exact ltB rfl) ?_
      refine JL.cons rfl (op_pickF (ltB rfl) (.tmp rfl) rfl .cB) ?_
      refine JL.cons rfl (op_move (ltB rfl) (.tmp rfl)) ?_
      refine JL.skip (.no rfl (ltB rfl) rfl rfl) (fun d h => by cases h; exact ltB rfl) ?_
      refine JL.skip (.no rfl (ltB rfl) rfl rfl) (fun d h => by cases h; exact ltB rfl) ?_
      refine JL.skip (.no rfl (ltB rfl) rfl rfl) (fun d h => by cases h; exact ltB rfl) ?_
      refine JL.cons rfl (op_pickF (ltB rfl) (.tmp rfl) rfl .cB) ?_
      refine JL.cons rfl (op_move (ltB rfl) (.tmp rfl)) ?_
      refine JL.skip (.no rfl (ltB rfl) rfl rfl) (fun d h => by cases h; exact ltB rfl) ?_
      refine JL.skip (.no rfl (ltB rfl) rfl rfl) (fun d h => by cases h; exact ltB rfl) ?_
      refine JL.skip (.no rfl (ltB rfl) rfl rfl) (fun d h => by cases h; exact ltB rfl) ?_
      refine JL.cons rfl (op_pickF (ltB rfl) (.tmp rfl) rfl .cB) ?_
      refine JL.cons rfl (op_move (ltB rfl) (.tmp rfl)) ?_
      refine JL.pre (Imp.norm (n := 2) (ρ' := [(2, .one (.val (S rB v_2))), (3, .one (.own 1)), (4, .one (.val (S rB v_4))), (47, .one (.val (S rB false)))]) (X' := [.own UInt8 (rU UInt8) v_1 0, .own UInt8 (rU UInt8) v_3 0]) rfl (.cons rfl rfl (.cons rfl rfl (.cons rfl rfl (.cons rfl rfl .nil))))) ?_
      refine JL.at (M := HM.none) ⟨[(2, .one (.val (S rB v_2))), (3, .one (.own 1)), (4, .one (.val (S rB v_4))), (47, .one (.val (S rB false)))], [.own UInt8 (rU UInt8) v_1 0, .own UInt8 (rU UInt8) v_3 0], ()⟩ ?_
      refine JL.skip (.no rfl (ltB rfl) rfl rfl) (fun d h => by cases h; exact ltB rfl) ?_
      refine JL.cons rfl (op_pickF (ltB rfl) (.tmp rfl) rfl .cB) ?_
      refine JL.cons rfl (op_move (ltB rfl) (.tmp rfl)) ?_
      refine JL.skip (.no rfl (ltB rfl) rfl rfl) (fun d h => by cases h; exact ltB rfl) ?_
      refine JL.skip (.no rfl (ltB rfl) rfl rfl) (fun d h => by cases h; exact ltB rfl) ?_
      refine JL.skip (.no rfl (ltB rfl) rfl rfl) (fun d h => by cases h; exact ltB rfl) ?_
      refine JL.cons rfl (op_pickF (ltB rfl) (.tmp rfl) rfl .cB) ?_
      refine JL.cons rfl (op_move (ltB rfl) (.tmp rfl)) ?_
      refine JL.skip (.no rfl (ltB rfl) rfl rfl) (fun d h => by cases h; exact ltB rfl) ?_
      refine JL.skip (.no rfl (ltB rfl) rfl rfl) (fun d h => by cases h; exact ltB rfl) ?_
      refine JL.cons rfl (op_pickF (ltB rfl) (.tmp rfl) rfl .cB) ?_
      refine JL.cons rfl (op_assign (ltB rfl) (.tmp rfl)) ?_
      refine JL.nil ?_
      replace hx1 := Option.some.inj hx1
      subst hx1
      exact JQ.join (Imp.norm (n := 0) rfl (.cons rfl rfl .nil))

end Go.Proofs.Ytlkofkegbkkhbaa
