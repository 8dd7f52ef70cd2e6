/- The walk of one function. -/
import Derived.Test.YtlkofkegbkkhbaaT
import Derived.Test.YtlkofkegbkkhbaaW8
import Derived.Test.YtlkofkegbkkhbaaW9
import Derived.Test.YtlkofkegbkkhbaaW10
import Derived.Test.YtlkofkegbkkhbaaW11
import Derived.Test.YtlkofkegbkkhbaaW12
import Derived.Test.YtlkofkegbkkhbaaW13
namespace Go.Proofs.Ytlkofkegbkkhbaa
open Go Fw
set_option linter.unusedVariables false
set_option maxRecDepth 100000
set_option maxHeartbeats 4000000

theorem sim_law02_FramesSum (k : Nat) (l_1 : (List (List UInt8))) (r : Bool) (hm : law02_FramesSum k l_1 = some r) : Sim Try.prog 3 [S (rL (rL (rU UInt8))) l_1] [] (.one (.val (S rB r))) := by
  unfold law02_FramesSum at hm
  refine Sim.of Try.func3 rfl rfl (Nat.le_of_ble_eq_true rfl) (fun e0 w0 => ?_)
  refine JC.at (M := HM.none) ⟨[(0, .one (.val (S (rL (rL (rU UInt8))) l_1)))], [], ()⟩ ?_
  refine JC.seq ?_
  refine JC.region ?_
  refine JL.cons rfl (op_assign (ltB rfl) .cB) ?_
  refine JL.nil ?_
  refine JQ.then ?_
  refine JC.seq ?_
  refine JC.region ?_
  refine JL.cons rfl (op_nilA (rU UInt8) (ltB rfl)) ?_
  refine JL.nil ?_
  refine JQ.then ?_
  obtain ⟨tv1, hx1, hq1⟩ := bnd_inv hm
  refine JC.seqK (α := (List UInt8)) (stj := fun v => ⟨[(0, .one (.val (S (rL (rL (rU UInt8))) l_1))), (3, .one (.own 0))], [.own UInt8 (rU UInt8) v 0], ()⟩) (p := fun v => tv1 = (.inl v)) (fun v hv => ?_) ?_
  · subst hv
    obtain ⟨all_13, hvv⟩ : ∃ z, z = v := ⟨_, rfl⟩
    subst hvv
    dsimp only at hq1
    refine JC.at (M := HM.none) ⟨[(0, .one (.val (S (rL (rL (rU UInt8))) l_1))), (3, .one (.own 0))], [.own UInt8 (rU UInt8) all_13 0], ()⟩ ?_
    refine JC.seq ?_
    refine JC.region ?_
    refine JL.cons rfl (op_move (ltB rfl) (.tmp rfl)) ?_
    obtain ⟨v_14, hv_v_14, hq1⟩ := bnd_inv hq1
    refine JL.cons rfl (op_call (ltB rfl) cl9 (sim_crc_Close k l_1 v_14 hv_v_14) (.cons (.tmp rfl) .nil)) ?_
    refine JL.pre (Imp.norm (n := 2) (ρ' := [(0, .one (.val (S (rL (rL (rU UInt8))) l_1))), (3, .one (.own 0)), (29, .one (.own 1))]) (X' := [.own UInt8 (rU UInt8) all_13 0, .own UInt8 (rU UInt8) v_14 0]) rfl (.cons rfl rfl (.cons rfl rfl (.cons rfl rfl .nil)))) ?_
    refine JL.at (M := HM.none) ⟨[(0, .one (.val (S (rL (rL (rU UInt8))) l_1))), (3, .one (.own 0)), (29, .one (.own 1))], [.own UInt8 (rU UInt8) all_13 0, .own UInt8 (rU UInt8) v_14 0], ()⟩ ?_
    refine JL.cons rfl (op_assign (ltB rfl) (.tmp rfl)) ?_
    refine JL.nil ?_
    refine JQ.then ?_
    obtain ⟨v_27, hx5, hq5⟩ := bnd_inv hq1
    refine JC.seqJ (stj := ⟨[(2, .one (.val (S rB v_27)))], [], ()⟩) ?_ ?_
    · refine JC.ret ?_
      replace hq5 := Option.some.inj hq5
      subst hq5
      exact JQ.doneV (ss := [.val (S rB v_27)]) (.inl rfl) rfl rfl (.cons (.tmp rfl) .nil) rfl
    · refine JC.pre (Imp.freeze (s := 3) rfl rfl) ?_
      refine JC.pre (Imp.freeze (s := 5) rfl rfl) ?_
      obtain ⟨v_15, hv_v_15, hx5⟩ := bnd_inv hx5
      obtain ⟨v_16, hv_v_16, hx5⟩ := bnd_inv hx5
      obtain ⟨v_17, hv_v_17, hx5⟩ := lt1_inv hx5
      rcases iteB_inv hx5 with ⟨hc6, hx5⟩ | ⟨hc6, hx5⟩
      · obtain ⟨v_18, hv_v_18, hx5⟩ := bnd_inv hx5
        obtain ⟨v_19, hv_v_19, hx5⟩ := bnd_inv hx5
        obtain ⟨v_20, hv_v_20, hx5⟩ := lt1_inv hx5
        rcases iteB_inv hx5 with ⟨hc7, hx5⟩ | ⟨hc7, hx5⟩
        · obtain ⟨v_21, hv_v_21, hx5⟩ := bnd_inv hx5
          obtain ⟨v_22, hv_v_22, hx5⟩ := lt1_inv hx5
          rcases iteB_inv hx5 with ⟨hc8, hx5⟩ | ⟨hc8, hx5⟩
          · obtain ⟨v_23, hv_v_23, hx5⟩ := bnd_inv hx5
            obtain ⟨v_24, hv_v_24, hx5⟩ := bnd_inv hx5
            obtain ⟨v_25, hv_v_25, hx5⟩ := lt1_inv hx5
            rcases iteB_inv hx5 with ⟨hc9, hx5⟩ | ⟨hc9, hx5⟩
            · obtain ⟨v_26, hv_v_26, hx5⟩ := bnd_inv hx5
              refine JC.anyG (base := [(0, .one (.val (S (rL (rL (rU UInt8))) l_1))), (3, .one (.val (S (rL (rU UInt8)) all_13))), (5, .one (.val (S (rL (rU UInt8)) v_14)))])
                  (fs := [⟨some 30, .one (.val (S (rL (rL (rU UInt8))) l_1))⟩, ⟨some 31, .one (.val (S (rU UInt32) v_15))⟩, ⟨some 32, .one (.val (S (rL (rU UInt8)) all_13))⟩, ⟨some 33, .one (.val (S (rU UInt32) v_16))⟩, ⟨some 34, .one (.val (S rB v_17))⟩, ⟨some 35, .one (.val (S rB v_17))⟩, ⟨some 36, .one (.val (S (rL (rU UInt8)) all_13))⟩, ⟨some 37, .one (.val (S (rL (rL (rU UInt8))) ([all_13] : (List (List UInt8)))))⟩, ⟨some 38, .one (.val (S (rU UInt32) v_18))⟩, ⟨some 39, .one (.val (S (rL (rU UInt8)) all_13))⟩, ⟨some 40, .one (.val (S (rU UInt32) v_19))⟩, ⟨some 41, .one (.val (S rB v_20))⟩, ⟨some 42, .one (.val (S rB v_20))⟩, ⟨some 43, .one (.val (S rB v_20))⟩, ⟨some 44, .one (.val (S (rL (rU UInt8)) v_14))⟩, ⟨some 45, .one (.val (S rS v_14))⟩, ⟨some 46, .one (.val (S (rL (rU UInt8)) all_13))⟩, ⟨some 47, .one (.val (S (rL (rU UInt8)) v_21))⟩, ⟨some 48, .one (.val (S rS v_21))⟩, ⟨some 49, .one (.val (S rB v_22))⟩, ⟨some 50, .one (.val (S rB v_22))⟩, ⟨some 51, .one (.val (S rB v_22))⟩, ⟨some 52, .one (.val (S (rL (rU UInt8)) v_14))⟩, ⟨some 53, .one (.val (S (rL (rL (rU UInt8))) ([v_14] : (List (List UInt8)))))⟩, ⟨some 54, .one (.val (S (rU UInt32) v_23))⟩, ⟨some 55, .one (.val (S (rU UInt32) v_24))⟩, ⟨some 56, .one (.val (S rB v_25))⟩, ⟨some 57, .one (.val (S rB v_25))⟩, ⟨some 58, .one (.val (S rB v_25))⟩, ⟨some 59, .one (.val (S rB v_26))⟩, ⟨some 60, .one (.val (S rB v_26))⟩, ⟨some 2, .one (.val (S rB v_26))⟩])
                  (ds := [30, 31, 32, 33, 34, 35, 36, 37, 38, 39, 40, 41, 42, 43, 44, 45, 46, 47, 48, 49, 50, 51, 52, 53, 54, 55, 56, 57, 58, 59, 60, 2]) (bs := [0, 3, 5]) mixed (.cons rfl (.cons rfl (.cons rfl .nil)))
                  (.cons rfl (FStep.go (fun ρ hb hd => .none) (fun ρ hb hd => op_move (ltB rfl) (.tmp (hb 0 _ rfl)))) 
    (.cons rfl (FStep.go (fun ρ hb hd => .none) (fun ρ hb hd => op_call (ltB rfl) cl10 (sim_crc_Sum k l_1 v_15 hv_v_15) (.cons (.tmp (hdl hd 0 30 rfl (by decide +kernel))) .nil))) 
    (.cons rfl (FStep.go (fun ρ hb hd => .none) (fun ρ hb hd => op_move (ltB rfl) (.tmp (hb 3 _ rfl)))) 
    (.cons rfl (FStep.go (fun ρ hb hd => .none) (fun ρ hb hd => op_call (ltB rfl) cl11 (sim_ref02_Sum k all_13 v_16 hv_v_16) (.cons (.tmp (hdl hd 2 32 rfl (by decide +kernel))) .nil))) 
    (.cons rfl (FStep.go (fun ρ hb hd => .none) (fun ρ hb hd => op_cmpU (ltB rfl) (.tmp (hdl hd 1 31 rfl (by decide +kernel))) (.tmp (hdl hd 3 33 rfl (by decide +kernel))) (congrArg some hv_v_17))) 
    (.cons rfl (FStep.go (fun ρ hb hd => .none) (fun ρ hb hd => op_move (ltB rfl) (.tmp (hdl hd 4 34 rfl (by decide +kernel))))) 
    (.cons rfl (FStep.go (fun ρ hb hd => .yes rfl (ltB rfl) (hdl hd 5 35 rfl (by decide +kernel)) hc6) (fun ρ hb hd => op_move (ltB rfl) (.tmp (hb 3 _ rfl)))) 
    (.cons rfl (FStep.go (fun ρ hb hd => .yes rfl (ltB rfl) (hdl hd 5 35 rfl (by decide +kernel)) hc6) (fun ρ hb hd => op_buildF (r := (rL (rU UInt8))) (ltB rfl) tu22 tz23 tZ23 rfl (Nat.le_of_ble_eq_true rfl) (.S rfl (.tmp (hdl hd 6 36 rfl (by decide +kernel))) .nil) rfl)) 
    (.cons rfl (FStep.go (fun ρ hb hd => .yes rfl (ltB rfl) (hdl hd 5 35 rfl (by decide +kernel)) hc6) (fun ρ hb hd => op_call (ltB rfl) cl10 (sim_crc_Sum k ([all_13] : (List (List UInt8))) v_18 hv_v_18) (.cons (.tmp (hdl hd 7 37 rfl (by decide +kernel))) .nil))) 
    (.cons rfl (FStep.go (fun ρ hb hd => .yes rfl (ltB rfl) (hdl hd 5 35 rfl (by decide +kernel)) hc6) (fun ρ hb hd => op_move (ltB rfl) (.tmp (hb 3 _ rfl)))) 
    (.cons rfl (FStep.go (fun ρ hb hd => .yes rfl (ltB rfl) (hdl hd 5 35 rfl (by decide +kernel)) hc6) (fun ρ hb hd => op_call (ltB rfl) cl11 (sim_ref02_Sum k all_13 v_19 hv_v_19) (.cons (.tmp (hdl hd 9 39 rfl (by decide +kernel))) .nil))) 
    (.cons rfl (FStep.go (fun ρ hb hd => .yes rfl (ltB rfl) (hdl hd 5 35 rfl (by decide +kernel)) hc6) (fun ρ hb hd => op_cmpU (ltB rfl) (.tmp (hdl hd 8 38 rfl (by decide +kernel))) (.tmp (hdl hd 10 40 rfl (by decide +kernel))) (congrArg some hv_v_20))) 
    (.cons rfl (FStep.go (fun ρ hb hd => .none) (fun ρ hb hd => op_pickT (ltB rfl) (.tmp (hdl hd 5 35 rfl (by decide +kernel))) hc6 (.tmp (hdl hd 11 41 rfl (by decide +kernel))))) 
    (.cons rfl (FStep.go (fun ρ hb hd => .none) (fun ρ hb hd => op_move (ltB rfl) (.tmp (hdl hd 12 42 rfl (by decide +kernel))))) 
    (.cons rfl (FStep.go (fun ρ hb hd => .yes rfl (ltB rfl) (hdl hd 13 43 rfl (by decide +kernel)) hc7) (fun ρ hb hd => op_move (ltB rfl) (.tmp (hb 5 _ rfl)))) 
    (.cons rfl (FStep.go (fun ρ hb hd => .yes rfl (ltB rfl) (hdl hd 13 43 rfl (by decide +kernel)) hc7) (fun ρ hb hd => op_convBS (ltB rfl) tu23 tu5 tu9 (.tmp (hdl hd 14 44 rfl (by decide +kernel))))) 
    (.cons rfl (FStep.go (fun ρ hb hd => .yes rfl (ltB rfl) (hdl hd 13 43 rfl (by decide +kernel)) hc7) (fun ρ hb hd => op_move (ltB rfl) (.tmp (hb 3 _ rfl)))) 
    (.cons rfl (FStep.go (fun ρ hb hd => .yes rfl (ltB rfl) (hdl hd 13 43 rfl (by decide +kernel)) hc7) (fun ρ hb hd => op_call (ltB rfl) cl12 (sim_ref02_Close_z k all_13 v_21 hv_v_21) (.cons (.tmp (hdl hd 16 46 rfl (by decide +kernel))) .nil))) 
    (.cons rfl (FStep.go (fun ρ hb hd => .yes rfl (ltB rfl) (hdl hd 13 43 rfl (by decide +kernel)) hc7) (fun ρ hb hd => op_convBS (ltB rfl) tu23 tu5 tu9 (.tmp (hdl hd 17 47 rfl (by decide +kernel))))) 
    (.cons rfl (FStep.go (fun ρ hb hd => .yes rfl (ltB rfl) (hdl hd 13 43 rfl (by decide +kernel)) hc7) (fun ρ hb hd => op_cmpS (ltB rfl) (.tmp (hdl hd 15 45 rfl (by decide +kernel))) (.tmp (hdl hd 18 48 rfl (by decide +kernel))) (congrArg some hv_v_22))) 
    (.cons rfl (FStep.go (fun ρ hb hd => .none) (fun ρ hb hd => op_pickT (ltB rfl) (.tmp (hdl hd 13 43 rfl (by decide +kernel))) hc7 (.tmp (hdl hd 19 49 rfl (by decide +kernel))))) 
    (.cons rfl (FStep.go (fun ρ hb hd => .none) (fun ρ hb hd => op_move (ltB rfl) (.tmp (hdl hd 20 50 rfl (by decide +kernel))))) 
    (.cons rfl (FStep.go (fun ρ hb hd => .yes rfl (ltB rfl) (hdl hd 21 51 rfl (by decide +kernel)) hc8) (fun ρ hb hd => op_move (ltB rfl) (.tmp (hb 5 _ rfl)))) 
    (.cons rfl (FStep.go (fun ρ hb hd => .yes rfl (ltB rfl) (hdl hd 21 51 rfl (by decide +kernel)) hc8) (fun ρ hb hd => op_buildF (r := (rL (rU UInt8))) (ltB rfl) tu22 tz23 tZ23 rfl (Nat.le_of_ble_eq_true rfl) (.S rfl (.tmp (hdl hd 22 52 rfl (by decide +kernel))) .nil) rfl)) 
    (.cons rfl (FStep.go (fun ρ hb hd => .yes rfl (ltB rfl) (hdl hd 21 51 rfl (by decide +kernel)) hc8) (fun ρ hb hd => op_call (ltB rfl) cl10 (sim_crc_Sum k ([v_14] : (List (List UInt8))) v_23 hv_v_23) (.cons (.tmp (hdl hd 23 53 rfl (by decide +kernel))) .nil))) 
    (.cons rfl (FStep.go (fun ρ hb hd => .yes rfl (ltB rfl) (hdl hd 21 51 rfl (by decide +kernel)) hc8) (fun ρ hb hd => op_call (ltB rfl) cl13 (sim_crc_Residue k v_24 hv_v_24) .nil)) 
    (.cons rfl (FStep.go (fun ρ hb hd => .yes rfl (ltB rfl) (hdl hd 21 51 rfl (by decide +kernel)) hc8) (fun ρ hb hd => op_cmpU (ltB rfl) (.tmp (hdl hd 24 54 rfl (by decide +kernel))) (.tmp (hdl hd 25 55 rfl (by decide +kernel))) (congrArg some hv_v_25))) 
    (.cons rfl (FStep.go (fun ρ hb hd => .none) (fun ρ hb hd => op_pickT (ltB rfl) (.tmp (hdl hd 21 51 rfl (by decide +kernel))) hc8 (.tmp (hdl hd 26 56 rfl (by decide +kernel))))) 
    (.cons rfl (FStep.go (fun ρ hb hd => .none) (fun ρ hb hd => op_move (ltB rfl) (.tmp (hdl hd 27 57 rfl (by decide +kernel))))) 
    (.cons rfl (FStep.go (fun ρ hb hd => .yes rfl (ltB rfl) (hdl hd 28 58 rfl (by decide +kernel)) hc9) (fun ρ hb hd => op_call (ltB rfl) cl8 (sim_law02_known k v_26 hv_v_26) .nil)) 
    (.cons rfl (FStep.go (fun ρ hb hd => .none) (fun ρ hb hd => op_pickT (ltB rfl) (.tmp (hdl hd 28 58 rfl (by decide +kernel))) hc9 (.tmp (hdl hd 29 59 rfl (by decide +kernel))))) 
    (.cons rfl (FStep.go (fun ρ hb hd => .none) (fun ρ hb hd => op_assign (ltB rfl) (.tmp (hdl hd 30 60 rfl (by decide +kernel))))) .nil))))))))))))))))))))))))))))))))
                  (by decide +kernel) rfl rfl (by decide) (by decide)
                  (ρ' := [(2, .one (.val (S rB v_26)))])
                  (fun ρ hb hd => (.cons (hdq hd 31 2 rfl) .nil)) ?_
              replace hx5 := Option.some.inj hx5
              subst hx5
              exact JQ.join (Imp.norm (n := 0) rfl (.cons rfl rfl .nil))
            · refine JC.anyG (base := [(0, .one (.val (S (rL (rL (rU UInt8))) l_1))), (3, .one (.val (S (rL (rU UInt8)) all_13))), (5, .one (.val (S (rL (rU UInt8)) v_14)))])
                  (fs := [⟨some 30, .one (.val (S (rL (rL (rU UInt8))) l_1))⟩, ⟨some 31, .one (.val (S (rU UInt32) v_15))⟩, ⟨some 32, .one (.val (S (rL (rU UInt8)) all_13))⟩, ⟨some 33, .one (.val (S (rU UInt32) v_16))⟩, ⟨some 34, .one (.val (S rB v_17))⟩, ⟨some 35, .one (.val (S rB v_17))⟩, ⟨some 36, .one (.val (S (rL (rU UInt8)) all_13))⟩, ⟨some 37, .one (.val (S (rL (rL (rU UInt8))) ([all_13] : (List (List UInt8)))))⟩, ⟨some 38, .one (.val (S (rU UInt32) v_18))⟩, ⟨some 39, .one (.val (S (rL (rU UInt8)) all_13))⟩, ⟨some 40, .one (.val (S (rU UInt32) v_19))⟩, ⟨some 41, .one (.val (S rB v_20))⟩, ⟨some 42, .one (.val (S rB v_20))⟩, ⟨some 43, .one (.val (S rB v_20))⟩, ⟨some 44, .one (.val (S (rL (rU UInt8)) v_14))⟩, ⟨some 45, .one (.val (S rS v_14))⟩, ⟨some 46, .one (.val (S (rL (rU UInt8)) all_13))⟩, ⟨some 47, .one (.val (S (rL (rU UInt8)) v_21))⟩, ⟨some 48, .one (.val (S rS v_21))⟩, ⟨some 49, .one (.val (S rB v_22))⟩, ⟨some 50, .one (.val (S rB v_22))⟩, ⟨some 51, .one (.val (S rB v_22))⟩, ⟨some 52, .one (.val (S (rL (rU UInt8)) v_14))⟩, ⟨some 53, .one (.val (S (rL (rL (rU UInt8))) ([v_14] : (List (List UInt8)))))⟩, ⟨some 54, .one (.val (S (rU UInt32) v_23))⟩, ⟨some 55, .one (.val (S (rU UInt32) v_24))⟩, ⟨some 56, .one (.val (S rB v_25))⟩, ⟨some 57, .one (.val (S rB v_25))⟩, ⟨some 58, .one (.val (S rB v_25))⟩, ⟨some 59, .one (.und)⟩, ⟨some 60, .one (.val (S rB false))⟩, ⟨some 2, .one (.val (S rB false))⟩])
                  (ds := [30, 31, 32, 33, 34, 35, 36, 37, 38, 39, 40, 41, 42, 43, 44, 45, 46, 47, 48, 49, 50, 51, 52, 53, 54, 55, 56, 57, 58, 59, 60, 2]) (bs := [0, 3, 5]) mixed (.cons rfl (.cons rfl (.cons rfl .nil)))
                  (.cons rfl (FStep.go (fun ρ hb hd => .none) (fun ρ hb hd => op_move (ltB rfl) (.tmp (hb 0 _ rfl)))) 
    (.cons rfl (FStep.go (fun ρ hb hd => .none) (fun ρ hb hd => op_call (ltB rfl) cl10 (sim_crc_Sum k l_1 v_15 hv_v_15) (.cons (.tmp (hdl hd 0 30 rfl (by decide +kernel))) .nil))) 
    (.cons rfl (FStep.go (fun ρ hb hd => .none) (fun ρ hb hd => op_move (ltB rfl) (.tmp (hb 3 _ rfl)))) 
    (.cons rfl (FStep.go (fun ρ hb hd => .none) (fun ρ hb hd => op_call (ltB rfl) cl11 (sim_ref02_Sum k all_13 v_16 hv_v_16) (.cons (.tmp (hdl hd 2 32 rfl (by decide +kernel))) .nil))) 
    (.cons rfl (FStep.go (fun ρ hb hd => .none) (fun ρ hb hd => op_cmpU (ltB rfl) (.tmp (hdl hd 1 31 rfl (by decide +kernel))) (.tmp (hdl hd 3 33 rfl (by decide +kernel))) (congrArg some hv_v_17))) 
    (.cons rfl (FStep.go (fun ρ hb hd => .none) (fun ρ hb hd => op_move (ltB rfl) (.tmp (hdl hd 4 34 rfl (by decide +kernel))))) 
    (.cons rfl (FStep.go (fun ρ hb hd => .yes rfl (ltB rfl) (hdl hd 5 35 rfl (by decide +kernel)) hc6) (fun ρ hb hd => op_move (ltB rfl) (.tmp (hb 3 _ rfl)))) 
    (.cons rfl (FStep.go (fun ρ hb hd => .yes rfl (ltB rfl) (hdl hd 5 35 rfl (by decide +kernel)) hc6) (fun ρ hb hd => op_buildF (r := (rL (rU UInt8))) (ltB rfl) tu22 tz23 tZ23 rfl (Nat.le_of_ble_eq_true rfl) (.S rfl (.tmp (hdl hd 6 36 rfl (by decide +kernel))) .nil) rfl)) 
    (.cons rfl (FStep.go (fun ρ hb hd => .yes rfl (ltB rfl) (hdl hd 5 35 rfl (by decide +kernel)) hc6) (fun ρ hb hd => op_call (ltB rfl) cl10 (sim_crc_Sum k ([all_13] : (List (List UInt8))) v_18 hv_v_18) (.cons (.tmp (hdl hd 7 37 rfl (by decide +kernel))) .nil))) 
    (.cons rfl (FStep.go (fun ρ hb hd => .yes rfl (ltB rfl) (hdl hd 5 35 rfl (by decide +kernel)) hc6) (fun ρ hb hd => op_move (ltB rfl) (.tmp (hb 3 _ rfl)))) 
    (.cons rfl (FStep.go (fun ρ hb hd => .yes rfl (ltB rfl) (hdl hd 5 35 rfl (by decide +kernel)) hc6) (fun ρ hb hd => op_call (ltB rfl) cl11 (sim_ref02_Sum k all_13 v_19 hv_v_19) (.cons (.tmp (hdl hd 9 39 rfl (by decide +kernel))) .nil))) 
    (.cons rfl (FStep.go (fun ρ hb hd => .yes rfl (ltB rfl) (hdl hd 5 35 rfl (by decide +kernel)) hc6) (fun ρ hb hd => op_cmpU (ltB rfl) (.tmp (hdl hd 8 38 rfl (by decide +kernel))) (.tmp (hdl hd 10 40 rfl (by decide +kernel))) (congrArg some hv_v_20))) 
    (.cons rfl (FStep.go (fun ρ hb hd => .none) (fun ρ hb hd => op_pickT (ltB rfl) (.tmp (hdl hd 5 35 rfl (by decide +kernel))) hc6 (.tmp (hdl hd 11 41 rfl (by decide +kernel))))) 
    (.cons rfl (FStep.go (fun ρ hb hd => .none) (fun ρ hb hd => op_move (ltB rfl) (.tmp (hdl hd 12 42 rfl (by decide +kernel))))) 
    (.cons rfl (FStep.go (fun ρ hb hd => .yes rfl (ltB rfl) (hdl hd 13 43 rfl (by decide +kernel)) hc7) (fun ρ hb hd => op_move (ltB rfl) (.tmp (hb 5 _ rfl)))) 
    (.cons rfl (FStep.go (fun ρ hb hd => .yes rfl (ltB rfl) (hdl hd 13 43 rfl (by decide +kernel)) hc7) (fun ρ hb hd => op_convBS (ltB rfl) tu23 tu5 tu9 (.tmp (hdl hd 14 44 rfl (by decide +kernel))))) 
    (.cons rfl (FStep.go (fun ρ hb hd => .yes rfl (ltB rfl) (hdl hd 13 43 rfl (by decide +kernel)) hc7) (fun ρ hb hd => op_move (ltB rfl) (.tmp (hb 3 _ rfl)))) 
    (.cons rfl (FStep.go (fun ρ hb hd => .yes rfl (ltB rfl) (hdl hd 13 43 rfl (by decide +kernel)) hc7) (fun ρ hb hd => op_call (ltB rfl) cl12 (sim_ref02_Close_z k all_13 v_21 hv_v_21) (.cons (.tmp (hdl hd 16 46 rfl (by decide +kernel))) .nil))) 
    (.cons rfl (FStep.go (fun ρ hb hd => .yes rfl (ltB rfl) (hdl hd 13 43 rfl (by decide +kernel)) hc7) (fun ρ hb hd => op_convBS (ltB rfl) tu23 tu5 tu9 (.tmp (hdl hd 17 47 rfl (by decide +kernel))))) 
    (.cons rfl (FStep.go (fun ρ hb hd => .yes rfl (ltB rfl) (hdl hd 13 43 rfl (by decide +kernel)) hc7) (fun ρ hb hd => op_cmpS (ltB rfl) (.tmp (hdl hd 15 45 rfl (by decide +kernel))) (.tmp (hdl hd 18 48 rfl (by decide +kernel))) (congrArg some hv_v_22))) 
    (.cons rfl (FStep.go (fun ρ hb hd => .none) (fun ρ hb hd => op_pickT (ltB rfl) (.tmp (hdl hd 13 43 rfl (by decide +kernel))) hc7 (.tmp (hdl hd 19 49 rfl (by decide +kernel))))) 
    (.cons rfl (FStep.go (fun ρ hb hd => .none) (fun ρ hb hd => op_move (ltB rfl) (.tmp (hdl hd 20 50 rfl (by decide +kernel))))) 
    (.cons rfl (FStep.go (fun ρ hb hd => .yes rfl (ltB rfl) (hdl hd 21 51 rfl (by decide +kernel)) hc8) (fun ρ hb hd => op_move (ltB rfl) (.tmp (hb 5 _ rfl)))) 
    (.cons rfl (FStep.go (fun ρ hb hd => .yes rfl (ltB rfl) (hdl hd 21 51 rfl (by decide +kernel)) hc8) (fun ρ hb hd => op_buildF (r := (rL (rU UInt8))) (ltB rfl) tu22 tz23 tZ23 rfl (Nat.le_of_ble_eq_true rfl) (.S rfl (.tmp (hdl hd 22 52 rfl (by decide +kernel))) .nil) rfl)) 
    (.cons rfl (FStep.go (fun ρ hb hd => .yes rfl (ltB rfl) (hdl hd 21 51 rfl (by decide +kernel)) hc8) (fun ρ hb hd => op_call (ltB rfl) cl10 (sim_crc_Sum k ([v_14] : (List (List UInt8))) v_23 hv_v_23) (.cons (.tmp (hdl hd 23 53 rfl (by decide +kernel))) .nil))) 
    (.cons rfl (FStep.go (fun ρ hb hd => .yes rfl (ltB rfl) (hdl hd 21 51 rfl (by decide +kernel)) hc8) (fun ρ hb hd => op_call (ltB rfl) cl13 (sim_crc_Residue k v_24 hv_v_24) .nil)) 
    (.cons rfl (FStep.go (fun ρ hb hd => .yes rfl (ltB rfl) (hdl hd 21 51 rfl (by decide +kernel)) hc8) (fun ρ hb hd => op_cmpU (ltB rfl) (.tmp (hdl hd 24 54 rfl (by decide +kernel))) (.tmp (hdl hd 25 55 rfl (by decide +kernel))) (congrArg some hv_v_25))) 
    (.cons rfl (FStep.go (fun ρ hb hd => .none) (fun ρ hb hd => op_pickT (ltB rfl) (.tmp (hdl hd 21 51 rfl (by decide +kernel))) hc8 (.tmp (hdl hd 26 56 rfl (by decide +kernel))))) 
    (.cons rfl (FStep.go (fun ρ hb hd => .none) (fun ρ hb hd => op_move (ltB rfl) (.tmp (hdl hd 27 57 rfl (by decide +kernel))))) 
    (.cons rfl (FStep.no rfl rfl (fun d h => by cases h; exact ltB rfl) (fun ρ hb hd => .no rfl (ltB rfl) (hdl hd 28 58 rfl (by decide +kernel)) hc9)) 
    (.cons rfl (FStep.go (fun ρ hb hd => .none) (fun ρ hb hd => op_pickF (ltB rfl) (.tmp (hdl hd 28 58 rfl (by decide +kernel))) hc9 .cB)) 
    (.cons rfl (FStep.go (fun ρ hb hd => .none) (fun ρ hb hd => op_assign (ltB rfl) (.tmp (hdl hd 30 60 rfl (by decide +kernel))))) .nil))))))))))))))))))))))))))))))))
                  (by decide +kernel) rfl rfl (by decide) (by decide)
                  (ρ' := [(2, .one (.val (S rB false)))])
                  (fun ρ hb hd => (.cons (hdq hd 31 2 rfl) .nil)) ?_
              replace hx5 := Option.some.inj hx5
              subst hx5
              exact JQ.join (Imp.norm (n := 0) rfl (.cons rfl rfl .nil))
          · refine JC.anyG (base := [(0, .one (.val (S (rL (rL (rU UInt8))) l_1))), (3, .one (.val (S (rL (rU UInt8)) all_13))), (5, .one (.val (S (rL (rU UInt8)) v_14)))])
                (fs := [⟨some 30, .one (.val (S (rL (rL (rU UInt8))) l_1))⟩, ⟨some 31, .one (.val (S (rU UInt32) v_15))⟩, ⟨some 32, .one (.val (S (rL (rU UInt8)) all_13))⟩, ⟨some 33, .one (.val (S (rU UInt32) v_16))⟩, ⟨some 34, .one (.val (S rB v_17))⟩, ⟨some 35, .one (.val (S rB v_17))⟩, ⟨some 36, .one (.val (S (rL (rU UInt8)) all_13))⟩, ⟨some 37, .one (.val (S (rL (rL (rU UInt8))) ([all_13] : (List (List UInt8)))))⟩, ⟨some 38, .one (.val (S (rU UInt32) v_18))⟩, ⟨some 39, .one (.val (S (rL (rU UInt8)) all_13))⟩, ⟨some 40, .one (.val (S (rU UInt32) v_19))⟩, ⟨some 41, .one (.val (S rB v_20))⟩, ⟨some 42, .one (.val (S rB v_20))⟩, ⟨some 43, .one (.val (S rB v_20))⟩, ⟨some 44, .one (.val (S (rL (rU UInt8)) v_14))⟩, ⟨some 45, .one (.val (S rS v_14))⟩, ⟨some 46, .one (.val (S (rL (rU UInt8)) all_13))⟩, ⟨some 47, .one (.val (S (rL (rU UInt8)) v_21))⟩, ⟨some 48, .one (.val (S rS v_21))⟩, ⟨some 49, .one (.val (S rB v_22))⟩, ⟨some 50, .one (.val (S rB v_22))⟩, ⟨some 51, .one (.val (S rB v_22))⟩, ⟨some 52, .one (.und)⟩, ⟨some 53, .one (.und)⟩, ⟨some 54, .one (.und)⟩, ⟨some 55, .one (.und)⟩, ⟨some 56, .one (.und)⟩, ⟨some 57, .one (.val (S rB false))⟩, ⟨some 58, .one (.val (S rB false))⟩, ⟨some 59, .one (.und)⟩, ⟨some 60, .one (.val (S rB false))⟩, ⟨some 2, .one (.val (S rB false))⟩])
                (ds := [30, 31, 32, 33, 34, 35, 36, 37, 38, 39, 40, 41, 42, 43, 44, 45, 46, 47, 48, 49, 50, 51, 52, 53, 54, 55, 56, 57, 58, 59, 60, 2]) (bs := [0, 3, 5]) mixed (.cons rfl (.cons rfl (.cons rfl .nil)))
                (.cons rfl (FStep.go (fun ρ hb hd => .none) (fun ρ hb hd => op_move (ltB rfl) (.tmp (hb 0 _ rfl)))) 
    (.cons rfl (FStep.go (fun ρ hb hd => .none) (fun ρ hb hd => op_call (ltB rfl) cl10 (sim_crc_Sum k l_1 v_15 hv_v_15) (.cons (.tmp (hdl hd 0 30 rfl (by decide +kernel))) .nil))) 
    (.cons rfl (FStep.go (fun ρ hb hd => .none) (fun ρ hb hd => op_move (ltB rfl) (.tmp (hb 3 _ rfl)))) 
    (.cons rfl (FStep.go (fun ρ hb hd => .none) (fun ρ hb hd => op_call (ltB rfl) cl11 (sim_ref02_Sum k all_13 v_16 hv_v_16) (.cons (.tmp (hdl hd 2 32 rfl (by decide +kernel))) .nil))) 
    (.cons rfl (FStep.go (fun ρ hb hd => .none) (fun ρ hb hd => op_cmpU (ltB rfl) (.tmp (hdl hd 1 31 rfl (by decide +kernel))) (.tmp (hdl hd 3 33 rfl (by decide +kernel))) (congrArg some hv_v_17))) 
    (.cons rfl (FStep.go (fun ρ hb hd => .none) (fun ρ hb hd => op_move (ltB rfl) (.tmp (hdl hd 4 34 rfl (by decide +kernel))))) 
    (.cons rfl (FStep.go (fun ρ hb hd => .yes rfl (ltB rfl) (hdl hd 5 35 rfl (by decide +kernel)) hc6) (fun ρ hb hd => op_move (ltB rfl) (.tmp (hb 3 _ rfl)))) 
    (.cons rfl (FStep.go (fun ρ hb hd => .yes rfl (ltB rfl) (hdl hd 5 35 rfl (by decide +kernel)) hc6) (fun ρ hb hd => op_buildF (r := (rL (rU UInt8))) (ltB rfl) tu22 tz23 tZ23 rfl (Nat.le_of_ble_eq_true rfl) (.S rfl (.tmp (hdl hd 6 36 rfl (by decide +kernel))) .nil) rfl)) 
    (.cons rfl (FStep.go (fun ρ hb hd => .yes rfl (ltB rfl) (hdl hd 5 35 rfl (by decide +kernel)) hc6) (fun ρ hb hd => op_call (ltB rfl) cl10 (sim_crc_Sum k ([all_13] : (List (List UInt8))) v_18 hv_v_18) (.cons (.tmp (hdl hd 7 37 rfl (by decide +kernel))) .nil))) 
    (.cons rfl (FStep.go (fun ρ hb hd => .yes rfl (ltB rfl) (hdl hd 5 35 rfl (by decide +kernel)) hc6) (fun ρ hb hd => op_move (ltB rfl) (.tmp (hb 3 _ rfl)))) 
    (.cons rfl (FStep.go (fun ρ hb hd => .yes rfl (ltB rfl) (hdl hd 5 35 rfl (by decide +kernel)) hc6) (fun ρ hb hd => op_call (ltB rfl) cl11 (sim_ref02_Sum k all_13 v_19 hv_v_19) (.cons (.tmp (hdl hd 9 39 rfl (by decide +kernel))) .nil))) 
    (.cons rfl (FStep.go (fun ρ hb hd => .yes rfl (ltB rfl) (hdl hd 5 35 rfl (by decide +kernel)) hc6) (fun ρ hb hd => op_cmpU (ltB rfl) (.tmp (hdl hd 8 38 rfl (by decide +kernel))) (.tmp (hdl hd 10 40 rfl (by decide +kernel))) (congrArg some hv_v_20))) 
    (.cons rfl (FStep.go (fun ρ hb hd => .none) (fun ρ hb hd => op_pickT (ltB rfl) (.tmp (hdl hd 5 35 rfl (by decide +kernel))) hc6 (.tmp (hdl hd 11 41 rfl (by decide +kernel))))) 
    (.cons rfl (FStep.go (fun ρ hb hd => .none) (fun ρ hb hd => op_move (ltB rfl) (.tmp (hdl hd 12 42 rfl (by decide +kernel))))) 
    (.cons rfl (FStep.go (fun ρ hb hd => .yes rfl (ltB rfl) (hdl hd 13 43 rfl (by decide +kernel)) hc7) (fun ρ hb hd => op_move (ltB rfl) (.tmp (hb 5 _ rfl)))) 
    (.cons rfl (FStep.go (fun ρ hb hd => .yes rfl (ltB rfl) (hdl hd 13 43 rfl (by decide +kernel)) hc7) (fun ρ hb hd => op_convBS (ltB rfl) tu23 tu5 tu9 (.tmp (hdl hd 14 44 rfl (by decide +kernel))))) 
    (.cons rfl (FStep.go (fun ρ hb hd => .yes rfl (ltB rfl) (hdl hd 13 43 rfl (by decide +kernel)) hc7) (fun ρ hb hd => op_move (ltB rfl) (.tmp (hb 3 _ rfl)))) 
    (.cons rfl (FStep.go (fun ρ hb hd => .yes rfl (ltB rfl) (hdl hd 13 43 rfl (by decide +kernel)) hc7) (fun ρ hb hd => op_call (ltB rfl) cl12 (sim_ref02_Close_z k all_13 v_21 hv_v_21) (.cons (.tmp (hdl hd 16 46 rfl (by decide +kernel))) .nil))) 
    (.cons rfl (FStep.go (fun ρ hb hd => .yes rfl (ltB rfl) (hdl hd 13 43 rfl (by decide +kernel)) hc7) (fun ρ hb hd => op_convBS (ltB rfl) tu23 tu5 tu9 (.tmp (hdl hd 17 47 rfl (by decide +kernel))))) 
    (.cons rfl (FStep.go (fun ρ hb hd => .yes rfl (ltB rfl) (hdl hd 13 43 rfl (by decide +kernel)) hc7) (fun ρ hb hd => op_cmpS (ltB rfl) (.tmp (hdl hd 15 45 rfl (by decide +kernel))) (.tmp (hdl hd 18 48 rfl (by decide +kernel))) (congrArg some hv_v_22))) 
    (.cons rfl (FStep.go (fun ρ hb hd => .none) (fun ρ hb hd => op_pickT (ltB rfl) (.tmp (hdl hd 13 43 rfl (by decide +kernel))) hc7 (.tmp (hdl hd 19 49 rfl (by decide +kernel))))) 
    (.cons rfl (FStep.go (fun ρ hb hd => .none) (fun ρ hb hd => op_move (ltB rfl) (.tmp (hdl hd 20 50 rfl (by decide +kernel))))) 
    (.cons rfl (FStep.no rfl rfl (fun d h => by cases h; exact ltB rfl) (fun ρ hb hd => .no rfl (ltB rfl) (hdl hd 21 51 rfl (by decide +kernel)) hc8)) 
    (.cons rfl (FStep.no rfl rfl (fun d h => by cases h; exact ltB rfl) (fun ρ hb hd => .no rfl (ltB rfl) (hdl hd 21 51 rfl (by decide +kernel)) hc8)) 
    (.cons rfl (FStep.no rfl rfl (fun d h => by cases h; exact ltB rfl) (fun ρ hb hd => .no rfl (ltB rfl) (hdl hd 21 51 rfl (by decide +kernel)) hc8)) 
    (.cons rfl (FStep.no rfl rfl (fun d h => by cases h; exact ltB rfl) (fun ρ hb hd => .no rfl (ltB rfl) (hdl hd 21 51 rfl (by decide +kernel)) hc8)) 
    (.cons rfl (FStep.no rfl rfl (fun d h => by cases h; exact ltB rfl) (fun ρ hb hd => .no rfl (ltB rfl) (hdl hd 21 51 rfl (by decide +kernel)) hc8)) 
    (.cons rfl (FStep.go (fun ρ hb hd => .none) (fun ρ hb hd => op_pickF (ltB rfl) (.tmp (hdl hd 21 51 rfl (by decide +kernel))) hc8 .cB)) 
    (.cons rfl (FStep.go (fun ρ hb hd => .none) (fun ρ hb hd => op_move (ltB rfl) (.tmp (hdl hd 27 57 rfl (by decide +kernel))))) 
    (.cons rfl (FStep.no rfl rfl (fun d h => by cases h; exact ltB rfl) (fun ρ hb hd => .no rfl (ltB rfl) (hdl hd 28 58 rfl (by decide +kernel)) rfl)) 
    (.cons rfl (FStep.go (fun ρ hb hd => .none) (fun ρ hb hd => op_pickF (ltB rfl) (.tmp (hdl hd 28 58 rfl (by decide +kernel))) rfl .cB)) 
    (.cons rfl (FStep.go (fun ρ hb hd => .none) (fun ρ hb hd => op_assign (ltB rfl) (.tmp (hdl hd 30 60 rfl (by decide +kernel))))) .nil))))))))))))))))))))))))))))))))
                (by decide +kernel) rfl rfl (by decide) (by decide)
                (ρ' := [(2, .one (.val (S rB false)))])
                (fun ρ hb hd => (.cons (hdq hd 31 2 rfl) .nil)) ?_
            replace hx5 := Option.some.inj hx5
            subst hx5
            exact JQ.join (Imp.norm (n := 0) rfl (.cons rfl rfl .nil))
        · refine JC.anyG (base := [(0, .one (.val (S (rL (rL (rU UInt8))) l_1))), (3, .one (.val (S (rL (rU UInt8)) all_13)))])
              (fs := [⟨some 30, .one (.val (S (rL (rL (rU UInt8))) l_1))⟩, ⟨some 31, .one (.val (S (rU UInt32) v_15))⟩, ⟨some 32, .one (.val (S (rL (rU UInt8)) all_13))⟩, ⟨some 33, .one (.val (S (rU UInt32) v_16))⟩, ⟨some 34, .one (.val (S rB v_17))⟩, ⟨some 35, .one (.val (S rB v_17))⟩, ⟨some 36, .one (.val (S (rL (rU UInt8)) all_13))⟩, ⟨some 37, .one (.val (S (rL (rL (rU UInt8))) ([all_13] : (List (List UInt8)))))⟩, ⟨some 38, .one (.val (S (rU UInt32) v_18))⟩, ⟨some 39, .one (.val (S (rL (rU UInt8)) all_13))⟩, ⟨some 40, .one (.val (S (rU UInt32) v_19))⟩, ⟨some 41, .one (.val (S rB v_20))⟩, ⟨some 42, .one (.val (S rB v_20))⟩, ⟨some 43, .one (.val (S rB v_20))⟩, ⟨some 44, .one (.und)⟩, ⟨some 45, .one (.und)⟩, ⟨some 46, .one (.und)⟩, ⟨some 47, .one (.und)⟩, ⟨some 48, .one (.und)⟩, ⟨some 49, .one (.und)⟩, ⟨some 50, .one (.val (S rB false))⟩, ⟨some 51, .one (.val (S rB false))⟩, ⟨some 52, .one (.und)⟩, ⟨some 53, .one (.und)⟩, ⟨some 54, .one (.und)⟩, ⟨some 55, .one (.und)⟩, ⟨some 56, .one (.und)⟩, ⟨some 57, .one (.val (S rB false))⟩, ⟨some 58, .one (.val (S rB false))⟩, ⟨some 59, .one (.und)⟩, ⟨some 60, .one (.val (S rB false))⟩, ⟨some 2, .one (.val (S rB false))⟩])
              (ds := [30, 31, 32, 33, 34, 35, 36, 37, 38, 39, 40, 41, 42, 43, 44, 45, 46, 47, 48, 49, 50, 51, 52, 53, 54, 55, 56, 57, 58, 59, 60, 2]) (bs := [0, 3]) mixed (.cons rfl (.cons rfl .nil))
              (.cons rfl (FStep.go (fun ρ hb hd => .none) (fun ρ hb hd => op_move (ltB rfl) (.tmp (hb 0 _ rfl)))) 
    (.cons rfl (FStep.go (fun ρ hb hd => .none) (fun ρ hb hd => op_call (ltB rfl) cl10 (sim_crc_Sum k l_1 v_15 hv_v_15) (.cons (.tmp (hdl hd 0 30 rfl (by decide +kernel))) .nil))) 
    (.cons rfl (FStep.go (fun ρ hb hd => .none) (fun ρ hb hd => op_move (ltB rfl) (.tmp (hb 3 _ rfl)))) 
    (.cons rfl (FStep.go (fun ρ hb hd => .none) (fun ρ hb hd => op_call (ltB rfl) cl11 (sim_ref02_Sum k all_13 v_16 hv_v_16) (.cons (.tmp (hdl hd 2 32 rfl (by decide +kernel))) .nil))) 
    (.cons rfl (FStep.go (fun ρ hb hd => .none) (fun ρ hb hd => op_cmpU (ltB rfl) (.tmp (hdl hd 1 31 rfl (by decide +kernel))) (.tmp (hdl hd 3 33 rfl (by decide +kernel))) (congrArg some hv_v_17))) 
    (.cons rfl (FStep.go (fun ρ hb hd => .none) (fun ρ hb hd => op_move (ltB rfl) (.tmp (hdl hd 4 34 rfl (by decide +kernel))))) 
    (.cons rfl (FStep.go (fun ρ hb hd => .yes rfl (ltB rfl) (hdl hd 5 35 rfl (by decide +kernel)) hc6) (fun ρ hb hd => op_move (ltB rfl) (.tmp (hb 3 _ rfl)))) 
    (.cons rfl (FStep.go (fun ρ hb hd => .yes rfl (ltB rfl) (hdl hd 5 35 rfl (by decide +kernel)) hc6) (fun ρ hb hd => op_buildF (r := (rL (rU UInt8))) (ltB rfl) tu22 tz23 tZ23 rfl (Nat.le_of_ble_eq_true rfl) (.S rfl (.tmp (hdl hd 6 36 rfl (by decide +kernel))) .nil) rfl)) 
    (.cons rfl (FStep.go (fun ρ hb hd => .yes rfl (ltB rfl) (hdl hd 5 35 rfl (by decide +kernel)) hc6) (fun ρ hb hd => op_call (ltB rfl) cl10 (sim_crc_Sum k ([all_13] : (List (List UInt8))) v_18 hv_v_18) (.cons (.tmp (hdl hd 7 37 rfl (by decide +kernel))) .nil))) 
    (.cons rfl (FStep.go (fun ρ hb hd => .yes rfl (ltB rfl) (hdl hd 5 35 rfl (by decide +kernel)) hc6) (fun ρ hb hd => op_move (ltB rfl) (.tmp (hb 3 _ rfl)))) 
    (.cons rfl (FStep.go (fun ρ hb hd => .yes rfl (ltB rfl) (hdl hd 5 35 rfl (by decide +kernel)) hc6) (fun ρ hb hd => op_call (ltB rfl) cl11 (sim_ref02_Sum k all_13 v_19 hv_v_19) (.cons (.tmp (hdl hd 9 39 rfl (by decide +kernel))) .nil))) 
    (.cons rfl (FStep.go (fun ρ hb hd => .yes rfl (ltB rfl) (hdl hd 5 35 rfl (by decide +kernel)) hc6) (fun ρ hb hd => op_cmpU (ltB rfl) (.tmp (hdl hd 8 38 rfl (by decide +kernel))) (.tmp (hdl hd 10 40 rfl (by decide +kernel))) (congrArg some hv_v_20))) 
    (.cons rfl (FStep.go (fun ρ hb hd => .none) (fun ρ hb hd => op_pickT (ltB rfl) (.tmp (hdl hd 5 35 rfl (by decide +kernel))) hc6 (.tmp (hdl hd 11 41 rfl (by decide +kernel))))) 
    (.cons rfl (FStep.go (fun ρ hb hd => .none) (fun ρ hb hd => op_move (ltB rfl) (.tmp (hdl hd 12 42 rfl (by decide +kernel))))) 
    (.cons rfl (FStep.no rfl rfl (fun d h => by cases h; exact ltB rfl) (fun ρ hb hd => .no rfl (ltB rfl) (hdl hd 13 43 rfl (by decide +kernel)) hc7)) 
    (.cons rfl (FStep.no rfl rfl (fun d h => by cases h; exact ltB rfl) (fun ρ hb hd => .no rfl (ltB rfl) (hdl hd 13 43 rfl (by decide +kernel)) hc7)) 
    (.cons rfl (FStep.no rfl rfl (fun d h => by cases h; exact ltB rfl) (fun ρ hb hd => .no rfl (ltB rfl) (hdl hd 13 43 rfl (by decide +kernel)) hc7)) 
    (.cons rfl (FStep.no rfl rfl (fun d h => by cases h; exact ltB rfl) (fun ρ hb hd => .no rfl (ltB rfl) (hdl hd 13 43 rfl (by decide +kernel)) hc7)) 
    (.cons rfl (FStep.no rfl rfl (fun d h => by cases h; exact ltB rfl) (fun ρ hb hd => .no rfl (ltB rfl) (hdl hd 13 43 rfl (by decide +kernel)) hc7)) 
    (.cons rfl (FStep.no rfl rfl (fun d h => by cases h; exact ltB rfl) (fun ρ hb hd => .no rfl (ltB rfl) (hdl hd 13 43 rfl (by decide +kernel)) hc7)) 
    (.cons rfl (FStep.go (fun ρ hb hd => .none) (fun ρ hb hd => op_pickF (ltB rfl) (.tmp (hdl hd 13 43 rfl (by decide +kernel))) hc7 .cB)) 
    (.cons rfl (FStep.go (fun ρ hb hd => .none) (fun ρ hb hd => op_move (ltB rfl) (.tmp (hdl hd 20 50 rfl (by decide +kernel))))) 
    (.cons rfl (FStep.no rfl rfl (fun d h => by cases h; exact ltB rfl) (fun ρ hb hd => .no rfl (ltB rfl) (hdl hd 21 51 rfl (by decide +kernel)) rfl)) 
    (.cons rfl (FStep.no rfl rfl (fun d h => by cases h; exact ltB rfl) (fun ρ hb hd => .no rfl (ltB rfl) (hdl hd 21 51 rfl (by decide +kernel)) rfl)) 
    (.cons rfl (FStep.no rfl rfl (fun d h => by cases h; exact ltB rfl) (fun ρ hb hd => .no rfl (ltB rfl) (hdl hd 21 51 rfl (by decide +kernel)) rfl)) 
    (.cons rfl (FStep.no rfl rfl (fun d h => by cases h; exact ltB rfl) (fun ρ hb hd => .no rfl (ltB rfl) (hdl hd 21 51 rfl (by decide +kernel)) rfl)) 
    (.cons rfl (FStep.no rfl rfl (fun d h => by cases h; exact ltB rfl) (fun ρ hb hd => .no rfl (ltB rfl) (hdl hd 21 51 rfl (by decide +kernel)) rfl)) 
    (.cons rfl (FStep.go (fun ρ hb hd => .none) (fun ρ hb hd => op_pickF (ltB rfl) (.tmp (hdl hd 21 51 rfl (by decide +kernel))) rfl .cB)) 
    (.cons rfl (FStep.go (fun ρ hb hd => .none) (fun ρ hb hd => op_move (ltB rfl) (.tmp (hdl hd 27 57 rfl (by decide +kernel))))) 
    (.cons rfl (FStep.no rfl rfl (fun d h => by cases h; exact ltB rfl) (fun ρ hb hd => .no rfl (ltB rfl) (hdl hd 28 58 rfl (by decide +kernel)) rfl)) 
    (.cons rfl (FStep.go (fun ρ hb hd => .none) (fun ρ hb hd => op_pickF (ltB rfl) (.tmp (hdl hd 28 58 rfl (by decide +kernel))) rfl .cB)) 
    (.cons rfl (FStep.go (fun ρ hb hd => .none) (fun ρ hb hd => op_assign (ltB rfl) (.tmp (hdl hd 30 60 rfl (by decide +kernel))))) .nil))))))))))))))))))))))))))))))))
              (by decide +kernel) rfl rfl (by decide) (by decide)
              (ρ' := [(2, .one (.val (S rB false)))])
              (fun ρ hb hd => (.cons (hdq hd 31 2 rfl) .nil)) ?_
          replace hx5 := Option.some.inj hx5
          subst hx5
          exact JQ.join (Imp.norm (n := 0) rfl (.cons rfl rfl .nil))
      · refine JC.anyG (base := [(0, .one (.val (S (rL (rL (rU UInt8))) l_1))), (3, .one (.val (S (rL (rU UInt8)) all_13)))])
            (fs := [⟨some 30, .one (.val (S (rL (rL (rU UInt8))) l_1))⟩, ⟨some 31, .one (.val (S (rU UInt32) v_15))⟩, ⟨some 32, .one (.val (S (rL (rU UInt8)) all_13))⟩, ⟨some 33, .one (.val (S (rU UInt32) v_16))⟩, ⟨some 34, .one (.val (S rB v_17))⟩, ⟨some 35, .one (.val (S rB v_17))⟩, ⟨some 36, .one (.und)⟩, ⟨some 37, .one (.und)⟩, ⟨some 38, .one (.und)⟩, ⟨some 39, .one (.und)⟩, ⟨some 40, .one (.und)⟩, ⟨some 41, .one (.und)⟩, ⟨some 42, .one (.val (S rB false))⟩, ⟨some 43, .one (.val (S rB false))⟩, ⟨some 44, .one (.und)⟩, ⟨some 45, .one (.und)⟩, ⟨some 46, .one (.und)⟩, ⟨some 47, .one (.und)⟩, ⟨some 48, .one (.und)⟩, ⟨some 49, .one (.und)⟩, ⟨some 50, .one (.val (S rB false))⟩, ⟨some 51, .one (.val (S rB false))⟩, ⟨some 52, .one (.und)⟩, ⟨some 53, .one (.und)⟩, ⟨some 54, .one (.und)⟩, ⟨some 55, .one (.und)⟩, ⟨some 56, .one (.und)⟩, ⟨some 57, .one (.val (S rB false))⟩, ⟨some 58, .one (.val (S rB false))⟩, ⟨some 59, .one (.und)⟩, ⟨some 60, .one (.val (S rB false))⟩, ⟨some 2, .one (.val (S rB false))⟩])
            (ds := [30, 31, 32, 33, 34, 35, 36, 37, 38, 39, 40, 41, 42, 43, 44, 45, 46, 47, 48, 49, 50, 51, 52, 53, 54, 55, 56, 57, 58, 59, 60, 2]) (bs := [0, 3]) mixed (.cons rfl (.cons rfl .nil))
            (.cons rfl (FStep.go (fun ρ hb hd => .none) (fun ρ hb hd => op_move (ltB rfl) (.tmp (hb 0 _ rfl)))) 
    (.cons rfl (FStep.go (fun ρ hb hd => .none) (fun ρ hb hd => op_call (ltB rfl) cl10 (sim_crc_Sum k l_1 v_15 hv_v_15) (.cons (.tmp (hdl hd 0 30 rfl (by decide +kernel))) .nil))) 
    (.cons rfl (FStep.go (fun ρ hb hd => .none) (fun ρ hb hd => op_move (ltB rfl) (.tmp (hb 3 _ rfl)))) 
    (.cons rfl (FStep.go (fun ρ hb hd => .none) (fun ρ hb hd => op_call (ltB rfl) cl11 (sim_ref02_Sum k all_13 v_16 hv_v_16) (.cons (.tmp (hdl hd 2 32 rfl (by decide +kernel))) .nil))) 
    (.cons rfl (FStep.go (fun ρ hb hd => .none) (fun ρ hb hd => op_cmpU (ltB rfl) (.tmp (hdl hd 1 31 rfl (by decide +kernel))) (.tmp (hdl hd 3 33 rfl (by decide +kernel))) (congrArg some hv_v_17))) 
    (.cons rfl (FStep.go (fun ρ hb hd => .none) (fun ρ hb hd => op_move (ltB rfl) (.tmp (hdl hd 4 34 rfl (by decide +kernel))))) 
    (.cons rfl (FStep.no rfl rfl (fun d h => by cases h; exact ltB rfl) (fun ρ hb hd => .no rfl (ltB rfl) (hdl hd 5 35 rfl (by decide +kernel)) hc6)) 
    (.cons rfl (FStep.no rfl rfl (fun d h => by cases h; exact ltB rfl) (fun ρ hb hd => .no rfl (ltB rfl) (hdl hd 5 35 rfl (by decide +kernel)) hc6)) 
    (.cons rfl (FStep.no rfl rfl (fun d h => by cases h; exact ltB rfl) (fun ρ hb hd => .no rfl (ltB rfl) (hdl hd 5 35 rfl (by decide +kernel)) hc6)) 
    (.cons rfl (FStep.no rfl rfl (fun d h => by cases h; exact ltB rfl) (fun ρ hb hd => .no rfl (ltB rfl) (hdl hd 5 35 rfl (by decide +kernel)) hc6)) 
    (.cons rfl (FStep.no rfl rfl (fun d h => by cases h; exact ltB rfl) (fun ρ hb hd => .no rfl (ltB rfl) (hdl hd 5 35 rfl (by decide +kernel)) hc6)) 
    (.cons rfl (FStep.no rfl rfl (fun d h => by cases h; exact ltB rfl) (fun ρ hb hd => .no rfl (ltB rfl) (hdl hd 5 35 rfl (by decide +kernel)) hc6)) 
    (.cons rfl (FStep.go (fun ρ hb hd => .none) (fun ρ hb hd => op_pickF (ltB rfl) (.tmp (hdl hd 5 35 rfl (by decide +kernel))) hc6 .cB)) 
    (.cons rfl (FStep.go (fun ρ hb hd => .none) (fun ρ hb hd => op_move (ltB rfl) (.tmp (hdl hd 12 42 rfl (by decide +kernel))))) 
    (.cons rfl (FStep.no rfl rfl (fun d h => by cases h; exact ltB rfl) (fun ρ hb hd => .no rfl (ltB rfl) (hdl hd 13 43 rfl (by decide +kernel)) rfl)) 
    (.cons rfl (FStep.no rfl rfl (fun d h => by cases h; exact ltB rfl) (fun ρ hb hd => .no rfl (ltB rfl) (hdl hd 13 43 rfl (by decide +kernel)) rfl)) 
    (.cons rfl (FStep.no rfl rfl (fun d h => by cases h; exact ltB rfl) (fun ρ hb hd => .no rfl (ltB rfl) (hdl hd 13 43 rfl (by decide +kernel)) rfl)) 
    (.cons rfl (FStep.no rfl rfl (fun d h => by cases h; exact ltB rfl) (fun ρ hb hd => .no rfl (ltB rfl) (hdl hd 13 43 rfl (by decide +kernel)) rfl)) 
    (.cons rfl (FStep.no rfl rfl (fun d h => by cases h; exact ltB rfl) (fun ρ hb hd => .no rfl (ltB rfl) (hdl hd 13 43 rfl (by decide +kernel)) rfl)) 
    (.cons rfl (FStep.no rfl rfl (fun d h => by cases h; exact ltB rfl) (fun ρ hb hd => .no rfl (ltB rfl) (hdl hd 13 43 rfl (by decide +kernel)) rfl)) 
    (.cons rfl (FStep.go (fun ρ hb hd => .none) (fun ρ hb hd => op_pickF (ltB rfl) (.tmp (hdl hd 13 43 rfl (by decide +kernel))) rfl .cB)) 
    (.cons rfl (FStep.go (fun ρ hb hd => .none) (fun ρ hb hd => op_move (ltB rfl) (.tmp (hdl hd 20 50 rfl (by decide +kernel))))) 
    (.cons rfl (FStep.no rfl rfl (fun d h => by cases h; exact ltB rfl) (fun ρ hb hd => .no rfl (ltB rfl) (hdl hd 21 51 rfl (by decide +kernel)) rfl)) 
    (.cons rfl (FStep.no rfl rfl (fun d h => by cases h; exact ltB rfl) (fun ρ hb hd => .no rfl (ltB rfl) (hdl hd 21 51 rfl (by decide +kernel)) rfl)) 
    (.cons rfl (FStep.no rfl rfl (fun d h => by cases h; exact ltB rfl) (fun ρ hb hd => .no rfl (ltB rfl) (hdl hd 21 51 rfl (by decide +kernel)) rfl)) 
    (.cons rfl (FStep.no rfl rfl (fun d h => by cases h; exact ltB rfl) (fun ρ hb hd => .no rfl (ltB rfl) (hdl hd 21 51 rfl (by decide +kernel)) rfl)) 
    (.cons rfl (FStep.no rfl rfl (fun d h => by cases h; exact ltB rfl) (fun ρ hb hd => .no rfl (ltB rfl) (hdl hd 21 51 rfl (by decide +kernel)) rfl)) 
    (.cons rfl (FStep.go (fun ρ hb hd => .none) (fun ρ hb hd => op_pickF (ltB rfl) (.tmp (hdl hd 21 51 rfl (by decide +kernel))) rfl .cB)) 
    (.cons rfl (FStep.go (fun ρ hb hd => .none) (fun ρ hb hd => op_move (ltB rfl) (.tmp (hdl hd 27 57 rfl (by decide +kernel))))) 
    (.cons rfl (FStep.no rfl rfl (fun d h => by cases h; exact ltB rfl) (fun ρ hb hd => .no rfl (ltB rfl) (hdl hd 28 58 rfl (by decide +kernel)) rfl)) 
    (.cons rfl (FStep.go (fun ρ hb hd => .none) (fun ρ hb hd => op_pickF (ltB rfl) (.tmp (hdl hd 28 58 rfl (by decide +kernel))) rfl .cB)) 
    (.cons rfl (FStep.go (fun ρ hb hd => .none) (fun ρ hb hd => op_assign (ltB rfl) (.tmp (hdl hd 30 60 rfl (by decide +kernel))))) .nil))))))))))))))))))))))))))))))))
            (by decide +kernel) rfl rfl (by decide) (by decide)
            (ρ' := [(2, .one (.val (S rB false)))])
            (fun ρ hb hd => (.cons (hdq hd 31 2 rfl) .nil)) ?_
        replace hx5 := Option.some.inj hx5
        subst hx5
        exact JQ.join (Imp.norm (n := 0) rfl (.cons rfl rfl .nil))
  · refine JC.seq ?_
    refine JC.region ?_
    refine JL.cons rfl (op_assign (ltB rfl) .cI) ?_
    refine JL.nil ?_
    refine JQ.then ?_
    refine JC.block ?_
    obtain ⟨tv2, hL2, hq2⟩ := bnd_inv hx1
    refine JC.pre ?_ (JC.loop (stf := fun s => ⟨[(0, .one (.val (S (rL (rL (rU UInt8))) l_1))), (3, .one (.own 0)), (4, .one (.val (S (rI .i64) s.1)))], [.own UInt8 (rU UInt8) s.2 0], ()⟩) hL2 ?_)
    · exact (Imp.norm (n := 1) rfl (.cons rfl rfl (.cons rfl rfl (.cons rfl rfl .nil))))
    · intro s x hx hr
      obtain ⟨i_2, all_3⟩ := s
      change law02_FramesSum.b1 k l_1 i_2 all_3 = some x at hx
      unfold law02_FramesSum.b1 at hx
      refine JC.at (M := HM.none) ⟨[(0, .one (.val (S (rL (rL (rU UInt8))) l_1))), (3, .one (.own 0)), (4, .one (.val (S (rI .i64) i_2)))], [.own UInt8 (rU UInt8) all_3 0], ()⟩ ?_
      refine JC.seq ?_
      refine JC.seq ?_
      refine JC.region ?_
      refine JL.cons rfl (op_move (ltB rfl) (.tmp rfl)) ?_
      refine JL.cons rfl (op_move (ltB rfl) (.tmp rfl)) ?_
      refine JL.cons rfl (op_lenL (ltB rfl) tu22 (.tmp rfl)) ?_
      obtain ⟨v_4, hv_v_4, hx⟩ := lt1_inv hx
      refine JL.cons rfl (op_cmpI (ltB rfl) (.tmp rfl) (.tmp rfl) (congrArg some hv_v_4)) ?_
      refine JL.nil ?_
      refine JQ.then ?_
      rcases iteB_inv hx with ⟨hc3, hx⟩ | ⟨hc3, hx⟩
      · refine JC.condT (.tmp rfl) hc3 ?_
        refine JC.skip ?_
        refine JQ.then ?_
        refine JC.seq ?_
        refine JC.block ?_
        refine JC.seq ?_
        refine JC.seq ?_
        refine JC.region ?_
        refine JL.cons rfl (op_move (ltB rfl) (.tmp rfl)) ?_
        refine JL.cons rfl (op_lenO (ltB rfl) tu23 rfl (.tmp rfl)) ?_
        refine JL.pre (Imp.norm (n := 1) (ρ' := [(0, .one (.val (S (rL (rL (rU UInt8))) l_1))), (3, .one (.own 0)), (4, .one (.val (S (rI .i64) i_2))), (13, .one (.val (S (rI .i64) (List.length all_3 : Int))))]) (X' := [.own UInt8 (rU UInt8) all_3 0]) rfl (.cons rfl rfl (.cons rfl rfl (.cons rfl rfl (.cons rfl rfl .nil))))) ?_
        refine JL.at (M := HM.none) ⟨[(0, .one (.val (S (rL (rL (rU UInt8))) l_1))), (3, .one (.own 0)), (4, .one (.val (S (rI .i64) i_2))), (13, .one (.val (S (rI .i64) (List.length all_3 : Int))))], [.own UInt8 (rU UInt8) all_3 0], ()⟩ ?_
        refine JL.cons rfl (op_move (ltB rfl) (.tmp rfl)) ?_
        refine JL.cons rfl (op_move (ltB rfl) (.tmp rfl)) ?_
        obtain ⟨v_5, hv_v_5, hx⟩ := bnd_inv hx
        refine JL.cons rfl (op_indexAddrLg (ltB rfl) tu22 tz23 (.tmp rfl) (.tmp rfl) hv_v_5) ?_
        refine JL.cons rfl (op_loadPS (ltB rfl) tS23 rfl (.tmp rfl)) ?_
        refine JL.cons rfl (op_lenL (ltB rfl) tu23 (.tmp rfl)) ?_
        obtain ⟨v_6, hv_v_6, hx⟩ := lt1_inv hx
        refine JL.cons rfl (op_arI (ltB rfl) (.tmp rfl) (.tmp rfl) (congrArg some hv_v_6)) ?_
        refine JL.pre (Imp.norm (n := 1) (ρ' := [(0, .one (.val (S (rL (rL (rU UInt8))) l_1))), (3, .one (.own 0)), (4, .one (.val (S (rI .i64) i_2))), (19, .one (.val (S (rI .i64) v_6)))]) (X' := [.own UInt8 (rU UInt8) all_3 0]) rfl (.cons rfl rfl (.cons rfl rfl (.cons rfl rfl (.cons rfl rfl .nil))))) ?_
        refine JL.at (M := HM.none) ⟨[(0, .one (.val (S (rL (rL (rU UInt8))) l_1))), (3, .one (.own 0)), (4, .one (.val (S (rI .i64) i_2))), (19, .one (.val (S (rI .i64) v_6)))], [.own UInt8 (rU UInt8) all_3 0], ()⟩ ?_
        obtain ⟨v_7, hv_v_7, hx⟩ := lt1_inv hx
        refine JL.cons rfl (op_cmpI (ltB rfl) (.tmp rfl) .cI (congrArg some hv_v_7)) ?_
        refine JL.nil ?_
        refine JQ.then ?_
        rcases iteB_inv hx with ⟨hc4, hx⟩ | ⟨hc4, hx⟩
        · refine JC.condT (.tmp rfl) hc4 ?_
          refine JC.seq ?_
          refine JC.region ?_
          obtain ⟨v_8, hv_v_8, hx⟩ := bnd_inv hx
          refine JL.cons rfl (op_call (ltB rfl) cl8 (sim_law02_known k v_8 hv_v_8) .nil) ?_
          refine JL.cons rfl (op_assign (ltB rfl) (.tmp rfl)) ?_
          refine JL.nil ?_
          refine JQ.then ?_
          refine JC.ret ?_
          refine JQ.outR ?_
          refine JQ.outRB ?_
          refine JQ.outR ?_
          replace hx := Option.some.inj hx
          subst hx
          have ht := hr _ rfl
          clear hr
          subst ht
          dsimp only at hq2
          refine JQ.outR ?_
          refine JQ.outRB ?_
          replace hq2 := Option.some.inj hq2
          subst hq2
          dsimp only at hq1
          refine JQ.outR ?_
          replace hq1 := Option.some.inj hq1
          subst hq1
          exact JQ.doneV (ss := [.val (S rB v_8)]) (.inl rfl) rfl rfl (.cons (.tmp rfl) .nil) rfl
        · refine JC.condF (.tmp rfl) hc4 ?_
          refine JC.skip ?_
          refine JQ.then ?_
          refine JC.region ?_
          refine JL.cons rfl (op_move (ltB rfl) (.tmp rfl)) ?_
          refine JL.cons rfl (op_move (ltB rfl) (.tmp rfl)) ?_
          refine JL.cons rfl (op_move (ltB rfl) (.tmp rfl)) ?_
          obtain ⟨v_9, hv_v_9, hx⟩ := bnd_inv hx
          refine JL.cons rfl (op_indexAddrLg (ltB rfl) tu22 tz23 (.tmp rfl) (.tmp rfl) hv_v_9) ?_
          refine JL.cons rfl (op_loadPS (ltB rfl) tS23 rfl (.tmp rfl)) ?_
          refine JL.pre (Imp.norm (n := 1) (ρ' := [(0, .one (.val (S (rL (rL (rU UInt8))) l_1))), (3, .one (.own 0)), (4, .one (.val (S (rI .i64) i_2))), (22, .one (.own 0)), (26, .one (.val (S (rL (rU UInt8)) v_9)))]) (X' := [.own UInt8 (rU UInt8) all_3 0]) rfl (.cons rfl rfl (.cons rfl rfl (.cons rfl rfl (.cons rfl rfl (.cons rfl rfl .nil)))))) ?_
          refine JL.at (M := HM.none) ⟨[(0, .one (.val (S (rL (rL (rU UInt8))) l_1))), (3, .one (.own 0)), (4, .one (.val (S (rI .i64) i_2))), (22, .one (.own 0)), (26, .one (.val (S (rL (rU UInt8)) v_9)))], [.own UInt8 (rU UInt8) all_3 0], ()⟩ ?_
          obtain ⟨all_10, hv_all_10, hx⟩ := bnd_inv hx
          refine JL.cons rfl (op_appendL (ltB rfl) tu23 tu23 rfl tB5 rfl (Nat.lt_of_lt_of_le Nat.zero_lt_one (Nat.le_of_ble_eq_true rfl)) (Nat.lt_of_lt_of_le Nat.zero_lt_one (Nat.le_of_ble_eq_true rfl)) rfl (.tmp rfl) (.tmp rfl) hv_all_10) ?_
          refine JL.cons rfl (op_assign (ltB rfl) (.tmp rfl)) ?_
          refine JL.nil ?_
          refine JQ.outNB ?_
          refine JQ.then ?_
          refine JC.region ?_
          refine JL.cons rfl (op_move (ltB rfl) (.tmp rfl)) ?_
          obtain ⟨v_11, hv_v_11, hx⟩ := lt1_inv hx
          refine JL.cons rfl (op_arI (ltB rfl) (.tmp rfl) .cI (congrArg some hv_v_11)) ?_
          refine JL.cons rfl (op_assign (ltB rfl) (.tmp rfl)) ?_
          refine JL.nil ?_
          replace hx := Option.some.inj hx
          subst hx
          exact JQ.next rfl (Imp.norm (n := 1) rfl (.cons rfl rfl (.cons rfl rfl (.cons rfl rfl .nil))))
      · refine JC.condF (.tmp rfl) hc3 ?_
        refine JC.exit ?_
        refine JQ.outX ?_
        replace hx := Option.some.inj hx
        subst hx
        have ht := hr _ rfl
        clear hr
        subst ht
        dsimp only at hq2
        refine JQ.outX ?_
        refine JQ.here ?_
        replace hq2 := Option.some.inj hq2
        subst hq2
        exact JQ.joinK all_3 rfl (Imp.norm (n := 1) rfl (.cons rfl rfl (.cons rfl rfl .nil)))

end Go.Proofs.Ytlkofkegbkkhbaa
