/- The walk of one function. -/
import Derived.Test.YtlkofkegbkkhbaaT
import Derived.Test.YtlkofkegbkkhbaaW12
namespace Go.Proofs.Ytlkofkegbkkhbaa
open Go Fw
set_option linter.unusedVariables false
set_option maxRecDepth 100000
set_option maxHeartbeats 4000000

theorem sim_ref02_Open (k : Nat) (b_1 : (List UInt8)) (r : (List UInt8) × Bool) (hm : ref02_Open k b_1 = some r) : Sim Try.prog 15 [S (rL (rU UInt8)) b_1] [] (.tup [.val (S (rL (rU UInt8)) r.1), .val (S rB r.2)]) := by
  unfold ref02_Open at hm
  refine Sim.of Try.func15 rfl rfl (Nat.le_of_ble_eq_true rfl) (fun e0 w0 => ?_)
  refine JC.at (M := HM.none) ⟨[(0, .one (.val (S (rL (rU UInt8)) b_1)))], [], ()⟩ ?_
  refine JC.seq ?_
  refine JC.region ?_
  refine JL.cons rfl (op_assign (ltB rfl) (HasO.nilL (r := (rU UInt8)))) ?_
  refine JL.cons rfl (op_assign (ltB rfl) .cB) ?_
  refine JL.nil ?_
  refine JQ.then ?_
  refine JC.seq ?_
  refine JC.region ?_
  refine JL.cons rfl (op_move (ltB rfl) (.tmp rfl)) ?_
  refine JL.cons rfl (op_lenL (ltB rfl) tu23 (.tmp rfl)) ?_
  obtain ⟨v_2, hv_v_2, hm⟩ := lt1_inv hm
  refine JL.cons rfl (op_arI (ltB rfl) (.tmp rfl) .cI (congrArg some hv_v_2)) ?_
  refine JL.cons rfl (op_assign (ltB rfl) (.tmp rfl)) ?_
  refine JL.nil ?_
  refine JQ.then ?_
  refine JC.seq ?_
  obtain ⟨v_7, hx1, hq1⟩ := bnd_inv hm
  refine JC.seqJ (stj := ⟨[(0, .one (.val (S (rL (rU UInt8)) b_1))), (4, .one (.val (S (rI .i64) v_2))), (19, .one (.val (S rB v_7)))], [], ()⟩) ?_ ?_
  · rcases iteB_inv hq1 with ⟨hc3, hq1⟩ | ⟨hc3, hq1⟩
    · refine JC.condT (.tmp rfl) hc3 ?_
      refine JC.seq ?_
      refine JC.region ?_
      refine JL.cons rfl (op_assign (ltB rfl) (HasO.nilL (r := (rU UInt8)))) ?_
      refine JL.cons rfl (op_assign (ltB rfl) .cB) ?_
      refine JL.nil ?_
      refine JQ.then ?_
      refine JC.ret ?_
      refine JQ.outR ?_
      replace hq1 := Option.some.inj hq1
      subst hq1
      exact JQ.doneV (ss := [.val (S (rL (rU UInt8)) ([] : (List UInt8))), .val (S rB false)]) (.inl rfl) rfl rfl (.cons (.tmp rfl) (.cons (.tmp rfl) .nil)) rfl
    · refine JC.condF (.tmp rfl) hc3 ?_
      refine JC.skip ?_
      refine JQ.then ?_
      refine JC.seq ?_
      refine JC.region ?_
      refine JL.cons rfl (op_move (ltB rfl) (.tmp rfl)) ?_
      refine JL.cons rfl (op_move (ltB rfl) (.tmp rfl)) ?_
      obtain ⟨v_8, hv_v_8, hq1⟩ := bnd_inv hq1
      refine JL.cons rfl (op_sliceLg (ltB rfl) tu23 tz5 (.tmp rfl) .none (.some (.tmp rfl)) hv_v_8) ?_
      refine JL.cons rfl (op_assign (ltB rfl) (.tmp rfl)) ?_
      refine JL.cons rfl (op_assign (ltB rfl) .cB) ?_
      refine JL.nil ?_
      refine JQ.then ?_
      refine JC.ret ?_
      replace hq1 := Option.some.inj hq1
      subst hq1
      exact JQ.doneV (ss := [.val (S (rL (rU UInt8)) v_8), .val (S rB true)]) (.inl rfl) rfl rfl (.cons (.tmp rfl) (.cons (.tmp rfl) .nil)) rfl
  · obtain ⟨v_3, hv_v_3, hx1⟩ := lt1_inv hx1
    rcases iteB_inv hx1 with ⟨hc2, hx1⟩ | ⟨hc2, hx1⟩
    · refine JC.anyG (base := [(0, .one (.val (S (rL (rU UInt8)) b_1))), (4, .one (.val (S (rI .i64) v_2)))])
          (fs := [⟨some 8, .one (.val (S (rI .i64) v_2))⟩, ⟨some 9, .one (.val (S rB v_3))⟩, ⟨some 10, .one (.val (S rB v_3))⟩, ⟨some 11, .one (.und)⟩, ⟨some 12, .one (.und)⟩, ⟨some 13, .one (.und)⟩, ⟨some 14, .one (.und)⟩, ⟨some 15, .one (.und)⟩, ⟨some 16, .one (.und)⟩, ⟨some 17, .one (.und)⟩, ⟨some 18, .one (.und)⟩, ⟨some 19, .one (.val (S rB true))⟩])
          (ds := [8, 9, 10, 11, 12, 13, 14, 15, 16, 17, 18, 19]) (bs := [0, 4]) mixed (.cons rfl (.cons rfl .nil))
          (.cons rfl (FStep.go (fun ρ hb hd => .none) (fun ρ hb hd => op_move (ltB rfl) (.tmp (hb 4 _ rfl)))) 
    (.cons rfl (FStep.go (fun ρ hb hd => .none) (fun ρ hb hd => op_cmpI (ltB rfl) (.tmp (hdl hd 0 8 rfl (by decide +kernel))) .cI (congrArg some hv_v_3))) 
    (.cons rfl (FStep.go (fun ρ hb hd => .none) (fun ρ hb hd => op_move (ltB rfl) (.tmp (hdl hd 1 9 rfl (by decide +kernel))))) 
    (.cons rfl (FStep.no rfl rfl (fun d h => by cases h; exact ltB rfl) (fun ρ hb hd => .no rfl (ltB rfl) (hdl hd 2 10 rfl (by decide +kernel)) hc2)) 
    (.cons rfl (FStep.no rfl rfl (fun d h => by cases h; exact ltB rfl) (fun ρ hb hd => .no rfl (ltB rfl) (hdl hd 2 10 rfl (by decide +kernel)) hc2)) 
    (.cons rfl (FStep.no rfl rfl (fun d h => by cases h; exact ltB rfl) (fun ρ hb hd => .no rfl (ltB rfl) (hdl hd 2 10 rfl (by decide +kernel)) hc2)) 
    (.cons rfl (FStep.no rfl rfl (fun d h => by cases h; exact ltB rfl) (fun ρ hb hd => .no rfl (ltB rfl) (hdl hd 2 10 rfl (by decide +kernel)) hc2)) 
    (.cons rfl (FStep.no rfl rfl (fun d h => by cases h; exact ltB rfl) (fun ρ hb hd => .no rfl (ltB rfl) (hdl hd 2 10 rfl (by decide +kernel)) hc2)) 
    (.cons rfl (FStep.no rfl rfl (fun d h => by cases h; exact ltB rfl) (fun ρ hb hd => .no rfl (ltB rfl) (hdl hd 2 10 rfl (by decide +kernel)) hc2)) 
    (.cons rfl (FStep.no rfl rfl (fun d h => by cases h; exact ltB rfl) (fun ρ hb hd => .no rfl (ltB rfl) (hdl hd 2 10 rfl (by decide +kernel)) hc2)) 
    (.cons rfl (FStep.no rfl rfl (fun d h => by cases h; exact ltB rfl) (fun ρ hb hd => .no rfl (ltB rfl) (hdl hd 2 10 rfl (by decide +kernel)) hc2)) 
    (.cons rfl (FStep.go (fun ρ hb hd => .none) (fun ρ hb hd => op_pickT (ltB rfl) (.tmp (hdl hd 2 10 rfl (by decide +kernel))) hc2 .cB)) .nil))))))))))))
          (by decide +kernel) rfl rfl (by decide) (by decide)
          (ρ' := [(0, .one (.val (S (rL (rU UInt8)) b_1))), (4, .one (.val (S (rI .i64) v_2))), (19, .one (.val (S rB true)))])
          (fun ρ hb hd => (.cons (hb 0 _ rfl) (.cons (hb 4 _ rfl) (.cons (hdq hd 11 19 rfl) .nil)))) ?_
      replace hx1 := Option.some.inj hx1
      subst hx1
      exact JQ.join (Imp.norm (n := 0) rfl (.cons rfl rfl (.cons rfl rfl (.cons rfl rfl .nil))))
    · obtain ⟨v_4, hv_v_4, hx1⟩ := bnd_inv hx1
      obtain ⟨v_5, hv_v_5, hx1⟩ := bnd_inv hx1
      obtain ⟨v_6, hv_v_6, hx1⟩ := lt1_inv hx1
      refine JC.anyG (base := [(0, .one (.val (S (rL (rU UInt8)) b_1))), (4, .one (.val (S (rI .i64) v_2)))])
          (fs := [⟨some 8, .one (.val (S (rI .i64) v_2))⟩, ⟨some 9, .one (.val (S rB v_3))⟩, ⟨some 10, .one (.val (S rB v_3))⟩, ⟨some 11, .one (.val (S (rL (rU UInt8)) b_1))⟩, ⟨some 12, .one (.val (S (rI .i64) v_2))⟩, ⟨some 13, .one (.val (S (rL (rU UInt8)) v_4))⟩, ⟨some 14, .one (.val (S (rL (rU UInt8)) v_5))⟩, ⟨some 15, .one (.val (S rS v_5))⟩, ⟨some 16, .one (.val (S (rL (rU UInt8)) b_1))⟩, ⟨some 17, .one (.val (S rS b_1))⟩, ⟨some 18, .one (.val (S rB v_6))⟩, ⟨some 19, .one (.val (S rB v_6))⟩])
          (ds := [8, 9, 10, 11, 12, 13, 14, 15, 16, 17, 18, 19]) (bs := [0, 4]) mixed (.cons rfl (.cons rfl .nil))
          (.cons rfl (FStep.go (fun ρ hb hd => .none) (fun ρ hb hd => op_move (ltB rfl) (.tmp (hb 4 _ rfl)))) 
    (.cons rfl (FStep.go (fun ρ hb hd => .none) (fun ρ hb hd => op_cmpI (ltB rfl) (.tmp (hdl hd 0 8 rfl (by decide +kernel))) .cI (congrArg some hv_v_3))) 
    (.cons rfl (FStep.go (fun ρ hb hd => .none) (fun ρ hb hd => op_move (ltB rfl) (.tmp (hdl hd 1 9 rfl (by decide +kernel))))) 
    (.cons rfl (FStep.go (fun ρ hb hd => .yes rfl (ltB rfl) (hdl hd 2 10 rfl (by decide +kernel)) hc2) (fun ρ hb hd => op_move (ltB rfl) (.tmp (hb 0 _ rfl)))) 
    (.cons rfl (FStep.go (fun ρ hb hd => .yes rfl (ltB rfl) (hdl hd 2 10 rfl (by decide +kernel)) hc2) (fun ρ hb hd => op_move (ltB rfl) (.tmp (hb 4 _ rfl)))) 
    (.cons rfl (FStep.go (fun ρ hb hd => .yes rfl (ltB rfl) (hdl hd 2 10 rfl (by decide +kernel)) hc2) (fun ρ hb hd => op_sliceLg (ltB rfl) tu23 tz5 (.tmp (hdl hd 3 11 rfl (by decide +kernel))) .none (.some (.tmp (hdl hd 4 12 rfl (by decide +kernel)))) hv_v_4)) 
    (.cons rfl (FStep.go (fun ρ hb hd => .yes rfl (ltB rfl) (hdl hd 2 10 rfl (by decide +kernel)) hc2) (fun ρ hb hd => op_call (ltB rfl) cl12 (sim_ref02_Close_z k v_4 v_5 hv_v_5) (.cons (.tmp (hdl hd 5 13 rfl (by decide +kernel))) .nil))) 
    (.cons rfl (FStep.go (fun ρ hb hd => .yes rfl (ltB rfl) (hdl hd 2 10 rfl (by decide +kernel)) hc2) (fun ρ hb hd => op_convBS (ltB rfl) tu23 tu5 tu9 (.tmp (hdl hd 6 14 rfl (by decide +kernel))))) 
    (.cons rfl (FStep.go (fun ρ hb hd => .yes rfl (ltB rfl) (hdl hd 2 10 rfl (by decide +kernel)) hc2) (fun ρ hb hd => op_move (ltB rfl) (.tmp (hb 0 _ rfl)))) 
    (.cons rfl (FStep.go (fun ρ hb hd => .yes rfl (ltB rfl) (hdl hd 2 10 rfl (by decide +kernel)) hc2) (fun ρ hb hd => op_convBS (ltB rfl) tu23 tu5 tu9 (.tmp (hdl hd 8 16 rfl (by decide +kernel))))) 
    (.cons rfl (FStep.go (fun ρ hb hd => .yes rfl (ltB rfl) (hdl hd 2 10 rfl (by decide +kernel)) hc2) (fun ρ hb hd => op_cmpS (ltB rfl) (.tmp (hdl hd 7 15 rfl (by decide +kernel))) (.tmp (hdl hd 9 17 rfl (by decide +kernel))) (congrArg some hv_v_6))) 
    (.cons rfl (FStep.go (fun ρ hb hd => .none) (fun ρ hb hd => op_pickF (ltB rfl) (.tmp (hdl hd 2 10 rfl (by decide +kernel))) hc2 (.tmp (hdl hd 10 18 rfl (by decide +kernel))))) .nil))))))))))))
          (by decide +kernel) rfl rfl (by decide) (by decide)
          (ρ' := [(0, .one (.val (S (rL (rU UInt8)) b_1))), (4, .one (.val (S (rI .i64) v_2))), (19, .one (.val (S rB v_6)))])
          (fun ρ hb hd => (.cons (hb 0 _ rfl) (.cons (hb 4 _ rfl) (.cons (hdq hd 11 19 rfl) .nil)))) ?_
      replace hx1 := Option.some.inj hx1
      subst hx1
      exact JQ.join (Imp.norm (n := 0) rfl (.cons rfl rfl (.cons rfl rfl (.cons rfl rfl .nil))))

end Go.Proofs.Ytlkofkegbkkhbaa
