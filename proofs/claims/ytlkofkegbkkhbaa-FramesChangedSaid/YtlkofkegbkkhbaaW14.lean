/- The walk of one function. -/
import Derived.Test.YtlkofkegbkkhbaaT
import Derived.Test.YtlkofkegbkkhbaaW10
import Derived.Test.YtlkofkegbkkhbaaW13
namespace Go.Proofs.Ytlkofkegbkkhbaa
open Go Fw
set_option linter.unusedVariables false
set_option maxRecDepth 100000
set_option maxHeartbeats 4000000

theorem sim_crc_Open (k : Nat) (b_1 : (List UInt8)) (r : (List UInt8) × Bool) (hm : crc_Open k b_1 = some r) : Sim Try.prog 14 [S (rL (rU UInt8)) b_1] [.own UInt8 (rU UInt8) r.1 0] (.tup [.own 0, .val (S rB r.2)]) := by
  unfold crc_Open at hm
  refine Sim.of Try.func14 rfl rfl (Nat.le_of_ble_eq_true rfl) (fun e0 w0 => ?_)
  refine JC.at (M := HM.none) ⟨[(0, .one (.val (S (rL (rU UInt8)) b_1)))], [], ()⟩ ?_
  refine JC.seq ?_
  refine JC.region ?_
  refine JL.cons rfl (op_nilA (rU UInt8) (ltB rfl)) ?_
  refine JL.pre (Imp.norm (n := 0) (ρ' := [(0, .one (.val (S (rL (rU UInt8)) b_1)))]) (X' := []) rfl (.cons rfl rfl .nil)) ?_
  refine JL.at (M := HM.none) ⟨[(0, .one (.val (S (rL (rU UInt8)) b_1)))], [], ()⟩ ?_
  refine JL.cons rfl (op_assign (ltB rfl) .cB) ?_
  refine JL.nil ?_
  refine JQ.then ?_
  refine JC.seq ?_
  obtain ⟨v_6, hx1, hq1⟩ := bnd_inv hm
  refine JC.seqJ (stj := ⟨[(0, .one (.val (S (rL (rU UInt8)) b_1))), (13, .one (.val (S rB v_6)))], [], ()⟩) ?_ ?_
  · rcases iteB_inv hq1 with ⟨hc3, hq1⟩ | ⟨hc3, hq1⟩
    · refine JC.condT (.tmp rfl) hc3 ?_
      refine JC.seq ?_
      refine JC.region ?_
      refine JL.cons rfl (op_nilA (rU UInt8) (ltB rfl)) ?_
      refine JL.pre (Imp.norm (n := 1) (ρ' := [(2, .one (.own 0))]) (X' := [.own UInt8 (rU UInt8) ([] : (List UInt8)) 0]) rfl (.cons rfl rfl .nil)) ?_
      refine JL.at (M := HM.none) ⟨[(2, .one (.own 0))], [.own UInt8 (rU UInt8) ([] : (List UInt8)) 0], ()⟩ ?_
      refine JL.cons rfl (op_assign (ltB rfl) .cB) ?_
      refine JL.nil ?_
      refine JQ.then ?_
      refine JC.ret ?_
      refine JQ.outR ?_
      replace hq1 := Option.some.inj hq1
      subst hq1
      refine JQ.doneO (j := 0) (ss := [.own 0, .val (S rB false)]) (.inl rfl) rfl rfl rfl (flatU _) (.cons (.tmp rfl) (.cons (.tmp rfl) .nil)) ?_ ?_
      · intro s hs
        simp only [List.mem_cons, List.not_mem_nil, or_false] at hs
        rcases hs with rfl | rfl
        · exact Nat.zero_lt_one
        · exact trivial
      · intro s hs
        simp only [List.mem_cons, List.not_mem_nil, or_false] at hs
        rcases hs with rfl | rfl
        · exact trivial
        · exact flatVS flatB
    · refine JC.condF (.tmp rfl) hc3 ?_
      refine JC.skip ?_
      refine JQ.then ?_
      refine JC.seq ?_
      refine JC.region ?_
      refine JL.cons rfl (op_move (ltB rfl) (.tmp rfl)) ?_
      refine JL.cons rfl (op_move (ltB rfl) (.tmp rfl)) ?_
      refine JL.cons rfl (op_lenL (ltB rfl) tu23 (.tmp rfl)) ?_
      obtain ⟨v_7, hv_v_7, hq1⟩ := lt1_inv hq1
      refine JL.cons rfl (op_arI (ltB rfl) (.tmp rfl) .cI (congrArg some hv_v_7)) ?_
      obtain ⟨v_8, hv_v_8, hq1⟩ := bnd_inv hq1
      refine JL.cons rfl (op_sliceLg (ltB rfl) tu23 tz5 (.tmp rfl) .none (.some (.tmp rfl)) hv_v_8) ?_
      obtain ⟨v_9, hv_v_9, hq1⟩ := bnd_inv hq1
      refine JL.cons rfl (op_appendNL (ltB rfl) tu23 tu23 rfl tB5 rfl (Nat.lt_of_lt_of_le Nat.zero_lt_one (Nat.le_of_ble_eq_true rfl)) (Nat.lt_of_lt_of_le Nat.zero_lt_one (Nat.le_of_ble_eq_true rfl)) (.tmp rfl) hv_v_9) ?_
      refine JL.pre (Imp.norm (n := 1) (ρ' := [(19, .one (.own 0))]) (X' := [.own UInt8 (rU UInt8) v_9 0]) rfl (.cons rfl rfl .nil)) ?_
      refine JL.at (M := HM.none) ⟨[(19, .one (.own 0))], [.own UInt8 (rU UInt8) v_9 0], ()⟩ ?_
      refine JL.cons rfl (op_assign (ltB rfl) (.tmp rfl)) ?_
      refine JL.cons rfl (op_assign (ltB rfl) .cB) ?_
      refine JL.nil ?_
      refine JQ.then ?_
      refine JC.ret ?_
      replace hq1 := Option.some.inj hq1
      subst hq1
      refine JQ.doneO (j := 0) (ss := [.own 0, .val (S rB true)]) (.inl rfl) rfl rfl rfl (flatU _) (.cons (.tmp rfl) (.cons (.tmp rfl) .nil)) ?_ ?_
      · intro s hs
        simp only [List.mem_cons, List.not_mem_nil, or_false] at hs
        rcases hs with rfl | rfl
        · exact Nat.zero_lt_one
        · exact trivial
      · intro s hs
        simp only [List.mem_cons, List.not_mem_nil, or_false] at hs
        rcases hs with rfl | rfl
        · exact trivial
        · exact flatVS flatB
  · refine JC.region ?_
    refine JL.cons rfl (op_move (ltB rfl) (.tmp rfl)) ?_
    refine JL.cons rfl (op_lenL (ltB rfl) tu23 (.tmp rfl)) ?_
    obtain ⟨v_2, hv_v_2, hx1⟩ := lt1_inv hx1
    refine JL.cons rfl (op_cmpI (ltB rfl) (.tmp rfl) .cI (congrArg some hv_v_2)) ?_
    refine JL.cons rfl (op_move (ltB rfl) (.tmp rfl)) ?_
    rcases iteB_inv hx1 with ⟨hc2, hx1⟩ | ⟨hc2, hx1⟩
    · refine JL.skip (.no rfl (ltB rfl) rfl hc2) (fun d h => by cases h; exact ltB rfl) ?_
      refine JL.skip (.no rfl (ltB rfl) rfl hc2) (fun d h => by cases h; exact ltB rfl) ?_
      refine JL.skip (.no rfl (ltB rfl) rfl hc2) (fun d h => by cases h; exact ltB rfl) ?_
      refine JL.skip (.no rfl (ltB rfl) rfl hc2) (fun d h => by cases h; exact ltB rfl) ?_
      refine JL.skip (.no rfl (ltB rfl) rfl hc2) (fun d h => by cases h; exact ltB rfl) ?_
      refine JL.cons rfl (op_pickT (ltB rfl) (.tmp rfl) hc2 .cB) ?_
      refine JL.nil ?_
      replace hx1 := Option.some.inj hx1
      subst hx1
      exact JQ.join (Imp.norm (n := 0) rfl (.cons rfl rfl (.cons rfl rfl .nil)))
    · refine JL.run (.yes rfl (ltB rfl) rfl hc2) (op_move (ltB rfl) (.tmp rfl)) ?_
      refine JL.pre (Imp.norm (n := 0) (ρ' := [(0, .one (.val (S (rL (rU UInt8)) b_1))), (7, .one (.val (S rB v_2))), (8, .one (.val (S (rL (rU UInt8)) b_1)))]) (X' := []) rfl (.cons rfl rfl (.cons rfl rfl (.cons rfl rfl .nil)))) ?_
      refine JL.at (M := HM.none) ⟨[(0, .one (.val (S (rL (rU UInt8)) b_1))), (7, .one (.val (S rB v_2))), (8, .one (.val (S (rL (rU UInt8)) b_1)))], [], ()⟩ ?_
      refine JL.run (.yes rfl (ltB rfl) rfl hc2) (op_buildF (r := (rL (rU UInt8))) (ltB rfl) tu22 tz23 tZ23 rfl (Nat.le_of_ble_eq_true rfl) (.S rfl (.tmp rfl) .nil) rfl) ?_
      obtain ⟨v_3, hv_v_3, hx1⟩ := bnd_inv hx1
      refine JL.run (.yes rfl (ltB rfl) rfl hc2) (op_call (ltB rfl) cl10 (sim_crc_Sum k ([b_1] : (List (List UInt8))) v_3 hv_v_3) (.cons (.tmp rfl) .nil)) ?_
      obtain ⟨v_4, hv_v_4, hx1⟩ := bnd_inv hx1
      refine JL.run (.yes rfl (ltB rfl) rfl hc2) (op_call (ltB rfl) cl13 (sim_crc_Residue k v_4 hv_v_4) .nil) ?_
      obtain ⟨v_5, hv_v_5, hx1⟩ := lt1_inv hx1
      refine JL.run (.yes rfl (ltB rfl) rfl hc2) (op_cmpU (ltB rfl) (.tmp rfl) (.tmp rfl) (congrArg some hv_v_5)) ?_
      refine JL.cons rfl (op_pickF (ltB rfl) (.tmp rfl) hc2 (.tmp rfl)) ?_
      refine JL.nil ?_
      replace hx1 := Option.some.inj hx1
      subst hx1
      exact JQ.join (Imp.norm (n := 0) rfl (.cons rfl rfl (.cons rfl rfl .nil)))

theorem sim_crc_Open_z (k : Nat) (b_1 : (List UInt8)) (r : (List UInt8) × Bool) (hm : crc_Open k b_1 = some r) : Sim Try.prog 14 [S (rL (rU UInt8)) b_1] [] (.tup [.val (S (rL (rU UInt8)) r.1), .val (S rB r.2)]) :=
  Sim.frzT (i := 0) rfl (fun j s h1 h2 => by rcases j with _ | _ | _ | _ | j <;> first | (exact absurd rfl h2) | (cases h1; exact ⟨_, rfl⟩) | (cases h1)) (sim_crc_Open k b_1 r hm)

end Go.Proofs.Ytlkofkegbkkhbaa
