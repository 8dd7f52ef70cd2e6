/- The walk of one function. -/
import Derived.Test.YtlkofkegbkkhbaaT
import Derived.Test.YtlkofkegbkkhbaaW9
import Derived.Test.YtlkofkegbkkhbaaW10
namespace Go.Proofs.Ytlkofkegbkkhbaa
open Go Fw
set_option linter.unusedVariables false
set_option maxRecDepth 100000
set_option maxHeartbeats 4000000

theorem sim_crc_Residue (k : Nat) (r : UInt32) (hm : crc_Residue k = some r) : Sim Try.prog 13 [] [] (.one (.val (S (rU UInt32) r))) := by
  unfold crc_Residue at hm
  refine Sim.of Try.func13 rfl rfl (Nat.le_of_ble_eq_true rfl) (fun e0 w0 => ?_)
  refine JC.at (M := HM.none) ⟨[], [], ()⟩ ?_
  refine JC.seq ?_
  refine JC.region ?_
  refine JL.cons rfl (op_assign (ltB rfl) (HasO.cU (x := (0 : UInt32)) rfl (by decide))) ?_
  refine JL.nil ?_
  refine JQ.then ?_
  refine JC.seq ?_
  refine JC.region ?_
  obtain ⟨v_1, hv_v_1, hm⟩ := bnd_inv hm
  refine JL.cons rfl (op_call (ltB rfl) cl9 (sim_crc_Close k ([] : (List (List UInt8))) v_1 hv_v_1) (.cons (HasO.nilL (r := (rL (rU UInt8)))) .nil)) ?_
  refine JL.pre (Imp.norm (n := 1) (ρ' := [(0, .one (.val (S (rU UInt32) (0 : UInt32)))), (1, .one (.own 0))]) (X' := [.own UInt8 (rU UInt8) v_1 0]) rfl (.cons rfl rfl (.cons rfl rfl .nil))) ?_
  refine JL.at (M := HM.none) ⟨[(0, .one (.val (S (rU UInt32) (0 : UInt32)))), (1, .one (.own 0))], [.own UInt8 (rU UInt8) v_1 0], ()⟩ ?_
  refine JL.pre (Imp.freeze (s := 1) rfl rfl) ?_
  refine JL.cons rfl (op_buildF (r := (rL (rU UInt8))) (ltB rfl) tu22 tz23 tZ23 rfl (Nat.le_of_ble_eq_true rfl) (.S rfl (.tmp rfl) .nil) rfl) ?_
  obtain ⟨v_2, hv_v_2, hm⟩ := bnd_inv hm
  refine JL.cons rfl (op_call (ltB rfl) cl10 (sim_crc_Sum k ([v_1] : (List (List UInt8))) v_2 hv_v_2) (.cons (.tmp rfl) .nil)) ?_
  refine JL.cons rfl (op_assign (ltB rfl) (.tmp rfl)) ?_
  refine JL.nil ?_
  refine JQ.then ?_
  refine JC.ret ?_
  replace hm := Option.some.inj hm
  subst hm
  exact JQ.doneV (ss := [.val (S (rU UInt32) v_2)]) (.inl rfl) rfl rfl (.cons (.tmp rfl) .nil) rfl

end Go.Proofs.Ytlkofkegbkkhbaa
