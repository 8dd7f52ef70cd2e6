/- The walk of one function. -/
import Derived.Test.YtlkofkegbkkhbaaT
namespace Go.Proofs.Ytlkofkegbkkhbaa
open Go Fw
set_option linter.unusedVariables false
set_option maxRecDepth 100000
set_option maxHeartbeats 4000000

theorem sim_ref02_taps (k : Nat) (r : (List UInt8)) (hm : ref02_taps k = some r) : Sim Try.prog 19 [] [] (.one (.val (S rS r))) := by
  unfold ref02_taps at hm
  refine Sim.of Try.func19 rfl rfl (Nat.le_of_ble_eq_true rfl) (fun e0 w0 => ?_)
  refine JC.at (M := HM.none) ⟨[], [], ()⟩ ?_
  refine JC.seq ?_
  refine JC.region ?_
  refine JL.cons rfl (op_assign (ltB rfl) (HasO.cS (l := []) rfl)) ?_
  refine JL.nil ?_
  refine JQ.then ?_
  refine JC.seq ?_
  refine JC.region ?_
  refine JL.cons rfl (op_assign (ltB rfl) (HasO.cS (l := [48, 48, 48, 49, 49, 49, 49, 48, 49, 49, 48, 49, 49, 49, 48, 48, 48, 49, 49, 48, 49, 49, 49, 49, 48, 49, 48, 48, 48, 48, 48, 49]) rfl)) ?_
  refine JL.nil ?_
  refine JQ.then ?_
  refine JC.ret ?_
  replace hm := Option.some.inj hm
  subst hm
  exact JQ.doneV (ss := [.val (S rS ([48, 48, 48, 49, 49, 49, 49, 48, 49, 49, 48, 49, 49, 49, 48, 48, 48, 49, 49, 48, 49, 49, 49, 49, 48, 49, 48, 48, 48, 48, 48, 49] : List UInt8))]) (.inl rfl) rfl rfl (.cons (.tmp rfl) .nil) rfl

end Go.Proofs.Ytlkofkegbkkhbaa
