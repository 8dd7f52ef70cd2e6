/- Events: what is allowed, what is ready, what comes before what. -/
import Derived.Test.YtbmimaabgclhjaaA
namespace Go.Proofs.Ytbmimaabgclhjaa
open Go Fw
set_option linter.unusedVariables false
set_option linter.unusedSimpArgs false

def core (e : api_Event) : Prop := mayDot e.ID ∧ small e.Past ∧ at_ e.Past e.ID.Region = e.ID.Count.toNat - 1 ∧ mayName e.Topic ∧ e.Payload.length ≤ 512 ∧ e.To.length ≤ 1024
theorem pred_toNat {c : UInt64} (h : 1 ≤ c.toNat) : (c - 1).toNat = c.toNat - 1 := by
  rw [UInt64.toNat_sub_of_le _ _ (by rw [UInt64.le_iff_toNat_le]; exact h)]; rfl
theorem eq_toNat {a b : UInt64} : (a == b) = decide (a.toNat = b.toNat) := by
  rw [Bool.eq_iff_iff, beq_iff_eq, decide_eq_true_eq, UInt64.toNat_inj]
instance (v : Vc) : Decidable (small v) := inferInstanceAs (Decidable (∀ i (h : i < 16), v[i].toNat ≤ 4611686018427387904))
instance (e : api_Event) : Decidable (core e) := inferInstanceAs (Decidable (_ ∧ _))
def ready (e : api_Event) (v : Vc) : Prop := core e ∧ jn v e.Past = v ∧ at_ v e.ID.Region = e.ID.Count.toNat - 1
instance (e : api_Event) (v : Vc) : Decidable (ready e v) := inferInstanceAs (Decidable (_ ∧ _))
end Go.Proofs.Ytbmimaabgclhjaa
