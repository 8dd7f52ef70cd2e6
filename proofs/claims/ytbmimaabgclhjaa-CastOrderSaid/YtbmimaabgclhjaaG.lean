/- Loops of the commonest kinds, and lists: no program here. -/
import Derived.Test.YtbmimaabgclhjaaFa
import Derived.Test.YtbmimaabgclhjaaFq
namespace Go.Proofs.Ytbmimaabgclhjaa
open Go Fw
set_option linter.unusedVariables false
set_option linter.unusedSimpArgs false

/-- A loop that goes over places and keeps a state. -/
theorem loop_nat {σ τ : Type} {body : σ × Int → Option (σ × Int ⊕ τ)} (n : Nat) (f : Nat → σ) (t : τ) (hs : ∀ i, i < n → body (f i, (i : Int)) = some (.inl (f (i + 1), ((i + 1 : Nat) : Int)))) (he : body (f n, (n : Int)) = some (.inr t)) {k : Nat} (hk : n < k) {s0 : σ} (h0 : f 0 = s0) : loopO body k (s0, (0 : Int)) = some t :=
  loop_g (f := fun i => (f i, ((i : Nat) : Int))) n t (by rw [h0]; rfl) hs he hk
end Go.Proofs.Ytbmimaabgclhjaa
