/- Loops of the commonest kinds, and lists: no program here. -/
import Derived.Test.YtipchpbcjkhnaaaFa
import Derived.Test.YtipchpbcjkhnaaaFq
namespace Go.Proofs.Ytipchpbcjkhnaaa
open Go Fw
set_option linter.unusedVariables false
set_option linter.unusedSimpArgs false

/-- A loop that leaves at the first place where something is not so. -/
theorem loop_all {body : Int → Option (Int ⊕ (Unit ⊕ Bool))} (n : Nat) (P : Nat → Prop) [DecidablePred P] {b : Bool} (hs : ∀ i, i < n → body (i : Int) = some (if P i then .inl ((i + 1 : Nat) : Int) else .inr (.inr b))) (he : body (n : Int) = some (.inr (.inl ()))) {k : Nat} (hk : n < k) :
    loopO body k (0 : Int) = some (if ∀ i, i < n → P i then .inl () else .inr b) := by
  have h := loop_inv (body := body) (I := fun s => 0 ≤ s ∧ s ≤ n ∧ ∀ i : Nat, (i : Int) < s → P i) (m := fun s => ((n : Int) - s).toNat) (fun t => t = if ∀ i, i < n → P i then .inl () else .inr b) ?_ k (0 : Int) ⟨Int.le_refl _, by omega, fun i h => by omega⟩ (by omega)
  · obtain ⟨t, h1, rfl⟩ := h
    exact h1
  · rintro s ⟨h0, h1, h2⟩
    obtain ⟨i, rfl⟩ : ∃ i : Nat, s = i := ⟨s.toNat, by omega⟩
    by_cases hlt : i < n
    · rw [hs i hlt]
      by_cases hP : P i
      · left
        refine ⟨_, by rw [if_pos hP], ⟨by omega, by omega, fun j hj => ?_⟩, by omega⟩
        by_cases hji : j = i
        · subst hji; exact hP
        · exact h2 j (by omega)
      · right
        exact ⟨_, by rw [if_neg hP], by rw [if_neg (fun h => hP (h i hlt))]⟩
    · have : i = n := by omega
      subst this
      right
      exact ⟨_, he, by rw [if_pos (fun j hj => h2 j (by omega))]⟩
/-- A loop that goes over places and keeps a state. -/
theorem loop_nat {σ τ : Type} {body : σ × Int → Option (σ × Int ⊕ τ)} (n : Nat) (f : Nat → σ) (t : τ) (hs : ∀ i, i < n → body (f i, (i : Int)) = some (.inl (f (i + 1), ((i + 1 : Nat) : Int)))) (he : body (f n, (n : Int)) = some (.inr t)) {k : Nat} (hk : n < k) {s0 : σ} (h0 : f 0 = s0) : loopO body k (s0, (0 : Int)) = some t :=
  loop_g (f := fun i => (f i, ((i : Nat) : Int))) n t (by rw [h0]; rfl) hs he hk
end Go.Proofs.Ytipchpbcjkhnaaa
