/- Helps for the plain laws: loops by their course, numbers that stay small, lists. -/
import Derived.Test.YtipchpbcjkhnaaaFp
namespace Go.Proofs.Ytipchpbcjkhnaaa.Fw
set_option linter.unusedVariables false

theorem ZkM {σ τ : Type} {body : σ → Option (σ ⊕ τ)} (f : Nat → σ) (n : Nat) (t : τ) (hs : ∀ i, i < n → body (f i) = some (.inl (f (i + 1)))) (he : body (f n) = some (.inr t)) :
    ∀ k, n < k → Zcl body k (f 0) = some t := by
  have key : ∀ m i k, i + m = n → m < k → Zcl body k (f i) = some t := by
    intro m
    induction m with
    | zero =>
      intro i k hi hk
      obtain ⟨k, rfl⟩ : ∃ j, k = j + 1 := ⟨k - 1, by omega⟩
      have : i = n := by omega
      subst this
      exact ZdR he
    | succ m ih =>
      intro i k hi hk
      obtain ⟨k, rfl⟩ : ∃ j, k = j + 1 := ⟨k - 1, by omega⟩
      rw [ZdO (hs i (by omega))]
      exact ih (i + 1) k (by omega) (by omega)
  exact fun k hk => key n 0 k (by omega) hk
theorem Zi8 {σ τ : Type} {body : σ → Option (σ ⊕ τ)} (f : Nat → σ) (n : Nat) (t : τ) {s0 : σ} (h0 : f 0 = s0) (hs : ∀ i, i < n → body (f i) = some (.inl (f (i + 1)))) (he : body (f n) = some (.inr t)) {k : Nat} (hk : n < k) : Zcl body k s0 = some t := h0 ▸ ZkM f n t hs he k hk
theorem Zjz {σ τ : Type} {body : σ → Option (σ ⊕ τ)} (I : σ → Prop) (m : σ → Nat) (Post : τ → Prop)
    (h : ∀ s, I s → (∃ s', body s = some (.inl s') ∧ I s' ∧ m s' < m s) ∨ ∃ t, body s = some (.inr t) ∧ Post t) : ∀ k s, I s → m s < k → ∃ t, Zcl body k s = some t ∧ Post t := by
  intro k
  induction k with
  | zero => intro s _ h; omega
  | succ k ih =>
    intro s hs hk
    rcases h s hs with ⟨s', h1, h2, h3⟩ | ⟨t, h1, h2⟩
    · rw [ZdO h1]
      exact ih s' h2 (by omega)
    · exact ⟨t, ZdR h1, h2⟩
theorem ZjZ {T : Type} {xs : List T} {i : Nat} : idxL xs (i : Int) = xs[i]? := by simp [idxL]
theorem Ze6 {T : Type} {xs : List T} {i : Nat} (h : i < xs.length) : idxL xs (i : Int) = some xs[i] := by rw [ZjZ, List.getElem?_eq_getElem h]
theorem ZcD {T : Type} {b : Nat} {xs ys : List T} (h : (xs.length + ys.length) * b ≤ 140737488355328) : apL b xs ys = some (xs ++ ys) := if_pos h
theorem ZeY {T : Type} {xs : List T} {l h : Int} (h0 : 0 ≤ l) (h1 : l ≤ h) (h2 : h ≤ xs.length) : subL xs l h = some ((xs.drop l.toNat).take (h.toNat - l.toNat)) := if_pos ⟨h0, h1, h2⟩
theorem ZeR {T : Type} {xs : List T} {i : Int} (h0 : 0 ≤ i) (h1 : i.toNat < xs.length) : inO xs i = some i.toNat := if_pos ⟨h0, h1⟩
theorem Zcm {n : Nat} (h : n < 9223372036854775807) : w64 ((n : Int) + 1) = ((n + 1 : Nat) : Int) := Zch (by omega) (by omega)
theorem Zbz {p : Prop} [Decidable p] (h : p) : decide p = true := decide_eq_true h
theorem Zbq {p : Prop} [Decidable p] (h : ¬ p) : decide p = false := decide_eq_false h
end Go.Proofs.Ytipchpbcjkhnaaa.Fw
