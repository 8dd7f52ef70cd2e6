/- Clearing; the reference's functions; an act done to both. -/
import Derived.Test.YtnadeehdnmgebaaC
namespace Go.Proofs.Ytnadeehdnmgebaa
open Go Fw
set_option linter.unusedVariables false
set_option linter.unusedSimpArgs false

theorem Inv.filter {M : Mp} {E : Nat} (h : Inv M E) (f : net_pair → Bool) : Inv (M.filter fun e => f e.1) E := by
  have hl : ∀ p, ln (M.filter fun e => f e.1) p = if f p = true then ln M p else [] := fun p => by
    unfold ln
    rw [mget_filter]
    split <;> rfl
  refine ⟨h.E16, (List.filter_sublist.map _).nodup h.nd, fun e he => h.rng e (List.mem_filter.1 he).1, fun p => ?_, fun p b hb => ?_⟩
  · rw [hl]
    split
    · exact h.len p
    · simp
  · rw [hl] at hb
    split at hb
    · exact h.small p b hb
    · cases hb
/-! ### the reference -/
theorem same_eq (k : Nat) (a b : api_Flight) : ref12_Same k a b = some (decide (a = b)) := by
  simp only [ref12_Same, lt1, Option.bind_some]
  obtain ⟨a1, a2, a3⟩ := a
  obtain ⟨b1, b2, b3⟩ := b
  simp only [api_Flight.mk.injEq]
  by_cases h1 : a1 = b1
  · by_cases h2 : a2 = b2
    · by_cases h3 : a3 = b3 <;> simp [h1, h2, h3]
    · simp [h1, h2]
  · simp [h1]
/-! ### an act, done to both -/
end Go.Proofs.Ytnadeehdnmgebaa
