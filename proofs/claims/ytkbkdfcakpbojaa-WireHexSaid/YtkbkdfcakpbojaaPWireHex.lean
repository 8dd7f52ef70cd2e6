/- The plain law WireHex. -/
import Derived.Test.YtkbkdfcakpbojaaF
namespace Go.Proofs.Ytkbkdfcakpbojaa
open Go Fw
set_option linter.unusedVariables false
set_option linter.unusedSimpArgs false

theorem pure_WireHex (y0 : (List UInt8)) (y1 : (List UInt8)) (f0 : (List.length y0 * 1 ≤ 140737488351232 ∧ ∀ z0 ∈ y0, True)) (f1 : (List.length y1 ≤ 140737488351232)) : ∃ k, law01_WireHex k y0 y1 = some true := by
  obtain ⟨k, hk⟩ : ∃ k, 20000 ≤ k := ⟨20000, Nat.le_refl _⟩
  refine ⟨k, ?_⟩
  have hkn := known_eq k (by omega)
  by_cases h1 : (y0.length : Int) > 9000
  · simp only [law01_WireHex, lt1, h1, decide_true, cond_true, Option.bind_some, if_true, hkn]
  by_cases h2 : (y1.length : Int) > 9000
  · simp only [law01_WireHex, lt1, h1, h2, decide_true, decide_false, cond_false, Option.bind_some, if_true, hkn]
  simp only [law01_WireHex, lt1, h1, h2, decide_false, cond_false, Option.bind_some, Bool.false_eq_true, if_false, hkn, wireUnhex_eq k y1 (by omega) (by omega), unhex_eq k y1 (by omega) (by omega), wireHex_eq k y0 (by omega) (by omega), refHex_eq k y0 (by omega) (by omega), law01_num]
  by_cases hm : y1.length % 2 = 0
  · simp only [if_pos hm]
    cases hp : pairsO y1 <;> simp
  · simp only [if_neg hm]
    simp
end Go.Proofs.Ytkbkdfcakpbojaa
