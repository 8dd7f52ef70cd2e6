/- The plain law WireNumbers. -/
import Derived.Test.YtkbkdfcakpbojaaB
namespace Go.Proofs.Ytkbkdfcakpbojaa
open Go Fw
set_option linter.unusedVariables false
set_option linter.unusedSimpArgs false

theorem pure_WireNumbers (y0 : UInt64) (y1 : Int) (y2 : (List UInt8)) (f0 : True) (f1 : (IntKind.min .i64 ≤ y1 ∧ y1 ≤ IntKind.max .i64)) (f2 : (List.length y2 * 1 ≤ 140737488351232 ∧ ∀ z0 ∈ y2, True)) : ∃ k, law01_WireNumbers k y0 y1 y2 = some true := by
  obtain ⟨k, hk⟩ : ∃ k, 9 ≤ k := ⟨9, Nat.le_refl _⟩
  refine ⟨k, ?_⟩
  have hmin : -9223372036854775808 ≤ y1 := f1.1
  have hmax : y1 ≤ 9223372036854775807 := f1.2
  simp only [law01_WireNumbers, known_eq k hk, lt1, Option.bind_some]
  by_cases hlen : (y2.length : Int) > 9000
  · simp only [hlen, decide_true, if_true]
  · simp only [hlen, decide_false, Bool.false_eq_true, if_false, wirePut_eq k hk y0 y1 hmin hmax, refRoom_eq k hk, Option.bind_some, wireGet_eq k hk y2 (by omega), law01_num]
    by_cases hr : room y0 y1
    · obtain ⟨s, rfl⟩ : ∃ s : Nat, y1 = s := ⟨y1.toNat, by have := hr.1; omega⟩
      have hs : s ≤ 8 := by have := hr.2.1; omega
      by_cases h1 : (y2.length : Int) < 1
      · have h3 : ¬ (1 ≤ y2.length ∧ y2.length ≤ 8) := by omega
        simp [hr, refPut_eq k hk y0 s hs, h1, h3]
      · by_cases h2 : (y2.length : Int) > 8
        · have h3 : ¬ (1 ≤ y2.length ∧ y2.length ≤ 8) := by omega
          simp [hr, refPut_eq k hk y0 s hs, h1, h2, h3]
        · have h3 : 1 ≤ y2.length ∧ y2.length ≤ 8 := by omega
          simp [hr, refPut_eq k hk y0 s hs, h1, h2, h3, refGet_eq k hk y2 (by omega)]
    · by_cases h1 : (y2.length : Int) < 1
      · have h3 : ¬ (1 ≤ y2.length ∧ y2.length ≤ 8) := by omega
        simp [hr, h1, h3]
      · by_cases h2 : (y2.length : Int) > 8
        · have h3 : ¬ (1 ≤ y2.length ∧ y2.length ≤ 8) := by omega
          simp [hr, h1, h2, h3]
        · have h3 : 1 ≤ y2.length ∧ y2.length ≤ 8 := by omega
          simp [hr, h1, h2, h3, refGet_eq k hk y2 (by omega)]
end Go.Proofs.Ytkbkdfcakpbojaa
