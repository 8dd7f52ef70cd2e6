/- The plain law WireParts. -/
import Derived.Test.YtkbkdfcakpbojaaC
namespace Go.Proofs.Ytkbkdfcakpbojaa
open Go Fw
set_option linter.unusedVariables false
set_option linter.unusedSimpArgs false

theorem pure_WireParts (y0 : api_Dot) (y1 : (Vector UInt64 16)) (y2 : (List (List UInt8))) (y3 : (List UInt8)) (f0 : ((IntKind.min .i64 ≤ y0.Region ∧ y0.Region ≤ IntKind.max .i64) ∧ (True ∧ True))) (f1 : (∀ (i : Nat) (h : i < 16), True)) (f2 : (List.length y2 * 24 ≤ 140737488351232 ∧ ∀ z0 ∈ y2, (List.length z0 * 1 ≤ 140737488351232 ∧ ∀ z1 ∈ z0, True))) (f3 : (List.length y3 * 1 ≤ 140737488351232 ∧ ∀ z0 ∈ y3, True)) : ∃ k, law01_WireParts k y0 y1 y2 y3 = some true := by
  obtain ⟨k, hk⟩ : ∃ k, 17 + y2.length ≤ k := ⟨_, Nat.le_refl _⟩
  refine ⟨k, ?_⟩
  obtain ⟨b, hb, hb'⟩ := much_eq k y2 (by omega) (by omega)
  simp only [law01_WireParts, hb, known_eq k (by omega), lt1, Option.bind_some]
  cases b
  · by_cases hlen : (y3.length : Int) > 70000
    · simp only [hlen, decide_true, cond_false, if_true]
    · have hs := hb' rfl
      have hj := join_eq k y2 (by omega) (by omega) (by omega)
      have hrj := refJoin_eq k y2 (by omega) (by omega) (by omega)
      simp only [hlen, decide_false, cond_false, Bool.false_eq_true, if_false, wireDot_eq k (by omega), wireBlob_eq k (by omega) y3 (by omega), wireVec_eq k (by omega), refVec_eq k (by omega), hj, hrj, refBlob_eq k (by omega) y3 (by omega), law01_num, Option.bind_some]
      have hblob : (y3.length : Int) ≤ 65535 ↔ y3.length ≤ 65535 := by omega
      by_cases h1 : 0 ≤ y0.Region ∧ y0.Region ≤ 255
      · have h2 : y0.Region ≥ 0 := h1.1
        by_cases h3 : y3.length ≤ 65535
        · simp [h1, refDot_eq k (by omega) y0 h1, h3, hblob]
        · simp [h1, refDot_eq k (by omega) y0 h1, h3, hblob]
      · have hn : ¬ ((decide (y0.Region ≥ 0) = true) ∧ y0.Region ≤ 255) := fun h => h1 ⟨of_decide_eq_true h.1, h.2⟩
        by_cases h2 : 0 ≤ y0.Region
        · have h4 : ¬ y0.Region ≤ 255 := fun h => h1 ⟨h2, h⟩
          by_cases h3 : y3.length ≤ 65535
          · simp [h2, h4, h3, hblob]
          · simp [h2, h4, h3, hblob]
        · by_cases h3 : y3.length ≤ 65535
          · simp [h2, h3, hblob]
          · simp [h2, h3, hblob]
  · simp only [cond_true, if_true]
end Go.Proofs.Ytkbkdfcakpbojaa
