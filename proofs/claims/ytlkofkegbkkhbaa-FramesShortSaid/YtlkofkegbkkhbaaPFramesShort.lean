/- The plain law FramesShort. -/
import Derived.Test.YtlkofkegbkkhbaaFa
import Derived.Test.YtlkofkegbkkhbaaH
namespace Go.Proofs.Ytlkofkegbkkhbaa
open Go Fw Crc
set_option linter.unusedSimpArgs false
set_option linter.unusedVariables false

theorem pure_FramesShort (y0 : (List UInt8)) (y1 : Int) (f0 : (List.length y0 * 1 ≤ 140737488351232 ∧ ∀ z0 ∈ y0, True)) (f1 : (IntKind.min .i64 ≤ y1 ∧ y1 ≤ IntKind.max .i64)) : ∃ k, law02_FramesShort k y0 y1 = some true := by
  refine ⟨50 + y0.length, ?_⟩
  generalize hk : 50 + y0.length = k
  obtain ⟨hl, _⟩ := f0
  have hcl := closed_length y0
  have c1 := Close_eq k [y0] (by simp) (by simp; omega) (by omega) (by simp; omega) (by simp; omega)
  rw [List.flatten_singleton] at c1
  unfold law02_FramesShort
  simp only [c1, Option.bind_some, lt1]
  by_cases h : (y0.length : Int) > 800
  · simp only [dec_t h, if_true, Option.bind_some, known_eq k (by omega)]
  · by_cases h2 : y1 < 1
    · simp only [dec_f h, dec_t h2, Bool.false_eq_true, if_false, if_true, Option.bind_some, known_eq k (by omega)]
    · by_cases h3 : y1 > ((closed y0).length : Int)
      · simp only [dec_f h, dec_f h2, dec_t h3, Bool.false_eq_true, if_false, if_true, Option.bind_some, known_eq k (by omega)]
      · have s1 := subL_ok (xs := closed y0) (l := y1) (h := (closed y0).length) (by omega) (by omega) (by omega)
        have hw : w64 (((closed y0).length : Int) - y1) = ((closed y0).length : Int) - y1 := w64_id (by omega) (by omega)
        have s2 := subL_ok (xs := closed y0) (l := 0) (h := ((closed y0).length : Int) - y1) (by omega) (by omega) (by omega)
        simp only [dec_f h, dec_f h2, dec_f h3, Bool.false_eq_true, if_false, Option.bind_some, s1, hw, s2]
        generalize hx1 : List.take _ (List.drop y1.toNat (closed y0)) = x1
        generalize hx2 : List.take _ (List.drop (Int.toNat 0) (closed y0)) = x2
        have l1 : x1.length ≤ (closed y0).length := by rw [← hx1]; simp
        have l2 : x2.length ≤ (closed y0).length := by rw [← hx2]; simp; omega
        simp only [Open_eq k x1 (by omega) (by omega) (by omega), Open_eq k x2 (by omega) (by omega) (by omega), refOpen_eq k x1 (by omega) (by omega) (by omega), refOpen_eq k x2 (by omega) (by omega) (by omega), Option.bind_some, beq_self_eq_true, if_true, known_eq k (by omega)]
end Go.Proofs.Ytlkofkegbkkhbaa
