/- The plain law FramesBack. -/
import Derived.Test.YtlkofkegbkkhbaaFa
import Derived.Test.YtlkofkegbkkhbaaH
namespace Go.Proofs.Ytlkofkegbkkhbaa
open Go Fw Crc
set_option linter.unusedSimpArgs false
set_option linter.unusedVariables false

/-- Closed so many times. -/
def itc (b : List UInt8) : Nat → List UInt8
  | 0 => b
  | n + 1 => closed (itc b n)
theorem itc_length (b : List UInt8) : ∀ n, (itc b n).length = b.length + 4 * n
  | 0 => rfl
  | n + 1 => by show (closed (itc b n)).length = _; rw [closed_length, itc_length b n]; omega
theorem pure_FramesBack (y0 : (List UInt8)) (y1 : Int) (f0 : (List.length y0 * 1 ≤ 140737488351232 ∧ ∀ z0 ∈ y0, True)) (f1 : (IntKind.min .i64 ≤ y1 ∧ y1 ≤ IntKind.max .i64)) : ∃ k, law02_FramesBack k y0 y1 = some true := by
  refine ⟨100 + y0.length, ?_⟩
  generalize hk : 100 + y0.length = k
  obtain ⟨hl, _⟩ := f0
  unfold law02_FramesBack
  simp only [lt1]
  by_cases h : (y0.length : Int) > 800
  · simp only [dec_t h, if_true, Option.bind_some, known_eq k (by omega)]
  · by_cases h2 : y1 < 0
    · simp only [dec_f h, dec_t h2, Bool.false_eq_true, if_false, if_true, Option.bind_some, known_eq k (by omega)]
    · by_cases h3 : y1 > 6
      · simp only [dec_f h, dec_f h2, dec_t h3, Bool.false_eq_true, if_false, if_true, Option.bind_some, known_eq k (by omega)]
      · obtain ⟨n, rfl⟩ : ∃ n : Nat, y1 = (n : Int) := ⟨y1.toNat, by omega⟩
        have a1 := loop_g (body := fun s : List UInt8 × Int => law02_FramesBack.b1 k (n : Int) s.1 s.2) (fun i => (itc y0 i, (i : Int))) n (itc y0 n) (s0 := (y0, (0 : Int))) rfl (fun i hi => by
          show law02_FramesBack.b1 k (n : Int) (itc y0 i) (i : Int) = _
          unfold law02_FramesBack.b1
          have g1 : (i : Int) < (n : Int) := by omega
          have hlen := itc_length y0 i
          have c1 := Close_eq k [itc y0 i] (by simp) (by simp; omega) (by omega) (by simp; omega) (by simp; omega)
          rw [List.flatten_singleton] at c1
          simp only [lt1, dec_t g1, if_true, c1, Option.bind_some]
          rw [w64_succ (by omega)]
          rfl) (by
          show law02_FramesBack.b1 k (n : Int) (itc y0 n) (n : Int) = _
          unfold law02_FramesBack.b1
          simp [lt1]) (k := k) (by omega)
        have hlen := itc_length y0 n
        have w1 : w64 (4 * (n : Int)) = 4 * (n : Int) := w64_id (by omega) (by omega)
        have w2 : w64 ((y0.length : Int) + 4 * (n : Int)) = (y0.length : Int) + 4 * (n : Int) := w64_id (by omega) (by omega)
        have w3 : (((itc y0 n).length : Int) != (y0.length : Int) + 4 * (n : Int)) = false := by
          rw [hlen]; simp
        have a2 := loop_g (body := fun s : List UInt8 × Int => law02_FramesBack.b2 k (n : Int) s.1 s.2) (fun i => (itc y0 (n - i), (i : Int))) n (.inl y0 : List UInt8 ⊕ Bool) (s0 := (itc y0 n, (0 : Int))) rfl (fun i hi => by
          show law02_FramesBack.b2 k (n : Int) (itc y0 (n - i)) (i : Int) = _
          unfold law02_FramesBack.b2
          have g1 : (i : Int) < (n : Int) := by omega
          have hlen := itc_length y0 (n - i)
          obtain ⟨m, hm⟩ : ∃ m, n - i = m + 1 := ⟨n - i - 1, by omega⟩
          have c1 := Open_eq k (itc y0 (n - i)) (by omega) (by omega) (by omega)
          rw [hm] at c1
          have c2 : opened (itc y0 (m + 1)) = (itc y0 m, true) := opened_closed _
          rw [c2] at c1
          rw [hm, show n - (i + 1) = m by omega]
          simp only [lt1, dec_t g1, if_true, c1, Option.bind_some, Bool.not_true, Bool.false_eq_true, if_false]
          rw [w64_succ (by omega)]) (by
          show law02_FramesBack.b2 k (n : Int) (itc y0 (n - n)) (n : Int) = _
          rw [Nat.sub_self]
          unfold law02_FramesBack.b2
          simp [lt1, itc]) (k := k) (by omega)
        simp only [dec_f h, dec_f h2, dec_f h3, Bool.false_eq_true, if_false, Option.bind_some, a1, w1, w2, w3, a2, beq_self_eq_true, if_true, known_eq k (by omega)]
end Go.Proofs.Ytlkofkegbkkhbaa
