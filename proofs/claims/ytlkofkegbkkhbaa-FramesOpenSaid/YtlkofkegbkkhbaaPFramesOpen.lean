/- The plain law FramesOpen. -/
import Derived.Test.YtlkofkegbkkhbaaFa
import Derived.Test.YtlkofkegbkkhbaaH
namespace Go.Proofs.Ytlkofkegbkkhbaa
open Go Fw Crc
set_option linter.unusedSimpArgs false
set_option linter.unusedVariables false

theorem pure_FramesOpen (y0 : (List UInt8)) (f0 : (List.length y0 * 1 ≤ 140737488351232 ∧ ∀ z0 ∈ y0, True)) : ∃ k, law02_FramesOpen k y0 = some true := by
  refine ⟨40 + y0.length, ?_⟩
  generalize hk : 40 + y0.length = k
  obtain ⟨hl, _⟩ := f0
  unfold law02_FramesOpen
  by_cases h : (y0.length : Int) > 1500
  · simp only [lt1, dec_t h, if_true, known_eq k (by omega), Option.bind_some]
  · have c1 := Open_eq k y0 (by omega) (by omega) (by omega)
    have c2 := refOpen_eq k y0 (by omega) (by omega) (by omega)
    have c3 := Sum_eq k [y0] (by simp) (by simp only [List.mem_singleton]; intro b h; subst h; omega) (by omega) (by simp; omega) (by simp only [List.mem_singleton]; intro b h; subst h; omega)
    have c4 := Residue_eq k (by omega)
    rw [List.flatten_singleton] at c3
    have hol : (opened y0).1.length ≤ y0.length := by
      unfold opened
      split
      · simp
      · simp
    obtain ⟨t, ht, _⟩ := loop_inv (body := fun s : Int × List UInt8 => law02_FramesOpen.b1 k s.1 s.2) (fun s => ∃ j : Nat, s.1 = (j : Int) ∧ j ≤ s.2.length ∧ s.2.length ≤ y0.length) (fun s => s.2.length - s.1.toNat) (fun _ => True) (fun s hs => by
      obtain ⟨i, x⟩ := s
      obtain ⟨j, hj, hjl, hx⟩ := hs
      simp only at hj hjl hx
      subst hj
      show (∃ s', law02_FramesOpen.b1 k (j : Int) x = _ ∧ _) ∨ ∃ t, law02_FramesOpen.b1 k (j : Int) x = _ ∧ _
      by_cases h2 : j < x.length
      · left
        have h1 : (j : Int) < (x.length : Int) := by omega
        have hin : inO x (j : Int) = some j := by rw [inO_ok (by omega) (by omega)]; simp
        refine ⟨(((j + 1 : Nat) : Int), x.set j (x[j] + 1)), ?_, ⟨j + 1, rfl, by simp; omega, by simpa using hx⟩, ?_⟩
        · unfold law02_FramesOpen.b1
          simp only [lt1, dec_t h1, if_true, hin, Option.bind_some, List.getElem?_eq_getElem h2, setO'_ok h2]
          rw [w64_succ (by omega)]
        · show (x.set j _).length - (((j + 1 : Nat) : Int)).toNat < x.length - ((j : Int)).toNat
          rw [List.length_set]; omega
      · right
        refine ⟨(), ?_, trivial⟩
        have h1 : ¬ (j : Int) < (x.length : Int) := by omega
        unfold law02_FramesOpen.b1
        simp only [lt1, dec_f h1, Bool.false_eq_true, if_false]) k ((0 : Int), (opened y0).1) ⟨0, rfl, by omega, hol⟩ (by show (opened y0).1.length - 0 < k; omega)
    have hy : (opened y0).2 = (decide (4 ≤ y0.length) && (csum y0 == resid)) := by
      unfold opened
      by_cases h4 : 4 ≤ y0.length <;> by_cases hr : csum y0 = resid <;> simp [h4, hr]
    simp only [lt1, dec_f h, Bool.false_eq_true, if_false, c1, c2, c3, c4, Option.bind_some, bne_self_eq_false]
    by_cases h4 : 4 ≤ y0.length
    · have g : (y0.length : Int) ≥ 4 := by omega
      rw [hy]
      simp only [dec_t g, if_true, dec_t h4, Bool.true_and, bne_self_eq_false, Option.bind_some, Bool.false_eq_true, if_false, ht, beq_self_eq_true, known_eq k (by omega)]
    · have g : ¬ (y0.length : Int) ≥ 4 := by omega
      rw [hy]
      simp only [dec_f g, dec_f h4, Bool.false_eq_true, if_false, Bool.false_and, bne_self_eq_false, Option.bind_some, ht, beq_self_eq_true, if_true, known_eq k (by omega)]
end Go.Proofs.Ytlkofkegbkkhbaa
