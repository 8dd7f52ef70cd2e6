/- The plain law FramesSum. -/
import Derived.Test.YtlkofkegbkkhbaaFa
import Derived.Test.YtlkofkegbkkhbaaH
namespace Go.Proofs.Ytlkofkegbkkhbaa
open Go Fw Crc
set_option linter.unusedSimpArgs false
set_option linter.unusedVariables false

theorem len_le_flat {l : List (List UInt8)} {b : List UInt8} (h : b ∈ l) : b.length ≤ l.flatten.length := by
  induction l with
  | nil => cases h
  | cons a l ih =>
    rw [List.flatten_cons, List.length_append]
    rcases List.mem_cons.1 h with rfl | h
    · omega
    · have := ih h; omega
theorem pure_FramesSum (y0 : (List (List UInt8))) (f0 : (List.length y0 * 24 ≤ 140737488351232 ∧ ∀ z0 ∈ y0, (List.length z0 * 1 ≤ 140737488351232 ∧ ∀ z1 ∈ z0, True))) : ∃ k, law02_FramesSum k y0 = some true := by
  refine ⟨40 + y0.length + y0.flatten.length, ?_⟩
  generalize hk : 40 + y0.length + y0.flatten.length = k
  obtain ⟨hl, hb⟩ := f0
  obtain ⟨t, ht, hp⟩ := loop_inv (body := fun s : Int × List UInt8 => law02_FramesSum.b1 k y0 s.1 s.2) (fun s => ∃ j, j ≤ y0.length ∧ s = ((j : Int), (y0.take j).flatten) ∧ (y0.take j).flatten.length ≤ 1500) (fun s => y0.length - s.1.toNat)
    (fun t => (t = .inl y0.flatten ∧ y0.flatten.length ≤ 1500) ∨ t = .inr true) (fun s ⟨j, hj, hs, hlen⟩ => by
      subst hs
      show (∃ s', law02_FramesSum.b1 k y0 (j : Int) _ = _ ∧ _) ∨ ∃ t, law02_FramesSum.b1 k y0 (j : Int) _ = _ ∧ _
      by_cases h : j < y0.length
      · have h1 : (j : Int) < (y0.length : Int) := by omega
        have hbj := (hb _ (List.getElem_mem h)).1
        have hw : w64 (((y0.take j).flatten.length : Int) + (y0[j].length : Int)) = ((y0.take j).flatten.length : Int) + (y0[j].length : Int) := w64_id (by omega) (by omega)
        by_cases h2 : ((y0.take j).flatten.length : Int) + (y0[j].length : Int) > 1500
        · right
          refine ⟨.inr true, ?_, .inr rfl⟩
          unfold law02_FramesSum.b1
          simp only [lt1, dec_t h1, if_true, idxL_lt h, Option.bind_some, hw, dec_t h2, known_eq k (by omega)]
        · left
          refine ⟨(((j + 1 : Nat) : Int), (y0.take (j + 1)).flatten), ?_, ⟨j + 1, h, rfl, ?_⟩, ?_⟩
          · unfold law02_FramesSum.b1
            simp only [lt1, dec_t h1, if_true, idxL_lt h, Option.bind_some, hw, dec_f h2, Bool.false_eq_true, if_false]
            rw [apL_ok (by omega), w64_succ (by omega), take_succ' h, List.flatten_append, List.flatten_singleton]
            rfl
          · rw [take_succ' h, List.flatten_append, List.flatten_singleton, List.length_append]; omega
          · show y0.length - (((j + 1 : Nat) : Int)).toNat < y0.length - ((j : Int)).toNat
            omega
      · right
        have hj2 : j = y0.length := by omega
        subst hj2
        rw [List.take_length] at hlen ⊢
        refine ⟨.inl y0.flatten, ?_, .inl ⟨rfl, hlen⟩⟩
        unfold law02_FramesSum.b1
        simp [lt1]) k ((0 : Int), []) ⟨0, by omega, rfl, by simp⟩ (by show y0.length - 0 < k; omega)
  unfold law02_FramesSum
  rw [ht]
  rcases hp with ⟨rfl, hlen⟩ | rfl
  · have hle : ∀ b ∈ y0, b.length < k := fun b h => by have := len_le_flat h; omega
    have c1 := Close_eq k y0 (by omega) (by omega) (by omega) (by omega) (by omega)
    have c2 := Sum_eq k y0 (by omega) (fun b h => by have := len_le_flat h; omega) (by omega) (by omega) hle
    have c3 := refSum_eq k y0.flatten (by omega) (by omega) (by omega)
    have c4 := Sum_eq k [y0.flatten] (by simp) (by simp only [List.mem_singleton]; intro b h; subst h; omega) (by omega) (by simp; omega) (by simp only [List.mem_singleton]; intro b h; subst h; omega)
    have c5 := refClose_eq k y0.flatten (by omega) (by omega) (by omega)
    have hcl := closed_length y0.flatten
    have c6 := Sum_eq k [closed y0.flatten] (by simp) (by simp only [List.mem_singleton]; intro b h; subst h; omega) (by omega) (by simp; omega) (by simp only [List.mem_singleton]; intro b h; subst h; omega)
    have c7 := Residue_eq k (by omega)
    rw [List.flatten_singleton] at c4 c6
    rw [csum_closed] at c6
    simp only [Option.bind_some, c1, c2, c3, c4, c5, c6, c7, lt1, beq_self_eq_true, if_true, known_eq k (by omega)]
  · rfl
end Go.Proofs.Ytlkofkegbkkhbaa
