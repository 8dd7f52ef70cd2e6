/- The plain law MerkleOf. -/
import Derived.Test.YtbflmobpbjnekaaMd
namespace Go.Proofs.Ytbflmobpbjnekaa
open Go Fw
set_option linter.unusedVariables false
set_option linter.unusedSimpArgs false

theorem of_o_eq : merkle_Of_o = merkle_Of := rfl
theorem own_loop {k : Nat} (hk : 200 ≤ k) (L : List HS) (hl : L.length = 64) : loopO (fun s => law08_MerkleOf.b1 k L s.1 s.2) k (L, (0 : Int)) = some (.inl ()) := by
  have := loop_inv (body := fun s : List HS × Int => law08_MerkleOf.b1 k L s.1 s.2) (I := fun s => 0 ≤ s.2 ∧ s.2 ≤ 64 ∧ s.1.length = 64 ∧ ∀ b : Nat, s.2 ≤ (b : Int) → s.1[b]? = L[b]?) (m := fun s => (64 - s.2).toNat) (fun u => u = .inl ()) ?_ k (L, (0 : Int)) ⟨Int.le_refl _, by show (0 : Int) ≤ 64; omega, hl, fun _ _ => rfl⟩ (by show (64 - (0 : Int)).toNat < k; omega)
  · obtain ⟨u, h1, rfl⟩ := this; exact h1
  · rintro ⟨t, x⟩ ⟨h2, h3, h4, h5⟩
    simp only at h2 h3 h4 h5
    obtain ⟨n, rfl⟩ : ∃ n : Nat, x = n := ⟨x.toNat, by omega⟩
    by_cases hn : (n : Int) < (t.length : Int)
    · left
      have e1 : t[n]? = some (L[n]'(by omega)) := by rw [h5 n (by omega), List.getElem?_eq_getElem]
      refine ⟨(t.set n z32, ((n + 1 : Nat) : Int)), ?_, ⟨by show (0 : Int) ≤ _; omega, by show ((n + 1 : Nat) : Int) ≤ 64; omega, by simpa using h4, fun b hb => ?_⟩, by show (64 - ((n + 1 : Nat) : Int)).toNat < (64 - (n : Int)).toNat; omega⟩
      · simp only [law08_MerkleOf.b1, lt1, dec_t hn, if_true, inOn t n (by omega), e1, idxL_lt (show n < L.length by omega), eqH, decide_true, Bool.not_true, Bool.false_eq_true, if_false, setO'_ok (show n < t.length by omega), w64_succ (show n < 9223372036854775807 by omega), Option.bind_some]
      · have hb : ((n + 1 : Nat) : Int) ≤ b := hb
        show (t.set n z32)[b]? = _
        rw [List.getElem?_set, if_neg (by omega)]; exact h5 b (by omega)
    · right
      exact ⟨_, by simp only [law08_MerkleOf.b1, lt1, dec_f hn, Bool.false_eq_true, if_false], rfl⟩
theorem pure_MerkleOf (y0 : (List (Vector UInt8 32))) (f0 : (List.length y0 * 32 ≤ 140737488351232 ∧ ∀ z0 ∈ y0, (∀ (i : Nat) (h : i < 32), True))) : ∃ k, law08_MerkleOf k y0 = some true := by
  obtain ⟨k, hk⟩ : ∃ k : Nat, k = 4000 := ⟨_, rfl⟩
  refine ⟨k, ?_⟩
  by_cases h300 : (List.length y0 : Int) > 300
  · simp only [law08_MerkleOf, lt1, dec_t h300, if_true, known8 hk, Option.bind_some]
  · have h1 : apL 32 ([] : List HS) y0 = some y0 := by rw [apL_ok (by simp; omega)]; rfl
    by_cases hl : y0.length = 64
    · have hb : (((y0.length : Nat) : Int) != 64) = false := by rw [hl]; rfl
      obtain ⟨t, t1, t2, t3⟩ := of_eq hk y0 hl
      have b0 : ((0 : Int) == 0) = true := rfl
      simp only [law08_MerkleOf, lt1, dec_f h300, Bool.false_eq_true, if_false, h1, Option.bind_some, of_o_eq, t1, hb, own_loop (show 200 ≤ k by omega) y0 hl, num_eq, b0, if_true, stands_eq hk t y0 t2 t3, known8 hk, cond_true]
    · have b2 : ((2 : Int) == 2) = true := rfl
      simp only [law08_MerkleOf, lt1, dec_f h300, Bool.false_eq_true, if_false, h1, Option.bind_some, of_o_eq, of_bad k y0 hl, bne64.2 hl, if_true, num_eq, known8 hk, cond_true, b2]
end Go.Proofs.Ytbflmobpbjnekaa
