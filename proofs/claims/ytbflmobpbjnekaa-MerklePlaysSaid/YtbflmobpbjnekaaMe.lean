/- Steps that are not too many. -/
import Derived.Test.YtbflmobpbjnekaaMd
namespace Go.Proofs.Ytbflmobpbjnekaa
open Go Fw
set_option linter.unusedVariables false
set_option linter.unusedSimpArgs false

theorem much8 {k : Nat} (hk : 200 ≤ k) (l : List law08_Step) : ∃ b, law08_much k l = some b ∧ (b = false → l.length ≤ 40 ∧ ∀ j (h : j < l.length), l[j].B.length ≤ 9000) := by
  have := loop_inv (body := fun s : Int × Int => law08_much.b1 k l s.1 s.2) (I := fun s => 0 ≤ s.2 ∧ s.2 ≤ 41 ∧ 0 ≤ s.1 ∧ s.1 ≤ 9001 * s.2 ∧ ∀ (j : Nat) (h : j < l.length), (j : Int) < s.2 → minI (l[j].B.length : Int) 9001 ≤ s.1) (m := fun s => (41 - s.2).toNat)
    (fun n => l.length ≤ 40 → ∀ (j : Nat) (h : j < l.length), minI (l[j].B.length : Int) 9001 ≤ n) ?_ k ((0 : Int), (0 : Int)) ⟨Int.le_refl _, by show (0 : Int) ≤ 41; omega, Int.le_refl _, by show (0 : Int) ≤ 9001 * 0; omega, fun j h hj => by have : (j : Int) < 0 := hj; omega⟩ (by show (41 - (0 : Int)).toNat < k; omega)
  · obtain ⟨n, h1, h2⟩ := this
    refine ⟨_, by simp only [law08_much, h1, Option.bind_some, lt1]; rfl, fun hb => ?_⟩
    by_cases hn : n > 9000
    · rw [dec_t hn] at hb; cases hb
    · rw [dec_f hn] at hb
      have hl : ¬ ((l.length : Int) > 40) := of_decide_eq_false hb
      refine ⟨by omega, fun j h => ?_⟩
      have h3 := h2 (by omega) j h
      unfold minI at h3
      split at h3 <;> omega
  · rintro ⟨n, x⟩ ⟨h2, h3, h4, h5, h6⟩
    simp only at h2 h3 h4 h5 h6
    obtain ⟨i, rfl⟩ : ∃ i : Nat, x = i := ⟨x.toNat, by omega⟩
    by_cases hi : (i : Int) < (l.length : Int)
    · by_cases h40 : (i : Int) ≤ 40
      · left
        have hm : 0 ≤ minI (l[i].B.length : Int) 9001 ∧ minI (l[i].B.length : Int) 9001 ≤ 9001 := by unfold minI; split <;> omega
        have e1 : w64 (n + minI (l[i].B.length : Int) 9001) = n + minI (l[i].B.length : Int) 9001 := w64_id (by omega) (by omega)
        refine ⟨(n + minI (l[i].B.length : Int) 9001, ((i + 1 : Nat) : Int)), ?_, ⟨by show (0 : Int) ≤ _; omega, by show ((i + 1 : Nat) : Int) ≤ 41; omega, by show (0 : Int) ≤ n + _; omega, by show n + minI (l[i].B.length : Int) 9001 ≤ 9001 * ((i + 1 : Nat) : Int); omega, fun j h hj => ?_⟩, by show (41 - ((i + 1 : Nat) : Int)).toNat < (41 - (i : Int)).toNat; omega⟩
        · simp only [law08_much.b1, lt1, dec_t hi, dec_t h40, cond_true, Option.bind_some, if_true, idxL_lt (show i < l.length by omega), e1, w64_succ (show i < 9223372036854775807 by omega)]
        · have hj : (j : Int) < ((i + 1 : Nat) : Int) := hj
          show _ ≤ n + _
          by_cases hji : j = i
          · subst hji; omega
          · have := h6 j h (by omega); omega
      · right
        refine ⟨n, by simp only [law08_much.b1, lt1, dec_t hi, dec_f h40, cond_true, Option.bind_some, Bool.false_eq_true, if_false], fun h => by omega⟩
    · right
      refine ⟨n, by simp only [law08_much.b1, lt1, dec_f hi, cond_false, Option.bind_some, Bool.false_eq_true, if_false], fun h j hj => h6 j hj (by omega)⟩
/-- A step, done to a tree. -/
theorem step_eq {k : Nat} (hk : k = 4000) (t : merkle_Tree) (L : List HS) (hi : t.is = true) (h : GL t.n.toList L) (b : Int) (m : List UInt8) (hm : m.length ≤ 100000) :
    (b < 0 ∨ b ≥ 64) ∧ merkle_Tree_Set k b m t = some (2, t) ∨ ∃ (n : Nat) (t' : merkle_Tree), b = n ∧ n < 64 ∧ merkle_Tree_Set k b m t = some (0, t') ∧ t'.is = true ∧ GL t'.n.toList (L.set n (lf n m)) := by
  by_cases hb : b < 0 ∨ b ≥ 64
  · exact .inl ⟨hb, set_bad k t hi b hb m⟩
  · obtain ⟨n, rfl⟩ : ∃ n : Nat, b = n := ⟨b.toNat, by omega⟩
    obtain ⟨t', h1, h2, h3⟩ := set_eq hk t L hi h n (by omega) m hm
    exact .inr ⟨n, t', rfl, by omega, h1, h2, h3⟩
end Go.Proofs.Ytbflmobpbjnekaa
