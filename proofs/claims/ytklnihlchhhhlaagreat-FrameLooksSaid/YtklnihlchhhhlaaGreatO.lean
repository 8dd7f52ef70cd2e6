/- Lists that are long. -/
import Derived.Test.YtklnihlchhhhlaaGreatB
import Derived.Test.YtklnihlchhhhlaaGreatG
namespace Go.Proofs.YtklnihlchhhhlaaGreat
open Go Fw
set_option linter.unusedVariables false
set_option linter.unusedSimpArgs false

theorem long_eq (k : Nat) (hk : 6000 ≤ k) (l : List api_Item) : ∃ b, ref11_Long k l = some b ∧ (b = false → l.length ≤ 5000) := by
  have hlp := loop_inv (body := fun s : Int × Int => ref11_Long.b1 k l s.1 s.2) (I := fun s => 0 ≤ s.2 ∧ s.2 ≤ (l.length : Int) ∧ s.2 ≤ 5001 ∧ 0 ≤ s.1 ∧ s.1 ≤ 200000) (m := fun s => (5002 - s.2).toNat) (fun r => r = .inl () ∨ r = .inr true) ?_ k ((0 : Int), (0 : Int)) ⟨Int.le_refl _, by show (0 : Int) ≤ _; omega, by show (0 : Int) ≤ 5001; omega, Int.le_refl _, by show (0 : Int) ≤ 200000; omega⟩ (by show (5002 - (0 : Int)).toNat < k; omega)
  · obtain ⟨r, h1, h2⟩ := hlp
    rcases h2 with rfl | rfl
    · refine ⟨decide ((l.length : Int) > 5000), by simp only [ref11_Long, h1, Option.bind_some, lt1], fun h => ?_⟩
      have := of_decide_eq_false h
      omega
    · exact ⟨true, by simp only [ref11_Long, h1, Option.bind_some], fun h => by cases h⟩
  · rintro ⟨n, s⟩ ⟨h0, h1, h2, h3, h4⟩
    simp only at h0 h1 h2 h3 h4
    obtain ⟨i, rfl⟩ : ∃ i : Nat, s = i := ⟨s.toNat, by omega⟩
    by_cases hlt : i < l.length
    · by_cases h5 : i ≤ 5000
      · have e1 : ∀ x : Nat, minI (x : Int) 200001 = ((min x 200001 : Nat) : Int) := fun x => by unfold minI; split <;> omega
        simp only [ref11_Long.b1, lt1, dec_t (show (i : Int) < (l.length : Int) by omega), dec_t (show (i : Int) ≤ 5000 by omega), cond_true, Option.bind_some, if_true, idxL_lt hlt, e1]
        have w1 : w64 (n + ((min l[i].Key.Topic.length 200001 : Nat) : Int)) = n + ((min l[i].Key.Topic.length 200001 : Nat) : Int) := w64_id (by omega) (by omega)
        rw [w1]
        have w2 : w64 (n + ((min l[i].Key.Topic.length 200001 : Nat) : Int) + ((min l[i].Key.Device.length 200001 : Nat) : Int)) = n + ((min l[i].Key.Topic.length 200001 : Nat) : Int) + ((min l[i].Key.Device.length 200001 : Nat) : Int) := w64_id (by omega) (by omega)
        rw [w2]
        by_cases h6 : n + ((min l[i].Key.Topic.length 200001 : Nat) : Int) + ((min l[i].Key.Device.length 200001 : Nat) : Int) > 200000
        · right
          rw [dec_t h6]
          exact ⟨_, rfl, .inr rfl⟩
        · left
          rw [dec_f h6]
          simp only [Bool.false_eq_true, if_false, w64_succ (show i < 9223372036854775807 by omega)]
          exact ⟨_, rfl, ⟨by show (0 : Int) ≤ ((i + 1 : Nat) : Int); omega, by show ((i + 1 : Nat) : Int) ≤ _; omega, by show ((i + 1 : Nat) : Int) ≤ 5001; omega, by show (0 : Int) ≤ n + _ + _; omega, by show n + _ + _ ≤ (200000 : Int); omega⟩, by show (5002 - ((i + 1 : Nat) : Int)).toNat < (5002 - (i : Int)).toNat; omega⟩
      · right
        simp only [ref11_Long.b1, lt1, dec_t (show (i : Int) < (l.length : Int) by omega), dec_f (show ¬ (i : Int) ≤ 5000 by omega), cond_true, Option.bind_some, Bool.false_eq_true, if_false]
        exact ⟨_, rfl, .inl rfl⟩
    · right
      simp only [ref11_Long.b1, lt1, dec_f (show ¬ (i : Int) < (l.length : Int) by omega), cond_false, Option.bind_some, Bool.false_eq_true, if_false]
      exact ⟨_, rfl, .inl rfl⟩
end Go.Proofs.YtklnihlchhhhlaaGreat
