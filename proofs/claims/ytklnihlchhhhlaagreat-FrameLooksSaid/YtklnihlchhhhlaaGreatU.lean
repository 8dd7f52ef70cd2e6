/- Frames that are much. -/
import Derived.Test.YtklnihlchhhhlaaGreatQ
namespace Go.Proofs.YtklnihlchhhhlaaGreat
open Go Fw
set_option linter.unusedVariables false
set_option linter.unusedSimpArgs false

theorem muchEvent (k : Nat) (hk : 6000 ≤ k) (e : api_Event) : ∃ b, ref09_Much k e = some b ∧ (b = false → e.Topic.length ≤ 300 ∧ e.Payload.length ≤ 3000 ∧ e.To.length ≤ 3000) := by
  simp only [ref09_Much, lt1]
  by_cases h1 : e.Topic.length ≤ 300
  case neg => exact ⟨true, by rw [dec_t (show (e.Topic.length : Int) > 300 by omega)]; rfl, fun h => by cases h⟩
  by_cases h2 : e.Payload.length ≤ 3000
  case neg => exact ⟨true, by rw [dec_t (show (e.Payload.length : Int) > 3000 by omega)]; simp, fun h => by cases h⟩
  by_cases h3 : e.To.length ≤ 3000
  case neg => exact ⟨true, by rw [dec_t (show (e.To.length : Int) > 3000 by omega)]; simp, fun h => by cases h⟩
  have hlp := loop_inv (body := fun s : Int × Int => ref09_Much.b1 k e s.1 s.2) (I := fun s => 0 ≤ s.2 ∧ s.2 ≤ (e.To.length : Int) ∧ 0 ≤ s.1 ∧ s.1 ≤ 200000) (m := fun s => ((e.To.length : Int) - s.2).toNat) (fun r => r = .inl () ∨ r = .inr true) ?_ k ((0 : Int), (0 : Int)) ⟨Int.le_refl _, by show (0 : Int) ≤ _; omega, Int.le_refl _, by show (0 : Int) ≤ 200000; omega⟩ (by show ((e.To.length : Int) - (0 : Int)).toNat < k; omega)
  · simp only [dec_f (show ¬ (e.Topic.length : Int) > 300 by omega), dec_f (show ¬ (e.Payload.length : Int) > 3000 by omega), dec_f (show ¬ (e.To.length : Int) > 3000 by omega), Bool.false_eq_true, if_false, Option.bind_some]
    obtain ⟨r, g1, g2⟩ := hlp
    rcases g2 with rfl | rfl
    · exact ⟨false, by simp only [g1, Option.bind_some], fun _ => ⟨h1, h2, h3⟩⟩
    · exact ⟨true, by simp only [g1, Option.bind_some], fun h => by cases h⟩
  · rintro ⟨n, s⟩ ⟨h0, h4, h5, h6⟩
    simp only at h0 h4 h5 h6
    obtain ⟨i, rfl⟩ : ∃ i : Nat, s = i := ⟨s.toNat, by omega⟩
    by_cases hlt : i < e.To.length
    · have e1 : ∀ x : Nat, minI (x : Int) 200001 = ((min x 200001 : Nat) : Int) := fun x => by unfold minI; split <;> omega
      simp only [ref09_Much.b1, lt1, dec_t (show (i : Int) < (e.To.length : Int) by omega), if_true, idxL_lt hlt, Option.bind_some, e1]
      have w1 : w64 (n + ((min e.To[i].Device.length 200001 : Nat) : Int)) = n + ((min e.To[i].Device.length 200001 : Nat) : Int) := w64_id (by omega) (by omega)
      rw [w1]
      by_cases h7 : n + ((min e.To[i].Device.length 200001 : Nat) : Int) > 200000
      · right
        rw [dec_t h7]
        exact ⟨_, rfl, .inr rfl⟩
      · left
        rw [dec_f h7]
        simp only [Bool.false_eq_true, if_false, w64_succ (show i < 9223372036854775807 by omega)]
        exact ⟨_, rfl, ⟨by show (0 : Int) ≤ ((i + 1 : Nat) : Int); omega, by show ((i + 1 : Nat) : Int) ≤ _; omega, by show (0 : Int) ≤ n + _; omega, by show n + _ ≤ (200000 : Int); omega⟩, by show ((e.To.length : Int) - ((i + 1 : Nat) : Int)).toNat < ((e.To.length : Int) - (i : Int)).toNat; omega⟩
    · right
      simp only [ref09_Much.b1, lt1, dec_f (show ¬ (i : Int) < (e.To.length : Int) by omega), Bool.false_eq_true, if_false]
      exact ⟨_, rfl, .inl rfl⟩
def sizes (f : api_Frame) : Prop := f.Items.length ≤ 5000 ∧ f.Event.Topic.length ≤ 300 ∧ f.Event.Payload.length ≤ 3000 ∧ f.Event.To.length ≤ 3000 ∧ f.Extra.length ≤ 5000 ∧ f.Live.length ≤ 5000 ∧ f.Leaves.length ≤ 300 ∧ f.Buckets.length ≤ 300
theorem sizes_short {k : Nat} (hk : 6000 ≤ k) {f : api_Frame} (h : sizes f) : shortF k f := by
  obtain ⟨h1, h2, h3, h4, h5, h6, h7, h8⟩ := h
  exact ⟨⟨by omega, by omega⟩, ⟨by omega, by omega⟩, ⟨by omega, by omega⟩, ⟨by omega, by omega⟩, ⟨by omega, by omega⟩, ⟨by omega, by omega⟩, ⟨by omega, by omega⟩⟩
theorem much_eq (k : Nat) (hk : 6000 ≤ k) (f : api_Frame) : ∃ b, ref11_Much k f = some b ∧ (b = false → sizes f) := by
  obtain ⟨l, h1, h1'⟩ := long_eq k hk f.Items
  obtain ⟨m, h2, h2'⟩ := muchEvent k hk f.Event
  simp only [ref11_Much, lt1, h1, h2, Option.bind_some]
  cases l
  case true => exact ⟨true, rfl, fun h => by cases h⟩
  cases m
  case true => exact ⟨true, by simp, fun h => by cases h⟩
  have h1 := h1' rfl
  have h2 := h2' rfl
  by_cases h3 : f.Extra.length ≤ 5000
  case neg => exact ⟨true, by rw [dec_t (show (f.Extra.length : Int) > 5000 by omega)]; simp, fun h => by cases h⟩
  by_cases h4 : f.Live.length ≤ 5000
  case neg => exact ⟨true, by rw [dec_t (show (f.Live.length : Int) > 5000 by omega)]; simp, fun h => by cases h⟩
  by_cases h5 : f.Leaves.length ≤ 300
  case neg => exact ⟨true, by rw [dec_t (show (f.Leaves.length : Int) > 300 by omega)]; simp, fun h => by cases h⟩
  by_cases h6 : f.Buckets.length ≤ 300
  case neg => exact ⟨true, by rw [dec_t (show (f.Buckets.length : Int) > 300 by omega)]; simp, fun h => by cases h⟩
  exact ⟨false, by rw [dec_f (show ¬ (f.Extra.length : Int) > 5000 by omega), dec_f (show ¬ (f.Live.length : Int) > 5000 by omega), dec_f (show ¬ (f.Leaves.length : Int) > 300 by omega), dec_f (show ¬ (f.Buckets.length : Int) > 300 by omega)]; simp, fun _ => ⟨h1, h2.1, h2.2.1, h2.2.2, h3, h4, h5, h6⟩⟩
end Go.Proofs.YtklnihlchhhhlaaGreat
