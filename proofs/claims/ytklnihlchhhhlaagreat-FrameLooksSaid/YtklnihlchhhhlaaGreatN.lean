/- The sum comes back. -/
import Derived.Test.YtklnihlchhhhlaaGreatM
namespace Go.Proofs.YtklnihlchhhhlaaGreat
open Go Fw
set_option linter.unusedVariables false
set_option linter.unusedSimpArgs false

theorem inN_ok16 {i : Nat} (h : i < 16) : inN 16 i = some ⟨i, h⟩ := by unfold inN; rw [dif_pos h]
theorem four_tot (k : Nat) (hk : 5 ≤ k) (x : UInt32) : ∃ y, loopO (fun s => crc_fours.b2 k s.1 s.2) k (x, (0 : Int)) = some y := by
  have := loop_inv (body := fun s : UInt32 × Int => crc_fours.b2 k s.1 s.2) (I := fun s => 0 ≤ s.2 ∧ s.2 ≤ 4) (m := fun s => (4 - s.2).toNat) (fun _ => True) ?_ k (x, (0 : Int)) ⟨Int.le_refl _, by show (0 : Int) ≤ 4; omega⟩ (by show (4 - (0 : Int)).toNat < k; omega)
  · obtain ⟨t, h1, _⟩ := this
    exact ⟨t, h1⟩
  · rintro ⟨y, s⟩ ⟨h0, h1⟩
    simp only at h0 h1
    obtain ⟨i, rfl⟩ : ∃ i : Nat, s = i := ⟨s.toNat, by omega⟩
    by_cases hlt : (i : Int) < 4
    · left
      have fin : ∀ z : UInt32, ∃ s', (some (.inl (z, ((i + 1 : Nat) : Int))) : Option ((UInt32 × Int) ⊕ UInt32)) = some (.inl s') ∧ (0 ≤ s'.2 ∧ s'.2 ≤ 4) ∧ (4 - s'.2).toNat < (4 - (i : Int)).toNat := fun z => ⟨_, rfl, ⟨by show (0 : Int) ≤ ((i + 1 : Nat) : Int); omega, by show ((i + 1 : Nat) : Int) ≤ 4; omega⟩, by show (4 - ((i + 1 : Nat) : Int)).toNat < _; omega⟩
      simp only [crc_fours.b2, lt1, dec_t hlt, if_true, w64_succ (show i < 9223372036854775807 by omega)]
      by_cases hb : ((y &&& 1) == 1) = true
      · rw [if_pos hb]; exact fin _
      · rw [if_neg hb]; exact fin _
    · right
      simp only [crc_fours.b2, lt1, dec_f hlt, Bool.false_eq_true, if_false]
      exact ⟨_, rfl, trivial⟩
theorem fours_tot (k : Nat) (hk : 17 ≤ k) : ∃ v, crc_fours k = some v := by
  have := loop_inv (body := fun s : Vector UInt32 16 × UInt32 => crc_fours.b1 k s.1 s.2) (I := fun s => s.2.toNat ≤ 16) (m := fun s => 16 - s.2.toNat) (fun _ => True) ?_ k (Vector.replicate 16 (0 : UInt32), (0 : UInt32)) (by show (0 : UInt32).toNat ≤ 16; decide) (by show 16 - (0 : UInt32).toNat < k; have : (0 : UInt32).toNat = 0 := rfl; omega)
  · obtain ⟨t, h1, _⟩ := this
    exact ⟨t, by simp only [crc_fours, h1, Option.bind_some]⟩
  · rintro ⟨f, x⟩ h0
    simp only at h0
    by_cases hlt : x < 16
    · left
      have hx : x.toNat < 16 := by have := UInt32.lt_iff_toNat_lt.1 hlt; exact this
      obtain ⟨y, hy⟩ := four_tot k (by omega) x
      have hi : inN 16 (UN.toN x) = some ⟨x.toNat, hx⟩ := inN_ok16 hx
      have ha : (x + 1).toNat = x.toNat + 1 := by rw [UInt32.toNat_add]; have : (1 : UInt32).toNat = 1 := rfl; rw [this]; omega
      simp only [crc_fours.b1, lt1, decide_eq_true hlt, if_true, hy, hi, Option.bind_some]
      exact ⟨_, rfl, by show (x + 1).toNat ≤ 16; omega, by show 16 - (x + 1).toNat < 16 - x.toNat; omega⟩
    · right
      simp only [crc_fours.b1, lt1, decide_eq_false hlt, Bool.false_eq_true, if_false]
      exact ⟨_, rfl, trivial⟩
theorem and15 (x : UInt32) : (x &&& 15).toNat < 16 := by
  rw [UInt32.toNat_and]
  exact Nat.lt_of_le_of_lt Nat.and_le_right (by decide)
theorem sum_tot (k : Nat) (hk : 17 ≤ k) (w : UInt32) (b : List UInt8) (hb : b.length < k) (hl : b.length ≤ 1000000) : ∃ s, crc_sum k w b = some s := by
  obtain ⟨v, hv⟩ := fours_tot k hk
  have := loop_inv (body := fun s : UInt32 × Int => crc_sum.b1 k b v s.1 s.2) (I := fun s => 0 ≤ s.2 ∧ s.2 ≤ (b.length : Int)) (m := fun s => ((b.length : Int) - s.2).toNat) (fun _ => True) ?_ k (UN.not w, (0 : Int)) ⟨Int.le_refl _, by show (0 : Int) ≤ _; omega⟩ (by show ((b.length : Int) - 0).toNat < k; omega)
  · obtain ⟨t, h1, _⟩ := this
    exact ⟨UN.not t, by simp only [crc_sum, hv, h1, Option.bind_some, lt1]⟩
  · rintro ⟨y, s⟩ ⟨h0, h1⟩
    simp only at h0 h1
    obtain ⟨i, rfl⟩ : ∃ i : Nat, s = i := ⟨s.toNat, by omega⟩
    by_cases hlt : i < b.length
    · left
      have hi : ∀ z : UInt32, inN 16 (UN.toN (z &&& 15)) = some ⟨(z &&& 15).toNat, and15 z⟩ := fun z => inN_ok16 (and15 z)
      simp only [crc_sum.b1, lt1, dec_t (show (i : Int) < (b.length : Int) by omega), if_true, idxL_lt hlt, hi, Option.bind_some, w64_succ (show i < 9223372036854775807 by omega)]
      exact ⟨_, rfl, ⟨by show (0 : Int) ≤ ((i + 1 : Nat) : Int); omega, by show ((i + 1 : Nat) : Int) ≤ _; omega⟩, by show ((b.length : Int) - ((i + 1 : Nat) : Int)).toNat < ((b.length : Int) - (i : Int)).toNat; omega⟩
    · right
      simp only [crc_sum.b1, lt1, dec_f (show ¬ (i : Int) < (b.length : Int) by omega), Bool.false_eq_true, if_false]
      exact ⟨_, rfl, trivial⟩
end Go.Proofs.YtklnihlchhhhlaaGreat
