/- Texts of hashes. -/
import Derived.Test.YtbflmobpbjnekaaR
namespace Go.Proofs.Ytbflmobpbjnekaa
open Go Fw
set_option linter.unusedVariables false
set_option linter.unusedSimpArgs false

theorem equal_eq (k : Nat) (hk : 200 ≤ k) (a b : Vector UInt8 32) : sha_Equal k a b = some (decide (a = b)) := by
  have hl : ∃ t, loopO (fun s => sha_Equal.b1 k a b s.1 s.2) k ((0 : UInt8), (0 : Int)) = some t ∧ (t = 0 ↔ a = b) := by
    refine loop_inv (I := fun s : UInt8 × Int => 0 ≤ s.2 ∧ s.2 ≤ 32 ∧ (s.1 = 0 ↔ ∀ (i : Nat) (h : i < 32), (i : Int) < s.2 → a[i] = b[i])) (m := fun s => (32 - s.2).toNat) _ ?_ k _ ⟨by show (0 : Int) ≤ 0; omega, by show (0 : Int) ≤ 32; omega, ⟨fun _ i _ h => by have : (i : Int) < 0 := h; omega, fun _ => rfl⟩⟩ (by show (32 - (0 : Int)).toNat < k; omega)
    rintro ⟨x, s⟩ ⟨h0, h1, h2⟩
    simp only at h0 h1 h2
    by_cases hlt : s < 32
    · left
      obtain ⟨i, rfl⟩ : ∃ i : Nat, s = i := ⟨s.toNat, by omega⟩
      have hi : i < 32 := by omega
      have hx : inV 32 (i : Int) = some ⟨i, hi⟩ := inV_ok (by omega) (by simpa using hi)
      simp only [sha_Equal.b1, lt1, dec_t hlt, if_true, hx, getV, Option.bind_some, w64_succ (show i < 9223372036854775807 by omega)]
      refine ⟨_, rfl, ⟨by show (0 : Int) ≤ ((i + 1 : Nat) : Int); omega, by show ((i + 1 : Nat) : Int) ≤ 32; omega, ?_⟩, by show (32 - ((i + 1 : Nat) : Int)).toNat < (32 - (i : Int)).toNat; omega⟩
      show (x ||| (a[i] ^^^ b[i])) = 0 ↔ ∀ (j : Nat) (h : j < 32), (j : Int) < ((i + 1 : Nat) : Int) → a[j] = b[j]
      rw [UInt8.or_eq_zero_iff, UInt8.xor_eq_zero_iff, h2]
      constructor
      · rintro ⟨h3, h4⟩ j hj hlt
        by_cases hji : j = i
        · subst hji; exact h4
        · exact h3 j hj (by omega)
      · intro h3
        exact ⟨fun j hj hlt => h3 j hj (by omega), h3 i hi (by omega)⟩
    · right
      simp only [sha_Equal.b1, lt1, dec_f hlt, Bool.false_eq_true, if_false]
      refine ⟨_, rfl, h2.trans ⟨fun h => Vector.ext fun i hi => h i hi (by omega), fun h i hi _ => by rw [h]⟩⟩
  obtain ⟨t, h1, h2⟩ := hl
  simp only [sha_Equal, h1, Option.bind_some, lt1, Option.some.injEq]
  rw [Bool.eq_iff_iff, beq_iff_eq, decide_eq_true_eq, h2]
/-- A digit's number. -/
def hv (c : UInt8) : Option Nat := if 48 ≤ c.toNat ∧ c.toNat ≤ 57 then some (c.toNat - 48) else if 97 ≤ c.toNat ∧ c.toNat ≤ 102 then some (c.toNat - 87) else none
theorem ofI_u8 (n : Nat) : (UN.ofI ((n : Nat) : Int) : UInt8) = UInt8.ofNat n := by
  apply UInt8.toNat_inj.1
  show (UInt8.ofNat ((n : Int) % ((2 ^ 8 : Nat) : Int)).toNat).toNat = _
  have : ((n : Int) % ((2 ^ 8 : Nat) : Int)).toNat = n % 256 := by omega
  rw [this, UInt8.toNat_ofNat', UInt8.toNat_ofNat']
  omega
theorem div2 (i : Nat) (h : i ≤ 1000) : divI (i : Int) 2 = some ((i / 2 : Nat) : Int) := by
  have : (i : Int).tdiv 2 = ((i / 2 : Nat) : Int) := by rw [show (2 : Int) = ((2 : Nat) : Int) from rfl, Int.ofNat_tdiv]
  simp only [divI, this]
  rw [if_neg (by decide), w64_id (by omega) (by omega)]
end Go.Proofs.Ytbflmobpbjnekaa
