/- Numbers of bytes. -/
import Derived.Test.YtkbkdfcakpbojaaFa
import Derived.Test.YtkbkdfcakpbojaaFq
import Derived.Test.YtkbkdfcakpbojaaS
namespace Go.Proofs.Ytkbkdfcakpbojaa
open Go Fw
set_option linter.unusedVariables false
set_option linter.unusedSimpArgs false

theorem pow256_le {m : Nat} (h : m ≤ 8) : 256 ^ m ≤ 18446744073709551616 := by
  have := Nat.pow_le_pow_right (n := 256) (by decide) h
  exact Nat.le_trans this (by decide)
/-- The number of bytes. -/
def getB (b : List UInt8) : Nat := b.foldl (fun a x => a * 256 + x.toNat) 0
theorem getB_app (b : List UInt8) (x : UInt8) : getB (b ++ [x]) = getB b * 256 + x.toNat := by simp [getB]
theorem foldB (b : List UInt8) : ∀ a : Nat, b.foldl (fun a x => a * 256 + x.toNat) a < (a + 1) * 256 ^ b.length := by
  induction b with
  | nil => intro a; simp
  | cons x b ih =>
    intro a
    have h1 := ih (a * 256 + x.toNat)
    have hx := x.toNat_lt
    have h2 : (a * 256 + x.toNat + 1) * 256 ^ b.length ≤ ((a + 1) * 256) * 256 ^ b.length := Nat.mul_le_mul_right _ (by omega)
    rw [List.foldl_cons, List.length_cons, Nat.pow_succ, Nat.mul_comm (256 ^ b.length) 256, ← Nat.mul_assoc]
    omega
theorem getB_lt (b : List UInt8) : getB b < 256 ^ b.length := by
  have := foldB b 0
  simpa [getB] using this
theorem getB_take (b : List UInt8) (i : Nat) (h : i < b.length) : getB (b.take (i + 1)) = getB (b.take i) * 256 + b[i].toNat := by rw [List.take_succ_eq_append_getElem h, getB_app]
def getU (b : List UInt8) : UInt64 := UInt64.ofNat (getB b)
theorem getU_toNat (b : List UInt8) (h : b.length ≤ 8) : (getU b).toNat = getB b := UInt64.toNat_ofNat_of_lt' (Nat.lt_of_lt_of_le (getB_lt b) (pow256_le h))
theorem getB_take_lt (b : List UInt8) (i : Nat) (h : i < 8) : getB (b.take i) * 256 < 18446744073709551616 ∧ getB (b.take i) < 18446744073709551616 := by
  have h1 := getB_lt (b.take i)
  have h2 : (b.take i).length ≤ 7 := by simp; omega
  have h3 : 256 ^ (b.take i).length ≤ 256 ^ 7 := Nat.pow_le_pow_right (by decide) h2
  have h4 : (256 : Nat) ^ 7 = 72057594037927936 := by decide
  omega
theorem refGet_eq (k : Nat) (hk : 9 ≤ k) (b : List UInt8) (hb : b.length ≤ 8) : ref01_Get k b = some (getU b) := by
  have hl : loopO (fun x => ref01_Get.b1 k b x.1 x.2) k ((0 : UInt64), (0 : Int)) = some (getU b) := by
    refine loop_g (n := b.length) (fun i => (UInt64.ofNat (getB (b.take i)), ((i : Nat) : Int))) _ (by simp [getB]) ?_ ?_ (by omega)
    · intro i hi
      obtain ⟨g1, g2⟩ := getB_take_lt b i (by omega)
      have e2 : (UInt64.ofNat (getB (b.take i)) * 256 + (UN.to b[i] : UInt64)) = UInt64.ofNat (getB (b.take (i + 1))) := by
        apply UInt64.toNat_inj.1
        have hx := b[i].toNat_lt
        have e3 : (UN.to b[i] : UInt64).toNat = b[i].toNat := UInt64.toNat_ofNat_of_lt' (Nat.lt_of_lt_of_le hx (by decide))
        have g3 := getB_lt (b.take (i + 1))
        have g4 : (b.take (i + 1)).length ≤ 8 := by simp; omega
        have g5 := Nat.lt_of_lt_of_le g3 (pow256_le g4)
        rw [UInt64.toNat_add, UInt64.toNat_mul, e3, UInt64.toNat_ofNat_of_lt' g5, UInt64.toNat_ofNat_of_lt' g2, getB_take b i hi]
        rw [getB_take b i hi] at g5
        show (getB (b.take i) * 256 % 18446744073709551616 + b[i].toNat) % 18446744073709551616 = _
        rw [Nat.mod_eq_of_lt g1, Nat.mod_eq_of_lt g5]
      simp only [ref01_Get.b1, lt1, dec_t (show (i : Int) < (b.length : Int) by omega), if_true, idxL_lt hi, Option.bind_some, e2, w64_succ (show i < 9223372036854775807 by omega)]
    · simp only [ref01_Get.b1, lt1, dec_f (show ¬ (b.length : Int) < (b.length : Int) by omega), Bool.false_eq_true, if_false, List.take_length, getU]
  simp only [ref01_Get, hl, Option.bind_some]
def w64c (n : Int) : Int := (n + 9223372036854775808) % 18446744073709551616 - 9223372036854775808
theorem w64_fun : w64 = w64c := funext w64_eq
end Go.Proofs.Ytkbkdfcakpbojaa
