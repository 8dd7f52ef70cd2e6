/- Numbers, dots and blobs, put (out of law01, law09). -/
import Derived.Test.YtklnihlchhhhlaaGreatFa
import Derived.Test.YtklnihlchhhhlaaGreatFq
import Derived.Test.YtklnihlchhhhlaaGreatS
namespace Go.Proofs.YtklnihlchhhhlaaGreat
open Go Fw
set_option linter.unusedVariables false
set_option linter.unusedSimpArgs false

def put (n s : Nat) : List UInt8 := (List.range s).map fun i => UInt8.ofNat (n / 256 ^ (s - 1 - i))
theorem put_length (n s : Nat) : (put n s).length = s := by simp [put]
theorem put_get (n s i : Nat) (h : i < s) : (put n s)[i]? = some (UInt8.ofNat (n / 256 ^ (s - 1 - i))) := by simp [put, h]
theorem pow256 (m : Nat) : 2 ^ (8 * m) = 256 ^ m := by rw [Nat.pow_mul]
theorem shrU_nat (n : UInt64) (m : Nat) (h : m ≤ 8) : shrU n ((8 * m : Nat) : Int) = some (UInt64.ofNat (n.toNat / 256 ^ m)) := by
  simp only [shrU, UN.shr]
  rw [if_neg (by omega)]
  have e : min (((8 * m : Nat) : Int)).toNat (UN.bits UInt64) = 8 * m := by
    show min _ 64 = _
    omega
  rw [e, pow256]
  rfl
theorem ofNat_div (n : UInt64) (m : Nat) : (UInt64.ofNat (n.toNat / 256 ^ m)).toNat = n.toNat / 256 ^ m := UInt64.toNat_ofNat_of_lt' (Nat.lt_of_le_of_lt (Nat.div_le_self _ _) n.toNat_lt)
def room (n : UInt64) (size : Int) : Prop := 1 ≤ size ∧ size ≤ 8 ∧ n.toNat < 256 ^ size.toNat
instance (n : UInt64) (size : Int) : Decidable (room n size) := inferInstanceAs (Decidable (_ ∧ _))
theorem wirePut_loop (k s : Nat) (hk : 9 ≤ k) (hs : s ≤ 8) (n : UInt64) : loopO (fun x => wire_Put.b1 k (s : Int) n x.1 x.2) k (([] : List UInt8), (0 : Int)) = some (put n.toNat s) := by
  refine loop_g (n := s) (fun i => ((put n.toNat s).take i, ((i : Nat) : Int))) _ (by simp) ?_ ?_ (by omega)
  · intro i hi
    have e1 : w64 ((s : Int) - 1) = ((s - 1 : Nat) : Int) := by rw [w64_id (by omega) (by omega)]; omega
    have e2 : w64 (((s - 1 : Nat) : Int) - (i : Int)) = ((s - 1 - i : Nat) : Int) := by rw [w64_id (by omega) (by omega)]; omega
    have e3 : w64 (8 * ((s - 1 - i : Nat) : Int)) = ((8 * (s - 1 - i) : Nat) : Int) := by rw [w64_id (by omega) (by omega)]; omega
    have e4 : apL 1 ((put n.toNat s).take i) [UN.to (UInt64.ofNat (n.toNat / 256 ^ (s - 1 - i)))] = some ((put n.toNat s).take (i + 1)) := by
      rw [apL_ok (by simp [put_length]; omega)]
      congr 1
      have h1 : (UN.to (UInt64.ofNat (n.toNat / 256 ^ (s - 1 - i))) : UInt8) = UInt8.ofNat (n.toNat / 256 ^ (s - 1 - i)) := by
        show UInt8.ofNat (UInt64.toNat _) = _
        rw [ofNat_div]
      rw [h1]
      have h2 : i < (put n.toNat s).length := by rw [put_length]; exact hi
      rw [List.take_succ_eq_append_getElem h2]
      congr 2
      have h3 := put_get n.toNat s i hi
      rw [List.getElem?_eq_getElem h2] at h3
      exact (Option.some.inj h3).symm
    simp only [wire_Put.b1, lt1, dec_t (show (i : Int) < (s : Int) by omega), if_true, e1, e2, e3, shrU_nat n _ (show s - 1 - i ≤ 8 by omega), Option.bind_some, e4, w64_succ (show i < 9223372036854775807 by omega)]
  · simp only [wire_Put.b1, lt1, dec_f (show ¬ (s : Int) < (s : Int) by omega), Bool.false_eq_true, if_false]
    rw [List.take_of_length_le (by rw [put_length]; exact Nat.le_refl _)]
theorem wirePut_eq (k : Nat) (hk : 9 ≤ k) (n : UInt64) (size : Int) (hs0 : -9223372036854775808 ≤ size) (hs1 : size ≤ 9223372036854775807) : wire_Put k n size = some (if room n size then (put n.toNat size.toNat, 0) else ([], 2)) := by
  simp only [wire_Put, lt1]
  by_cases h1 : size < 1
  · have : ¬ room n size := fun h => by have := h.1; omega
    simp [h1, this]
  by_cases h2 : size > 8
  · have : ¬ room n size := fun h => by have := h.2.1; omega
    simp [h1, h2, this]
  obtain ⟨s, rfl⟩ : ∃ s : Nat, size = s := ⟨size.toNat, by omega⟩
  have hs : s ≤ 8 := by omega
  have e1 : w64 (8 * (s : Int)) = ((8 * s : Nat) : Int) := by rw [w64_id (by omega) (by omega)]; omega
  simp only [dec_f h1, dec_f h2, cond_false, e1, shrU_nat n s hs, Bool.not_false, Bool.true_and, wirePut_loop k s hk hs n]
  by_cases h3 : (s : Int) < 8
  · simp only [dec_t h3, if_true, Option.bind_some, cond_true]
    by_cases h4 : n.toNat < 256 ^ s
    · have hr : room n s := ⟨by omega, by omega, by simpa using h4⟩
      have : UInt64.ofNat (n.toNat / 256 ^ s) = 0 := by rw [Nat.div_eq_of_lt h4]; rfl
      simp [this, hr]
    · have hr : ¬ room n s := fun h => h4 (by simpa using h.2.2)
      have : ¬ UInt64.ofNat (n.toNat / 256 ^ s) = 0 := fun h => by
        have h5 := congrArg UInt64.toNat h
        rw [ofNat_div] at h5
        have h6 : 0 < n.toNat / 256 ^ s := Nat.div_pos (by omega) (Nat.pow_pos (by decide))
        have h7 : (0 : UInt64).toNat = 0 := rfl
        omega
      simp [this, hr]
  · have h8 : s = 8 := by omega
    subst h8
    have hr : room n ((8 : Nat) : Int) := ⟨by omega, by omega, by have := n.toNat_lt; simpa using this⟩
    simp only [dec_f h3, Bool.false_eq_true, if_false, Option.bind_some, cond_false, if_pos hr, Int.toNat_natCast]
theorem wireBlob_eq (k : Nat) (hk : 9 ≤ k) (b : List UInt8) (hb : b.length ≤ 140000000000000) : wire_Blob k b = some (if b.length ≤ 65535 then (put b.length 2 ++ b, 0) else ([], 3)) := by
  simp only [wire_Blob, lt1]
  by_cases h : b.length ≤ 65535
  · have h1 : ¬ (b.length : Int) > 65535 := by omega
    have h2 : (UN.ofI (b.length : Int) : UInt64).toNat = b.length := by
      show (UInt64.ofNat ((b.length : Int) % ((2 ^ 64 : Nat) : Int)).toNat).toNat = _
      have : ((b.length : Int) % ((2 ^ 64 : Nat) : Int)).toNat = b.length := by omega
      rw [this]
      exact UInt64.toNat_ofNat_of_lt' (by show _ < 2 ^ 64; omega)
    have hr : room (UN.ofI (b.length : Int) : UInt64) 2 := ⟨by decide, by decide, by rw [h2]; show b.length < 65536; omega⟩
    simp only [h1, decide_false, Bool.false_eq_true, if_false, wirePut_eq k hk _ 2 (by omega) (by omega), if_pos hr, Option.bind_some, h2, apL_ok (show ((put b.length (2 : Int).toNat).length + b.length) * 1 ≤ 140737488355328 by rw [put_length]; omega), if_pos h]
    rfl
  · have h1 : (b.length : Int) > 65535 := by omega
    simp only [h1, decide_true, if_true, if_neg h]
theorem wireDot_eq (k : Nat) (hk : 9 ≤ k) (d : api_Dot) : wire_Dot k d = some (if 0 ≤ d.Region ∧ d.Region ≤ 255 then (UInt8.ofNat d.Region.toNat :: put d.Count.toNat 8, 0) else ([], 2)) := by
  simp only [wire_Dot, lt1]
  by_cases h1 : d.Region < 0
  · have : ¬ (0 ≤ d.Region ∧ d.Region ≤ 255) := by omega
    simp [h1, this]
  · by_cases h2 : d.Region > 255
    · have : ¬ (0 ≤ d.Region ∧ d.Region ≤ 255) := by omega
      simp [h1, h2, this]
    · have h3 : 0 ≤ d.Region ∧ d.Region ≤ 255 := by omega
      have hr : room d.Count 8 := ⟨by omega, by omega, by have := d.Count.toNat_lt; simpa using this⟩
      have h4 : (UN.ofI d.Region : UInt8) = UInt8.ofNat d.Region.toNat := by
        show UInt8.ofNat (d.Region % ((2 ^ 8 : Nat) : Int)).toNat = _
        congr 1
        omega
      simp only [h1, h2, decide_false, Bool.false_eq_true, if_false, Option.bind_some, wirePut_eq k hk _ 8 (by omega) (by omega), if_pos hr, if_pos h3, h4, apL_ok (show (([UInt8.ofNat d.Region.toNat] : List UInt8).length + (put d.Count.toNat (8 : Int).toNat).length) * 1 ≤ 140737488355328 by rw [put_length]; show (1 + 8) * 1 ≤ _; omega)]
      rfl
def dotB (d : api_Dot) : List UInt8 := UInt8.ofNat d.Region.toNat :: put d.Count.toNat 8
theorem dotB_len (d : api_Dot) : (dotB d).length = 9 := by simp [dotB, put_length]
end Go.Proofs.YtklnihlchhhhlaaGreat
