/- Readers; the known rows. -/
import Derived.Test.YtkbkdfcakpbojaaA
namespace Go.Proofs.Ytkbkdfcakpbojaa
open Go Fw
set_option linter.unusedVariables false
set_option linter.unusedSimpArgs false

theorem clone_eq (k : Nat) (b : List UInt8) (h : b.length ≤ 140737488355328) : wire_Read k b = some b := by
  simp only [wire_Read, slices_Clonebyte_byte, apL_ok (show (([] : List UInt8).length + b.length) * 1 ≤ 140737488355328 by simpa using h), Option.bind_some, List.nil_append]
theorem failed_eq (k : Nat) (r : wire_Reader) : wire_Reader_Failed'2 k r = some (!r.is) := rfl
def takeR (r : wire_Reader) (n : Int) : List UInt8 × Bool × wire_Reader :=
  if r.is = false then ([], false, r) else if n < 0 ∨ n > r.rest.length then ([], false, ⟨[], false, true⟩) else (r.rest.take n.toNat, true, ⟨r.rest.drop n.toNat, r.is, r.made⟩)
theorem subL_head {b : List UInt8} {n : Int} (h0 : 0 ≤ n) (h1 : n ≤ b.length) : subL b 0 n = some (b.take n.toNat) := by
  rw [subL_ok (by omega) h0 h1]; simp
theorem subL_tail {b : List UInt8} {n : Int} (h0 : 0 ≤ n) (h1 : n ≤ b.length) : subL b n (b.length : Int) = some (b.drop n.toNat) := by
  rw [subL_ok h0 h1 (by omega)]
  congr 1
  rw [List.take_of_length_le (by simp)]
theorem take2_eq (k : Nat) (n : Int) (r : wire_Reader) : wire_Reader_take'2 k n r = some (takeR r n) := by
  obtain ⟨rest, is, made⟩ := r
  simp only [wire_Reader_take'2, failed_eq, lt1, Option.bind_some, takeR]
  cases is
  · simp
  · by_cases h1 : n < 0
    · simp [h1]
    · by_cases h2 : n > rest.length
      · simp [h1, h2]
      · simp [h1, h2, subL_head (show 0 ≤ n by omega) (show n ≤ rest.length by omega), subL_tail (show 0 ≤ n by omega) (show n ≤ rest.length by omega)]
theorem take1_eq (k : Nat) (n : Int) (is made : Bool) (rest : List UInt8) : wire_Reader_take k n is made rest = some ((takeR ⟨rest, is, made⟩ n).1, (takeR ⟨rest, is, made⟩ n).2.1, (takeR ⟨rest, is, made⟩ n).2.2.rest, (takeR ⟨rest, is, made⟩ n).2.2.is, (takeR ⟨rest, is, made⟩ n).2.2.made) := by
  simp only [wire_Reader_take, wire_Reader_Failed, lt1, Option.bind_some, takeR]
  cases is
  · simp
  · by_cases h1 : n < 0
    · simp [h1]
    · by_cases h2 : n > rest.length
      · simp [h1, h2]
      · simp [h1, h2, subL_head (show 0 ≤ n by omega) (show n ≤ rest.length by omega), subL_tail (show 0 ≤ n by omega) (show n ≤ rest.length by omega)]
theorem takeR_len (r : wire_Reader) (n : Int) : (takeR r n).1.length ≤ r.rest.length := by
  unfold takeR
  split
  · simp
  · split
    · simp
    · simp; omega
theorem takeR_len' (r : wire_Reader) (n : Int) : ((takeR r n).1.length : Int) ≤ max n 0 := by
  unfold takeR
  split
  · show (0 : Int) ≤ _; omega
  · split
    · show (0 : Int) ≤ _; omega
    · simp only [List.length_take]; omega
def szR (size : Int) : Int := if size < 1 ∨ size > 8 then -1 else size
def numR (r : wire_Reader) (size : Int) : UInt64 × wire_Reader := (getU (takeR r (szR size)).1, (takeR r (szR size)).2.2)
theorem getSz (k : Nat) (hk : 9 ≤ k) (r : wire_Reader) (size : Int) (h : r.rest.length ≤ 1000000) : ∃ e, wire_Get k (takeR r (szR size)).1 = some (getU (takeR r (szR size)).1, e) := by
  have h1 := takeR_len r (szR size)
  have h2 := takeR_len' r (szR size)
  have h3 : szR size ≤ 8 := by unfold szR; split <;> omega
  rw [wireGet_eq k hk _ (by omega)]
  by_cases h4 : 1 ≤ (takeR r (szR size)).1.length
  · rw [if_pos ⟨h4, by omega⟩]; exact ⟨_, rfl⟩
  · rw [if_neg (by omega)]
    have : (takeR r (szR size)).1 = [] := List.eq_nil_of_length_eq_zero (by omega)
    rw [this]
    exact ⟨_, rfl⟩
theorem num2_eq (k : Nat) (hk : 9 ≤ k) (size : Int) (r : wire_Reader) (h : r.rest.length ≤ 1000000) : wire_Reader_Number'2 k size r = some (numR r size) := by
  obtain ⟨e, he⟩ := getSz k hk r size h
  have hs : (if (bif decide (size < 1) then true else decide (size > 8)) = true then some (-1 : Int) else some size) = some (szR size) := by
    unfold szR
    by_cases h1 : size < 1 <;> by_cases h2 : size > 8 <;> simp [h1, h2]
  simp only [wire_Reader_Number'2, lt1, Option.bind_some, hs, take2_eq]
  rw [show takeR r (szR size) = ((takeR r (szR size)).1, (takeR r (szR size)).2.1, (takeR r (szR size)).2.2) from rfl]
  simp only [he, Option.bind_some, numR]
theorem num1_eq (k : Nat) (hk : 9 ≤ k) (size : Int) (is made : Bool) (rest : List UInt8) (h : rest.length ≤ 1000000) : wire_Reader_Number k size is made rest = some (numR ⟨rest, is, made⟩ size) := by
  obtain ⟨e, he⟩ := getSz k hk ⟨rest, is, made⟩ size h
  have hs : (if (bif decide (size < 1) then true else decide (size > 8)) = true then some (-1 : Int) else some size) = some (szR size) := by
    unfold szR
    by_cases h1 : size < 1 <;> by_cases h2 : size > 8 <;> simp [h1, h2]
  simp only [wire_Reader_Number, lt1, Option.bind_some, hs, take1_eq, he, numR]
def bytesR (r : wire_Reader) (n : Int) : List UInt8 × wire_Reader := ((takeR r n).1, (takeR r n).2.2)
theorem bytes_eq (k : Nat) (n : Int) (r : wire_Reader) : wire_Reader_Bytes k n r = some (bytesR r n) := by
  simp only [wire_Reader_Bytes, take2_eq]
  rfl
theorem numR_rest (r : wire_Reader) (n : Int) : (takeR r n).2.2.rest.length ≤ r.rest.length := by
  unfold takeR
  split
  · simp
  · split
    · simp
    · simp
theorem numR_lt (r : wire_Reader) (size : Int) (h : size ≤ 2) : (numR r size).1.toNat ≤ 65535 := by
  have h2 := takeR_len' r (szR size)
  have h3 : szR size ≤ 2 := by unfold szR; split <;> omega
  unfold numR
  rw [getU_toNat _ (by omega)]
  have h4 := getB_lt (takeR r (szR size)).1
  have h5 : (takeR r (szR size)).1.length ≤ 2 := by omega
  have h6 : 256 ^ (takeR r (szR size)).1.length ≤ 256 ^ 2 := Nat.pow_le_pow_right (by decide) h5
  have h7 : (256 : Nat) ^ 2 = 65536 := by decide
  omega
def blobR (r : wire_Reader) : List UInt8 × wire_Reader := bytesR (numR r 2).2 ((numR r 2).1.toNat : Int)
theorem blob_eq (k : Nat) (hk : 9 ≤ k) (is made : Bool) (rest : List UInt8) (h : rest.length ≤ 1000000) : wire_Reader_Blob k is made rest = some (blobR ⟨rest, is, made⟩) := by
  have h1 := numR_lt ⟨rest, is, made⟩ 2 (by omega)
  have h2 : w64 ((UN.toN (numR ⟨rest, is, made⟩ 2).1 : Nat) : Int) = ((numR ⟨rest, is, made⟩ 2).1.toNat : Int) := w64_nat (by show (numR ⟨rest, is, made⟩ 2).1.toNat ≤ _; omega)
  simp only [wire_Reader_Blob, num1_eq k hk 2 is made rest h, Option.bind_some, lt1, h2, bytes_eq]
  rfl
theorem left_eq (k : Nat) (r : wire_Reader) : wire_Reader_Left k r = some (if r.is = false then 0 else (r.rest.length : Int)) := by
  obtain ⟨rest, is, made⟩ := r
  simp only [wire_Reader_Left, failed_eq, Option.bind_some]
  cases is <;> simp
theorem end_eq (k : Nat) (r : wire_Reader) : wire_Reader_End k r = some (if r.made = false then 1 else if r.is = false ∨ 0 < r.rest.length then 4 else 0) := by
  obtain ⟨rest, is, made⟩ := r
  simp only [wire_Reader_End, failed_eq, lt1, Option.bind_some]
  cases made <;> cases is <;> simp
  split <;> simp_all
theorem wireBlob_eq (k : Nat) (hk : 9 ≤ k) (b : List UInt8) (hb : b.length ≤ 140000000000000) : wire_Blob k b = some (if b.length ≤ 65535 then (put b.length 2 ++ b, 0) else ([], 3)) := by
  simp only [wire_Blob, lt1]
  by_cases h : b.length ≤ 65535
  · have h1 : ¬ (b.length : Int) > 65535 := by omega
    have h2 : (UN.ofI (b.length : Int) : UInt64).toNat = b.length := by
      show (UInt64.ofNat ((b.length : Int) % ((2 ^ 64 : Nat) : Int)).toNat).toNat = _
      have : ((b.length : Int) % ((2 ^ 64 : Nat) : Int)).toNat = b.length := by omega
      rw [this]
      exact UInt64.toNat_ofNat_of_lt' (by show _ < 2 ^ 64; omega)
    have hr : room (UN.ofI (b.length : Int) : UInt64) 2 := ⟨by decide, by decide, by rw [h2]; show b.length < 65536; omega⟩
    simp only [h1, decide_false, Bool.false_eq_true, if_false, wirePut_eq k hk _ 2 (by omega) (by omega), if_pos hr, Option.bind_some, h2, apL_ok (show ((put b.length (2 : Int).toNat).length + b.length) * 1 ≤ 140737488355328 by rw [put_length]; omega), if_pos h]
    rfl
  · have h1 : (b.length : Int) > 65535 := by omega
    simp only [h1, decide_true, if_true, if_neg h]
theorem wireDot_eq (k : Nat) (hk : 9 ≤ k) (d : api_Dot) : wire_Dot k d = some (if 0 ≤ d.Region ∧ d.Region ≤ 255 then (UInt8.ofNat d.Region.toNat :: put d.Count.toNat 8, 0) else ([], 2)) := by
  simp only [wire_Dot, lt1]
  by_cases h1 : d.Region < 0
  · have : ¬ (0 ≤ d.Region ∧ d.Region ≤ 255) := by omega
    simp [h1, this]
  · by_cases h2 : d.Region > 255
    · have : ¬ (0 ≤ d.Region ∧ d.Region ≤ 255) := by omega
      simp [h1, h2, this]
    · have h3 : 0 ≤ d.Region ∧ d.Region ≤ 255 := by omega
      have hr : room d.Count 8 := ⟨by omega, by omega, by have := d.Count.toNat_lt; simpa using this⟩
      have h4 : (UN.ofI d.Region : UInt8) = UInt8.ofNat d.Region.toNat := by
        show UInt8.ofNat (d.Region % ((2 ^ 8 : Nat) : Int)).toNat = _
        congr 1
        omega
      simp only [h1, h2, decide_false, Bool.false_eq_true, if_false, Option.bind_some, wirePut_eq k hk _ 8 (by omega) (by omega), if_pos hr, if_pos h3, h4, apL_ok (show (([UInt8.ofNat d.Region.toNat] : List UInt8).length + (put d.Count.toNat (8 : Int).toNat).length) * 1 ≤ 140737488355328 by rw [put_length]; show (1 + 8) * 1 ≤ _; omega)]
      rfl
theorem known_eq (k : Nat) (hk : 9 ≤ k) : law01_known k = some true := by
  have hp1 : wire_Put k 258 2 = some ([1, 2], 0) := by rw [wirePut_eq k hk _ _ (by omega) (by omega)]; decide
  have hp2 : wire_Put k 256 1 = some ([], 2) := by rw [wirePut_eq k hk _ _ (by omega) (by omega)]; decide
  have hb : wire_Blob k [97, 98] = some ([0, 2, 97, 98], 0) := by rw [wireBlob_eq k hk _ (by decide)]; decide
  have hd : wire_Dot k (api_Dot.mk 2 5) = some ([2, 0, 0, 0, 0, 0, 0, 0, 5], 0) := by rw [wireDot_eq k hk]; decide
  have h0 : w64 0 = 0 := w64_id (by omega) (by omega)
  have hr : wire_Read k [0, 1, 7, 9] = some [0, 1, 7, 9] := clone_eq k _ (by decide)
  have hbl : blobR ⟨[0, 1, 7, 9], true, true⟩ = ([7], ⟨[9], true, true⟩) := by decide
  have hn : numR ⟨[9], true, true⟩ 2 = (0, ⟨[], false, true⟩) := by decide
  simp only [law01_known, hp1, hp2, hb, hd, hr, Option.bind_some, lt1, law01_num, blob_eq k hk true true _ (show ([0, 1, 7, 9] : List UInt8).length ≤ 1000000 by decide), hbl, left_eq, num2_eq k hk 2 ⟨[9], true, true⟩ (by decide), hn, failed_eq, end_eq]
  simp [h0]
end Go.Proofs.Ytkbkdfcakpbojaa
