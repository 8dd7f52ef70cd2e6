/- Numbers, vectors and readers of them. -/
import Derived.Test.YtnhiiabdoichlaaU
namespace Go.Proofs.Ytnhiiabdoichlaa
open Go Fw
set_option linter.unusedVariables false
set_option linter.unusedSimpArgs false

theorem pow256_le {m : Nat} (h : m ≤ 8) : 256 ^ m ≤ 18446744073709551616 := by
  have := Nat.pow_le_pow_right (n := 256) (by decide) h
  exact Nat.le_trans this (by decide)
def room (n : UInt64) (size : Int) : Prop := 1 ≤ size ∧ size ≤ 8 ∧ n.toNat < 256 ^ size.toNat
instance (n : UInt64) (size : Int) : Decidable (room n size) := inferInstanceAs (Decidable (_ ∧ _))
theorem wirePut_loop (k s : Nat) (hk : 9 ≤ k) (hs : s ≤ 8) (n : UInt64) : loopO (fun x => wire_Put.b1 k (s : Int) n x.1 x.2) k (([] : List UInt8), (0 : Int)) = some (put n.toNat s) := by
  refine loop_g (n := s) (fun i => ((put n.toNat s).take i, ((i : Nat) : Int))) _ (by simp) ?_ ?_ (by omega)
  · intro i hi
    have e1 : w64 ((s : Int) - 1) = ((s - 1 : Nat) : Int) := by rw [w64_id (by omega) (by omega)]; omega
    have e2 : w64 (((s - 1 : Nat) : Int) - (i : Int)) = ((s - 1 - i : Nat) : Int) := by rw [w64_id (by omega) (by omega)]; omega
    have e3 : w64 (8 * ((s - 1 - i : Nat) : Int)) = ((8 * (s - 1 - i) : Nat) : Int) := by rw [w64_id (by omega) (by omega)]; omega
    have e4 : apL 1 ((put n.toNat s).take i) [UN.to (UInt64.ofNat (n.toNat / 256 ^ (s - 1 - i)))] = some ((put n.toNat s).take (i + 1)) := by
      rw [apL_ok (by simp [put_length]; omega)]
      congr 1
      have h1 : (UN.to (UInt64.ofNat (n.toNat / 256 ^ (s - 1 - i))) : UInt8) = UInt8.ofNat (n.toNat / 256 ^ (s - 1 - i)) := by
        show UInt8.ofNat (UInt64.toNat _) = _
        rw [ofNat_div]
      rw [h1]
      have h2 : i < (put n.toNat s).length := by rw [put_length]; exact hi
      rw [List.take_succ_eq_append_getElem h2]
      congr 2
      have h3 := put_get n.toNat s i hi
      rw [List.getElem?_eq_getElem h2] at h3
      exact (Option.some.inj h3).symm
    simp only [wire_Put.b1, lt1, dec_t (show (i : Int) < (s : Int) by omega), if_true, e1, e2, e3, shrU_nat n _ (show s - 1 - i ≤ 8 by omega), Option.bind_some, e4, w64_succ (show i < 9223372036854775807 by omega)]
  · simp only [wire_Put.b1, lt1, dec_f (show ¬ (s : Int) < (s : Int) by omega), Bool.false_eq_true, if_false]
    rw [List.take_of_length_le (by rw [put_length]; exact Nat.le_refl _)]
theorem wirePut_eq (k : Nat) (hk : 9 ≤ k) (n : UInt64) (size : Int) (hs0 : -9223372036854775808 ≤ size) (hs1 : size ≤ 9223372036854775807) : wire_Put k n size = some (if room n size then (put n.toNat size.toNat, 0) else ([], 2)) := by
  simp only [wire_Put, lt1]
  by_cases h1 : size < 1
  · have : ¬ room n size := fun h => by have := h.1; omega
    simp [h1, this]
  by_cases h2 : size > 8
  · have : ¬ room n size := fun h => by have := h.2.1; omega
    simp [h1, h2, this]
  obtain ⟨s, rfl⟩ : ∃ s : Nat, size = s := ⟨size.toNat, by omega⟩
  have hs : s ≤ 8 := by omega
  have e1 : w64 (8 * (s : Int)) = ((8 * s : Nat) : Int) := by rw [w64_id (by omega) (by omega)]; omega
  simp only [dec_f h1, dec_f h2, cond_false, e1, shrU_nat n s hs, Bool.not_false, Bool.true_and, wirePut_loop k s hk hs n]
  by_cases h3 : (s : Int) < 8
  · simp only [dec_t h3, if_true, Option.bind_some, cond_true]
    by_cases h4 : n.toNat < 256 ^ s
    · have hr : room n s := ⟨by omega, by omega, by simpa using h4⟩
      have : UInt64.ofNat (n.toNat / 256 ^ s) = 0 := by rw [Nat.div_eq_of_lt h4]; rfl
      simp [this, hr]
    · have hr : ¬ room n s := fun h => h4 (by simpa using h.2.2)
      have : ¬ UInt64.ofNat (n.toNat / 256 ^ s) = 0 := fun h => by
        have h5 := congrArg UInt64.toNat h
        rw [ofNat_div] at h5
        have h6 : 0 < n.toNat / 256 ^ s := Nat.div_pos (by omega) (Nat.pow_pos (by decide))
        have h7 : (0 : UInt64).toNat = 0 := rfl
        omega
      simp [this, hr]
  · have h8 : s = 8 := by omega
    subst h8
    have hr : room n ((8 : Nat) : Int) := ⟨by omega, by omega, by have := n.toNat_lt; simpa using this⟩
    simp only [dec_f h3, Bool.false_eq_true, if_false, Option.bind_some, cond_false, if_pos hr, Int.toNat_natCast]
def getU (b : List UInt8) : UInt64 := UInt64.ofNat (getB b)
theorem getU_toNat (b : List UInt8) (h : b.length ≤ 8) : (getU b).toNat = getB b := UInt64.toNat_ofNat_of_lt' (Nat.lt_of_lt_of_le (getB_lt b) (pow256_le h))
theorem getB_take_lt (b : List UInt8) (i : Nat) (h : i < 8) : getB (b.take i) * 256 < 18446744073709551616 ∧ getB (b.take i) < 18446744073709551616 := by
  have h1 := getB_lt (b.take i)
  have h2 : (b.take i).length ≤ 7 := by simp; omega
  have h3 : 256 ^ (b.take i).length ≤ 256 ^ 7 := Nat.pow_le_pow_right (by decide) h2
  have h4 : (256 : Nat) ^ 7 = 72057594037927936 := by decide
  omega
theorem wireGet_eq (k : Nat) (hk : 9 ≤ k) (b : List UInt8) (hb : b.length ≤ 1000000) : wire_Get k b = some (if 1 ≤ b.length ∧ b.length ≤ 8 then (getU b, 0) else (0, 2)) := by
  simp only [wire_Get, lt1]
  by_cases h1 : (b.length : Int) < 1
  · have : ¬ (1 ≤ b.length ∧ b.length ≤ 8) := by omega
    simp only [h1, this, decide_true, cond_true, if_true, if_false, Option.bind_some]
  by_cases h2 : (b.length : Int) > 8
  · have : ¬ (1 ≤ b.length ∧ b.length ≤ 8) := by omega
    simp only [h1, h2, this, decide_true, decide_false, cond_false, if_true, if_false, Option.bind_some]
  have h3 : 1 ≤ b.length ∧ b.length ≤ 8 := by omega
  have hl : loopO (fun x => wire_Get.b1 k b x.1 x.2) k ((0 : UInt64), (0 : Int)) = some (getU b) := by
    refine loop_g (n := b.length) (fun i => (UInt64.ofNat (getB (b.take i)), ((i : Nat) : Int))) _ (by simp [getB]) ?_ ?_ (by omega)
    · intro i hi
      obtain ⟨g1, g2⟩ := getB_take_lt b i (by omega)
      have e1 : UN.shl (UInt64.ofNat (getB (b.take i))) (UN.toN (8 : UInt64)) = UInt64.ofNat (getB (b.take i) * 256) := by
        show UInt64.ofNat ((UInt64.ofNat (getB (b.take i))).toNat * 2 ^ (min ((8 : UInt64).toNat) 64)) = _
        rw [UInt64.toNat_ofNat_of_lt' g2]
        rfl
      have e2 : (UInt64.ofNat (getB (b.take i) * 256) ||| (UN.to b[i] : UInt64)) = UInt64.ofNat (getB (b.take (i + 1))) := by
        apply UInt64.toNat_inj.1
        have hx := b[i].toNat_lt
        have e3 : (UN.to b[i] : UInt64).toNat = b[i].toNat := UInt64.toNat_ofNat_of_lt' (Nat.lt_of_lt_of_le hx (by decide))
        have g3 := getB_lt (b.take (i + 1))
        have g4 : (b.take (i + 1)).length ≤ 8 := by simp; omega
        rw [UInt64.toNat_or, UInt64.toNat_ofNat_of_lt' g1, e3, UInt64.toNat_ofNat_of_lt' (Nat.lt_of_lt_of_le g3 (pow256_le g4)), getB_take b i hi]
        have := Nat.shiftLeft_add_eq_or_of_lt (i := 8) (b := b[i].toNat) hx (getB (b.take i))
        rw [Nat.shiftLeft_eq] at this
        exact this.symm
      simp only [wire_Get.b1, lt1, dec_t (show (i : Int) < (b.length : Int) by omega), if_true, idxL_lt hi, Option.bind_some, e1, e2, w64_succ (show i < 9223372036854775807 by omega)]
    · simp only [wire_Get.b1, lt1, dec_f (show ¬ (b.length : Int) < (b.length : Int) by omega), Bool.false_eq_true, if_false, List.take_length, getU]
  simp only [dec_f h1, dec_f h2, cond_false, Bool.false_eq_true, if_false, Option.bind_some, hl, if_pos h3]
theorem refGet_eq (k : Nat) (hk : 9 ≤ k) (b : List UInt8) (hb : b.length ≤ 8) : ref01_Get k b = some (getU b) := by
  have hl : loopO (fun x => ref01_Get.b1 k b x.1 x.2) k ((0 : UInt64), (0 : Int)) = some (getU b) := by
    refine loop_g (n := b.length) (fun i => (UInt64.ofNat (getB (b.take i)), ((i : Nat) : Int))) _ (by simp [getB]) ?_ ?_ (by omega)
    · intro i hi
      obtain ⟨g1, g2⟩ := getB_take_lt b i (by omega)
      have e2 : (UInt64.ofNat (getB (b.take i)) * 256 + (UN.to b[i] : UInt64)) = UInt64.ofNat (getB (b.take (i + 1))) := by
        apply UInt64.toNat_inj.1
        have hx := b[i].toNat_lt
        have e3 : (UN.to b[i] : UInt64).toNat = b[i].toNat := UInt64.toNat_ofNat_of_lt' (Nat.lt_of_lt_of_le hx (by decide))
        have g3 := getB_lt (b.take (i + 1))
        have g4 : (b.take (i + 1)).length ≤ 8 := by simp; omega
        have g5 := Nat.lt_of_lt_of_le g3 (pow256_le g4)
        rw [UInt64.toNat_add, UInt64.toNat_mul, e3, UInt64.toNat_ofNat_of_lt' g5, UInt64.toNat_ofNat_of_lt' g2, getB_take b i hi]
        rw [getB_take b i hi] at g5
        show (getB (b.take i) * 256 % 18446744073709551616 + b[i].toNat) % 18446744073709551616 = _
        rw [Nat.mod_eq_of_lt g1, Nat.mod_eq_of_lt g5]
      simp only [ref01_Get.b1, lt1, dec_t (show (i : Int) < (b.length : Int) by omega), if_true, idxL_lt hi, Option.bind_some, e2, w64_succ (show i < 9223372036854775807 by omega)]
    · simp only [ref01_Get.b1, lt1, dec_f (show ¬ (b.length : Int) < (b.length : Int) by omega), Bool.false_eq_true, if_false, List.take_length, getU]
  simp only [ref01_Get, hl, Option.bind_some]
theorem clone_eq (k : Nat) (b : List UInt8) (h : b.length ≤ 140737488355328) : wire_Read k b = some b := by
  simp only [wire_Read, slices_Clonebyte_byte, apL_ok (show (([] : List UInt8).length + b.length) * 1 ≤ 140737488355328 by simpa using h), Option.bind_some, List.nil_append]
theorem failed_eq (k : Nat) (r : wire_Reader) : wire_Reader_Failed'2 k r = some (!r.is) := rfl
def takeR (r : wire_Reader) (n : Int) : List UInt8 × Bool × wire_Reader :=
  if r.is = false then ([], false, r) else if n < 0 ∨ n > r.rest.length then ([], false, ⟨[], false, true⟩) else (r.rest.take n.toNat, true, ⟨r.rest.drop n.toNat, r.is, r.made⟩)
theorem subL_head {b : List UInt8} {n : Int} (h0 : 0 ≤ n) (h1 : n ≤ b.length) : subL b 0 n = some (b.take n.toNat) := by
  rw [subL_ok (by omega) h0 h1]; simp
theorem subL_tail {b : List UInt8} {n : Int} (h0 : 0 ≤ n) (h1 : n ≤ b.length) : subL b n (b.length : Int) = some (b.drop n.toNat) := by
  rw [subL_ok h0 h1 (by omega)]
  congr 1
  rw [List.take_of_length_le (by simp)]
theorem take2_eq (k : Nat) (n : Int) (r : wire_Reader) : wire_Reader_take'2 k n r = some (takeR r n) := by
  obtain ⟨rest, is, made⟩ := r
  simp only [wire_Reader_take'2, failed_eq, lt1, Option.bind_some, takeR]
  cases is
  · simp
  · by_cases h1 : n < 0
    · simp [h1]
    · by_cases h2 : n > rest.length
      · simp [h1, h2]
      · simp [h1, h2, subL_head (show 0 ≤ n by omega) (show n ≤ rest.length by omega), subL_tail (show 0 ≤ n by omega) (show n ≤ rest.length by omega)]
theorem take1_eq (k : Nat) (n : Int) (is made : Bool) (rest : List UInt8) : wire_Reader_take k n is made rest = some ((takeR ⟨rest, is, made⟩ n).1, (takeR ⟨rest, is, made⟩ n).2.1, (takeR ⟨rest, is, made⟩ n).2.2.rest, (takeR ⟨rest, is, made⟩ n).2.2.is, (takeR ⟨rest, is, made⟩ n).2.2.made) := by
  simp only [wire_Reader_take, wire_Reader_Failed, lt1, Option.bind_some, takeR]
  cases is
  · simp
  · by_cases h1 : n < 0
    · simp [h1]
    · by_cases h2 : n > rest.length
      · simp [h1, h2]
      · simp [h1, h2, subL_head (show 0 ≤ n by omega) (show n ≤ rest.length by omega), subL_tail (show 0 ≤ n by omega) (show n ≤ rest.length by omega)]
theorem takeR_len (r : wire_Reader) (n : Int) : (takeR r n).1.length ≤ r.rest.length := by
  unfold takeR
  split
  · simp
  · split
    · simp
    · simp; omega
theorem takeR_len' (r : wire_Reader) (n : Int) : ((takeR r n).1.length : Int) ≤ max n 0 := by
  unfold takeR
  split
  · show (0 : Int) ≤ _; omega
  · split
    · show (0 : Int) ≤ _; omega
    · simp only [List.length_take]; omega
def szR (size : Int) : Int := if size < 1 ∨ size > 8 then -1 else size
def numR (r : wire_Reader) (size : Int) : UInt64 × wire_Reader := (getU (takeR r (szR size)).1, (takeR r (szR size)).2.2)
theorem getSz (k : Nat) (hk : 9 ≤ k) (r : wire_Reader) (size : Int) (h : r.rest.length ≤ 1000000) : ∃ e, wire_Get k (takeR r (szR size)).1 = some (getU (takeR r (szR size)).1, e) := by
  have h1 := takeR_len r (szR size)
  have h2 := takeR_len' r (szR size)
  have h3 : szR size ≤ 8 := by unfold szR; split <;> omega
  rw [wireGet_eq k hk _ (by omega)]
  by_cases h4 : 1 ≤ (takeR r (szR size)).1.length
  · rw [if_pos ⟨h4, by omega⟩]; exact ⟨_, rfl⟩
  · rw [if_neg (by omega)]
    have : (takeR r (szR size)).1 = [] := List.eq_nil_of_length_eq_zero (by omega)
    rw [this]
    exact ⟨_, rfl⟩
theorem num2_eq (k : Nat) (hk : 9 ≤ k) (size : Int) (r : wire_Reader) (h : r.rest.length ≤ 1000000) : wire_Reader_Number'2 k size r = some (numR r size) := by
  obtain ⟨e, he⟩ := getSz k hk r size h
  have hs : (if (bif decide (size < 1) then true else decide (size > 8)) = true then some (-1 : Int) else some size) = some (szR size) := by
    unfold szR
    by_cases h1 : size < 1 <;> by_cases h2 : size > 8 <;> simp [h1, h2]
  simp only [wire_Reader_Number'2, lt1, Option.bind_some, hs, take2_eq]
  rw [show takeR r (szR size) = ((takeR r (szR size)).1, (takeR r (szR size)).2.1, (takeR r (szR size)).2.2) from rfl]
  simp only [he, Option.bind_some, numR]
theorem num1_eq (k : Nat) (hk : 9 ≤ k) (size : Int) (is made : Bool) (rest : List UInt8) (h : rest.length ≤ 1000000) : wire_Reader_Number k size is made rest = some (numR ⟨rest, is, made⟩ size) := by
  obtain ⟨e, he⟩ := getSz k hk ⟨rest, is, made⟩ size h
  have hs : (if (bif decide (size < 1) then true else decide (size > 8)) = true then some (-1 : Int) else some size) = some (szR size) := by
    unfold szR
    by_cases h1 : size < 1 <;> by_cases h2 : size > 8 <;> simp [h1, h2]
  simp only [wire_Reader_Number, lt1, Option.bind_some, hs, take1_eq, he, numR]
theorem wireBlob_eq (k : Nat) (hk : 9 ≤ k) (b : List UInt8) (hb : b.length ≤ 140000000000000) : wire_Blob k b = some (if b.length ≤ 65535 then (put b.length 2 ++ b, 0) else ([], 3)) := by
  simp only [wire_Blob, lt1]
  by_cases h : b.length ≤ 65535
  · have h1 : ¬ (b.length : Int) > 65535 := by omega
    have h2 : (UN.ofI (b.length : Int) : UInt64).toNat = b.length := by
      show (UInt64.ofNat ((b.length : Int) % ((2 ^ 64 : Nat) : Int)).toNat).toNat = _
      have : ((b.length : Int) % ((2 ^ 64 : Nat) : Int)).toNat = b.length := by omega
      rw [this]
      exact UInt64.toNat_ofNat_of_lt' (by show _ < 2 ^ 64; omega)
    have hr : room (UN.ofI (b.length : Int) : UInt64) 2 := ⟨by decide, by decide, by rw [h2]; show b.length < 65536; omega⟩
    simp only [h1, decide_false, Bool.false_eq_true, if_false, wirePut_eq k hk _ 2 (by omega) (by omega), if_pos hr, Option.bind_some, h2, apL_ok (show ((put b.length (2 : Int).toNat).length + b.length) * 1 ≤ 140737488355328 by rw [put_length]; omega), if_pos h]
    rfl
  · have h1 : (b.length : Int) > 65535 := by omega
    simp only [h1, decide_true, if_true, if_neg h]
/-- The first i words of a vector. -/
def vecB (v : Vector UInt64 16) (i : Nat) : List UInt8 := (v.toList.take i).flatMap fun n => put n.toNat 8
theorem vecB_succ (v : Vector UInt64 16) (i : Nat) (h : i < 16) : vecB v (i + 1) = vecB v i ++ put v[i].toNat 8 := by
  have : i < v.toList.length := by simpa using h
  rw [vecB, List.take_succ_eq_append_getElem this, List.flatMap_append]
  simp [vecB]
theorem vecB_len (v : Vector UInt64 16) : ∀ i, i ≤ 16 → (vecB v i).length = 8 * i := by
  intro i
  induction i with
  | zero => intro _; simp [vecB]
  | succ i ih =>
    intro h
    rw [vecB_succ v i (by omega), List.length_append, ih (by omega), put_length]
    omega
theorem room8 (n : UInt64) : room n 8 := ⟨by omega, by omega, by have := n.toNat_lt; simpa using this⟩
theorem put8 (k : Nat) (hk : 9 ≤ k) (n : UInt64) : wire_Put k n 8 = some (put n.toNat 8, 0) := by
  rw [wirePut_eq k hk n 8 (by omega) (by omega), if_pos (room8 n)]
  rfl
theorem wireVec_eq (k : Nat) (hk : 17 ≤ k) (v : Vector UInt64 16) : wire_Vector k v = some (vecB v 16) := by
  have hl : loopO (fun s => wire_Vector.b1 k v s.1 s.2) k (([] : List UInt8), (0 : Int)) = some (vecB v 16) := by
    refine loop_g (n := 16) (fun i => (vecB v i, ((i : Nat) : Int))) _ (by simp [vecB]) ?_ ?_ (by omega)
    · intro i hi
      have h3 : idxV v (i : Int) = some v[i] := by simp [idxV, hi]
      have h4 := vecB_len v i (by omega)
      simp only [wire_Vector.b1, lt1, dec_t (show (i : Int) < 16 by omega), if_true, h3, put8 k (by omega), Option.bind_some, apL_ok (show ((vecB v i).length + (put v[i].toNat 8).length) * 1 ≤ 140737488355328 by rw [put_length]; omega), vecB_succ v i hi, w64_succ (show i < 9223372036854775807 by omega)]
    · simp only [wire_Vector.b1, lt1, dec_f (show ¬ ((16 : Nat) : Int) < 16 by omega), Bool.false_eq_true, if_false]
  simp only [wire_Vector, hl, Option.bind_some]
theorem refPut8 (k : Nat) (hk : 9 ≤ k) (n : UInt64) : ref01_Put k n 8 = some (put n.toNat 8) := refPut_eq k hk n 8 (Nat.le_refl _)
theorem refVec_eq (k : Nat) (hk : 17 ≤ k) (v : Vector UInt64 16) : ref01_Vector k v = some (vecB v 16) := by
  have hl : loopO (fun s => ref01_Vector.b1 k v s.1 s.2) k (([] : List UInt8), (0 : Int)) = some (vecB v 16) := by
    refine loop_g (n := 16) (fun i => (vecB v i, ((i : Nat) : Int))) _ (by simp [vecB]) ?_ ?_ (by omega)
    · intro i hi
      have h3 : inV 16 (i : Int) = some ⟨i, hi⟩ := inV_ok (by omega) (by simpa using hi)
      have h4 := vecB_len v i (by omega)
      simp only [ref01_Vector.b1, lt1, dec_t (show (i : Int) < 16 by omega), if_true, h3, getV, refPut8 k (by omega), Option.bind_some, apL_ok (show ((vecB v i).length + (put v[i].toNat 8).length) * 1 ≤ 140737488355328 by rw [put_length]; omega), vecB_succ v i hi, w64_succ (show i < 9223372036854775807 by omega)]
    · simp only [ref01_Vector.b1, lt1, dec_f (show ¬ ((16 : Nat) : Int) < 16 by omega), Bool.false_eq_true, if_false]
  simp only [ref01_Vector, hl, Option.bind_some]
theorem ofI_toNat {m : Nat} (h : m < 18446744073709551616) : (UN.ofI (m : Int) : UInt64).toNat = m := by
  show (UInt64.ofNat ((m : Int) % ((2 ^ 64 : Nat) : Int)).toNat).toNat = _
  have : ((m : Int) % ((2 ^ 64 : Nat) : Int)).toNat = m := by omega
  rw [this]
  exact UInt64.toNat_ofNat_of_lt' h
theorem refBlob_eq (k : Nat) (hk : 9 ≤ k) (b : List UInt8) (hb : b.length ≤ 140000000000000) : ref01_Blob k b = some (put b.length 2 ++ b) := by
  have h1 := refPut_eq k hk (UN.ofI (b.length : Int)) 2 (by omega)
  rw [ofI_toNat (by omega)] at h1
  have h1 : ref01_Put k (UN.ofI (b.length : Int)) 2 = some (put b.length 2) := h1
  simp only [ref01_Blob, lt1, h1, Option.bind_some, apL_ok (show ((put b.length 2).length + b.length) * 1 ≤ 140737488355328 by rw [put_length]; omega)]
theorem put_succ (n s : Nat) : put n (s + 1) = put (n / 256) s ++ [UInt8.ofNat n] := by
  unfold put
  rw [List.range_succ, List.map_append]
  congr 1
  · apply List.map_congr_left
    intro i hi
    have hi : i < s := by simpa using hi
    rw [show s + 1 - 1 - i = (s - 1 - i) + 1 by omega, Nat.pow_succ, Nat.mul_comm, Nat.div_div_eq_div_mul]
  · simp
theorem getB_put (s : Nat) : ∀ n, getB (put n s) = n % 256 ^ s := by
  induction s with
  | zero => intro n; simp [put, getB, Nat.mod_one]
  | succ s ih =>
    intro n
    rw [put_succ, getB_app, ih]
    have h1 : (UInt8.ofNat n).toNat = n % 256 := by simp
    rw [h1, Nat.pow_succ, Nat.mul_comm (256 ^ s) 256, Nat.mod_mul]
    omega
/-- A reader that has failed. -/
def fR : wire_Reader := ⟨[], false, true⟩
def okR (l : List UInt8) : wire_Reader := ⟨l, true, true⟩
theorem takeR_f (n : Int) : takeR fR n = ([], false, fR) := rfl
theorem seg (p q : List UInt8) (m : Nat) : takeR (okR ((p ++ q).take m)) (p.length : Int) = if p.length ≤ m then (p, true, okR (q.take (m - p.length))) else ([], false, fR) := by
  unfold takeR okR
  rw [if_neg (by simp)]
  by_cases h : p.length ≤ m
  · rw [if_neg (by simp; omega), if_pos h]
    simp only [Int.toNat_natCast]
    rw [List.take_take, Nat.min_eq_left h, List.take_left', List.drop_take, List.drop_left']
    · rfl
    · rfl
  · rw [if_pos (by simp; omega), if_neg h]
    rfl
theorem getU_put8 (n : UInt64) : getU (put n.toNat 8) = n := by
  apply UInt64.toNat_inj.1
  rw [getU_toNat _ (by rw [put_length]; exact Nat.le_refl _), getB_put]
  exact Nat.mod_eq_of_lt n.toNat_lt
theorem numR_seg (p q : List UInt8) (m : Nat) (size : Int) (h0 : 1 ≤ size) (h8 : size ≤ 8) (hp : (p.length : Int) = size) : numR (okR ((p ++ q).take m)) size = if p.length ≤ m then (getU p, okR (q.take (m - p.length))) else (0, fR) := by
  have hs : szR size = p.length := by unfold szR; rw [if_neg (by omega)]; omega
  unfold numR
  rw [hs, seg]
  split <;> rfl
/-- The words of a vector, read one by one. -/
theorem vec_loop (k : Nat) (hk : 17 ≤ k) (v : Vector UInt64 16) : loopO (fun s => wire_Reader_Vector.b1 k s.1 s.2.1 s.2.2) k (Vector.replicate 16 0, okR (vecB v 16), (0 : Int)) = some v := by
  refine loop_g (n := 16) (fun i => ((Vector.ofFn fun j : Fin 16 => if j.1 < i then v[j] else 0), okR ((vecB v 16).drop (8 * i)), ((i : Nat) : Int))) _ ?_ ?_ ?_ (by omega)
  · refine Prod.ext (Vector.ext fun j hj => by simp) (Prod.ext (by simp) rfl)
  · intro i hi
    have hsplit : (vecB v 16).drop (8 * i) = put v[i].toNat 8 ++ (vecB v 16).drop (8 * (i + 1)) := by
      have key : ∀ d, i + 1 + d ≤ 16 → (vecB v (i + 1 + d)).take (8 * (i + 1)) = vecB v (i + 1) := by
        intro d
        induction d with
        | zero => intro _; rw [List.take_of_length_le (by rw [vecB_len v _ (by omega)]; omega)]
        | succ d ih =>
          intro hd
          rw [← Nat.add_assoc, vecB_succ v (i + 1 + d) (by omega), List.take_append_of_le_length (by rw [vecB_len v _ (by omega)]; omega)]
          exact ih (by omega)
      have h1 := key (16 - (i + 1)) (by omega)
      rw [show i + 1 + (16 - (i + 1)) = 16 by omega, vecB_succ v i hi] at h1
      have h2 : vecB v 16 = (vecB v i ++ put v[i].toNat 8) ++ (vecB v 16).drop (8 * (i + 1)) := by
        conv => lhs; rw [← List.take_append_drop (8 * (i + 1)) (vecB v 16)]
        rw [h1]
      have h3 : (vecB v 16).drop (8 * i) = ((vecB v i ++ put v[i].toNat 8) ++ (vecB v 16).drop (8 * (i + 1))).drop (8 * i) := congrArg _ h2
      rw [h3, List.append_assoc, List.drop_left' (vecB_len v i (by omega))]
    have hn : numR (okR ((vecB v 16).drop (8 * i))) 8 = (v[i], okR ((vecB v 16).drop (8 * (i + 1)))) := by
      have := numR_seg (put v[i].toNat 8) ((vecB v 16).drop (8 * (i + 1))) 1000 8 (by omega) (by omega) (by rw [put_length]; rfl)
      have hvl := vecB_len v 16 (Nat.le_refl _)
      rw [List.take_of_length_le (by rw [List.length_append, put_length, List.length_drop, hvl]; omega), if_pos (by rw [put_length]; omega), List.take_of_length_le (by rw [put_length, List.length_drop, hvl]; omega), getU_put8] at this
      rw [hsplit]
      exact this
    have h2 : inV 16 (i : Int) = some ⟨i, hi⟩ := inV_ok (by omega) (by simpa using hi)
    simp only [wire_Reader_Vector.b1, lt1, dec_t (show (i : Int) < 16 by omega), if_true, wire_Reader_Vector_1'2, num2_eq k (by omega) 8 (okR ((vecB v 16).drop (8 * i))) (by show ((vecB v 16).drop (8 * i)).length ≤ _; rw [List.length_drop, vecB_len v 16 (Nat.le_refl _)]; omega), hn, Option.bind_some, h2, w64_succ (show i < 9223372036854775807 by omega), Option.some.injEq, Sum.inl.injEq, Prod.mk.injEq, and_true]
    refine Vector.ext fun j hj => ?_
    simp only [putV, Vector.getElem_set, Vector.getElem_ofFn]
    by_cases hij : i = j
    · subst hij; simp
    · rw [if_neg hij]
      have : (j < i) ↔ (j < i + 1) := by omega
      simp only [this]
  · simp only [wire_Reader_Vector.b1, lt1, dec_f (show ¬ ((16 : Nat) : Int) < 16 by omega), Bool.false_eq_true, if_false, Option.some.injEq, Sum.inr.injEq]
    refine Vector.ext fun j hj => ?_
    simp [hj]
end Go.Proofs.Ytnhiiabdoichlaa
