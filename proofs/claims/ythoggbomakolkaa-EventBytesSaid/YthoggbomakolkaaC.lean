/- Numbers, blobs, dots and vectors as bytes. -/
import Derived.Test.YthoggbomakolkaaB
namespace Go.Proofs.Ythoggbomakolkaa
open Go Fw
set_option linter.unusedVariables false
set_option linter.unusedSimpArgs false

def put (n s : Nat) : List UInt8 := (List.range s).map fun i => UInt8.ofNat (n / 256 ^ (s - 1 - i))
theorem put_length (n s : Nat) : (put n s).length = s := by simp [put]
theorem put_get (n s i : Nat) (h : i < s) : (put n s)[i]? = some (UInt8.ofNat (n / 256 ^ (s - 1 - i))) := by simp [put, h]
theorem pow256 (m : Nat) : 2 ^ (8 * m) = 256 ^ m := by rw [Nat.pow_mul]
theorem pow256_le {m : Nat} (h : m ≤ 8) : 256 ^ m ≤ 18446744073709551616 := by
  have := Nat.pow_le_pow_right (n := 256) (by decide) h
  exact Nat.le_trans this (by decide)
theorem shrU_nat (n : UInt64) (m : Nat) (h : m ≤ 8) : shrU n ((8 * m : Nat) : Int) = some (UInt64.ofNat (n.toNat / 256 ^ m)) := by
  simp only [shrU, UN.shr]
  rw [if_neg (by omega)]
  have e : min (((8 * m : Nat) : Int)).toNat (UN.bits UInt64) = 8 * m := by
    show min _ 64 = _
    omega
  rw [e, pow256]
  rfl
theorem ofNat_div (n : UInt64) (m : Nat) : (UInt64.ofNat (n.toNat / 256 ^ m)).toNat = n.toNat / 256 ^ m := UInt64.toNat_ofNat_of_lt' (Nat.lt_of_le_of_lt (Nat.div_le_self _ _) n.toNat_lt)
def room (n : UInt64) (size : Int) : Prop := 1 ≤ size ∧ size ≤ 8 ∧ n.toNat < 256 ^ size.toNat
instance (n : UInt64) (size : Int) : Decidable (room n size) := inferInstanceAs (Decidable (_ ∧ _))
theorem wirePut_loop (k s : Nat) (hk : 9 ≤ k) (hs : s ≤ 8) (n : UInt64) : loopO (fun x => wire_Put.b1 k (s : Int) n x.1 x.2) k (([] : List UInt8), (0 : Int)) = some (put n.toNat s) := by
  refine loop_g (n := s) (fun i => ((put n.toNat s).take i, ((i : Nat) : Int))) _ (by simp) ?_ ?_ (by omega)
  · intro i hi
    have e1 : w64 ((s : Int) - 1) = ((s - 1 : Nat) : Int) := by rw [w64_id (by omega) (by omega)]; omega
    have e2 : w64 (((s - 1 : Nat) : Int) - (i : Int)) = ((s - 1 - i : Nat) : Int) := by rw [w64_id (by omega) (by omega)]; omega
    have e3 : w64 (8 * ((s - 1 - i : Nat) : Int)) = ((8 * (s - 1 - i) : Nat) : Int) := by rw [w64_id (by omega) (by omega)]; omega
    have e4 : apL 1 ((put n.toNat s).take i) [UN.to (UInt64.ofNat (n.toNat / 256 ^ (s - 1 - i)))] = some ((put n.toNat s).take (i + 1)) := by
      rw [apL_ok (by simp [put_length]; omega)]
      congr 1
      have h1 : (UN.to (UInt64.ofNat (n.toNat / 256 ^ (s - 1 - i))) : UInt8) = UInt8.ofNat (n.toNat / 256 ^ (s - 1 - i)) := by
        show UInt8.ofNat (UInt64.toNat _) = _
        rw [ofNat_div]
      rw [h1]
      have h2 : i < (put n.toNat s).length := by rw [put_length]; exact hi
      rw [List.take_succ_eq_append_getElem h2]
      congr 2
      have h3 := put_get n.toNat s i hi
      rw [List.getElem?_eq_getElem h2] at h3
      exact (Option.some.inj h3).symm
    simp only [wire_Put.b1, lt1, dec_t (show (i : Int) < (s : Int) by omega), if_true, e1, e2, e3, shrU_nat n _ (show s - 1 - i ≤ 8 by omega), Option.bind_some, e4, w64_succ (show i < 9223372036854775807 by omega)]
  · simp only [wire_Put.b1, lt1, dec_f (show ¬ (s : Int) < (s : Int) by omega), Bool.false_eq_true, if_false]
    rw [List.take_of_length_le (by rw [put_length]; exact Nat.le_refl _)]
theorem wirePut_eq (k : Nat) (hk : 9 ≤ k) (n : UInt64) (size : Int) (hs0 : -9223372036854775808 ≤ size) (hs1 : size ≤ 9223372036854775807) : wire_Put k n size = some (if room n size then (put n.toNat size.toNat, 0) else ([], 2)) := by
  simp only [wire_Put, lt1]
  by_cases h1 : size < 1
  · have : ¬ room n size := fun h => by have := h.1; omega
    simp [h1, this]
  by_cases h2 : size > 8
  · have : ¬ room n size := fun h => by have := h.2.1; omega
    simp [h1, h2, this]
  obtain ⟨s, rfl⟩ : ∃ s : Nat, size = s := ⟨size.toNat, by omega⟩
  have hs : s ≤ 8 := by omega
  have e1 : w64 (8 * (s : Int)) = ((8 * s : Nat) : Int) := by rw [w64_id (by omega) (by omega)]; omega
  simp only [dec_f h1, dec_f h2, cond_false, e1, shrU_nat n s hs, Bool.not_false, Bool.true_and, wirePut_loop k s hk hs n]
  by_cases h3 : (s : Int) < 8
  · simp only [dec_t h3, if_true, Option.bind_some, cond_true]
    by_cases h4 : n.toNat < 256 ^ s
    · have hr : room n s := ⟨by omega, by omega, by simpa using h4⟩
      have : UInt64.ofNat (n.toNat / 256 ^ s) = 0 := by rw [Nat.div_eq_of_lt h4]; rfl
      simp [this, hr]
    · have hr : ¬ room n s := fun h => h4 (by simpa using h.2.2)
      have : ¬ UInt64.ofNat (n.toNat / 256 ^ s) = 0 := fun h => by
        have h5 := congrArg UInt64.toNat h
        rw [ofNat_div] at h5
        have h6 : 0 < n.toNat / 256 ^ s := Nat.div_pos (by omega) (Nat.pow_pos (by decide))
        have h7 : (0 : UInt64).toNat = 0 := rfl
        omega
      simp [this, hr]
  · have h8 : s = 8 := by omega
    subst h8
    have hr : room n ((8 : Nat) : Int) := ⟨by omega, by omega, by have := n.toNat_lt; simpa using this⟩
    simp only [dec_f h3, Bool.false_eq_true, if_false, Option.bind_some, cond_false, if_pos hr, Int.toNat_natCast]
theorem div256 (n : UInt64) : divU n (256 : UInt64) = some (UInt64.ofNat (n.toNat / 256)) := by
  unfold divU
  rw [if_neg (by decide)]
  refine congrArg some (UInt64.toNat_inj.1 ?_)
  show (n / 256).toNat = _
  rw [UInt64.toNat_div, UInt64.toNat_ofNat_of_lt' (Nat.lt_of_le_of_lt (Nat.div_le_self _ _) n.toNat_lt)]
  rfl
theorem mod256 (n : UInt64) : modU n (256 : UInt64) = some (UInt64.ofNat (n.toNat % 256)) := by
  unfold modU
  rw [if_neg (by decide)]
  refine congrArg some (UInt64.toNat_inj.1 ?_)
  show (n % 256).toNat = _
  rw [UInt64.toNat_mod, UInt64.toNat_ofNat_of_lt' (Nat.lt_of_le_of_lt (Nat.mod_le _ _) n.toNat_lt)]
  rfl
theorem refPut_eq (k : Nat) (hk : 9 ≤ k) (n : UInt64) (s : Nat) (hs : s ≤ 8) : ref01_Put k n (s : Int) = some (put n.toNat s) := by
  have e0 : w64 ((s : Int) - 1) = (s : Int) - 1 := w64_id (by omega) (by omega)
  have hl : loopO (fun x => ref01_Put.b1 k x.1 x.2.1 x.2.2) k (n, List.replicate s (0 : UInt8), (s : Int) - 1) = some (put n.toNat s) := by
    refine loop_g (n := s) (fun j => (UInt64.ofNat (n.toNat / 256 ^ j), (List.range s).map (fun i => if s - 1 - i < j then UInt8.ofNat (n.toNat / 256 ^ (s - 1 - i)) else 0), (s : Int) - 1 - (j : Int))) _ ?_ ?_ ?_ (by omega)
    · simp only [Nat.pow_zero, Nat.div_one, Nat.not_lt_zero, if_false]
      refine Prod.ext (by simp) (Prod.ext ?_ (by simp))
      apply List.ext_getElem?
      intro i
      by_cases hi : i < s <;> simp [hi]
    · intro j hj
      have e1 : inO ((List.range s).map (fun i => if s - 1 - i < j then UInt8.ofNat (n.toNat / 256 ^ (s - 1 - i)) else 0)) ((s : Int) - 1 - (j : Int)) = some (s - 1 - j) := by
        rw [inO_ok (by omega) (by simp; omega)]
        congr 1
        omega
      have e2 : w64 ((s : Int) - 1 - (j : Int) - 1) = (s : Int) - 1 - ((j + 1 : Nat) : Int) := by rw [w64_id (by omega) (by omega)]; omega
      have e3 : (UN.to (UInt64.ofNat (n.toNat / 256 ^ j % 256)) : UInt8) = UInt8.ofNat (n.toNat / 256 ^ j) := by
        show UInt8.ofNat (UInt64.toNat _) = _
        have : (UInt64.ofNat (n.toNat / 256 ^ j % 256)).toNat = n.toNat / 256 ^ j % 256 := UInt64.toNat_ofNat_of_lt' (Nat.lt_of_lt_of_le (Nat.mod_lt _ (by decide)) (by decide))
        rw [this]
        apply UInt8.toNat_inj.1
        simp
      simp only [ref01_Put.b1, lt1, dec_t (show (s : Int) - 1 - (j : Int) ≥ 0 by omega), if_true, mod256, div256, ofNat_div, Option.bind_some, e1, e2, e3, setO'_ok (show s - 1 - j < ((List.range s).map (fun i => if s - 1 - i < j then UInt8.ofNat (n.toNat / 256 ^ (s - 1 - i)) else 0)).length by simp; omega), Nat.div_div_eq_div_mul, ← Nat.pow_succ, Option.some.injEq, Sum.inl.injEq, Prod.mk.injEq, true_and, and_true]
      apply List.ext_getElem?
      intro i
      by_cases hi : i < s
      · rw [List.getElem?_set]
        by_cases hij : s - 1 - j = i
        · have h1 : s - 1 - i = j := by omega
          rw [if_pos hij, if_pos (by simp; omega)]
          simp [hi, h1]
        · rw [if_neg hij]
          have h1 : (s - 1 - i < j) ↔ (s - 1 - i < j + 1) := by omega
          simp [hi, h1]
      · rw [List.getElem?_eq_none (by simp; omega), List.getElem?_eq_none (by simp; omega)]
    · simp only [ref01_Put.b1, lt1, dec_f (show ¬ (s : Int) - 1 - (s : Int) ≥ 0 by omega), Bool.false_eq_true, if_false, Option.some.injEq, Sum.inr.injEq]
      apply List.ext_getElem?
      intro i
      by_cases hi : i < s
      · have : s - 1 - i < s := by omega
        simp [put, hi, this]
      · rw [List.getElem?_eq_none (by simp; omega), List.getElem?_eq_none (by rw [put_length]; omega)]
  simp only [ref01_Put, lt1, mkL_ok (show 0 ≤ (s : Int) by omega) (show (s : Int).toNat * 1 ≤ 281474976710656 by omega) (show (s : Int) ≤ 9223372036854775807 by omega), Option.bind_some, e0, Int.toNat_natCast, hl]
/-- The number of bytes. -/
def getB (b : List UInt8) : Nat := b.foldl (fun a x => a * 256 + x.toNat) 0
theorem getB_app (b : List UInt8) (x : UInt8) : getB (b ++ [x]) = getB b * 256 + x.toNat := by simp [getB]
theorem foldB (b : List UInt8) : ∀ a : Nat, b.foldl (fun a x => a * 256 + x.toNat) a < (a + 1) * 256 ^ b.length := by
  induction b with
  | nil => intro a; simp
  | cons x b ih =>
    intro a
    have h1 := ih (a * 256 + x.toNat)
    have hx := x.toNat_lt
    have h2 : (a * 256 + x.toNat + 1) * 256 ^ b.length ≤ ((a + 1) * 256) * 256 ^ b.length := Nat.mul_le_mul_right _ (by omega)
    rw [List.foldl_cons, List.length_cons, Nat.pow_succ, Nat.mul_comm (256 ^ b.length) 256, ← Nat.mul_assoc]
    omega
theorem getB_lt (b : List UInt8) : getB b < 256 ^ b.length := by
  have := foldB b 0
  simpa [getB] using this
theorem getB_take (b : List UInt8) (i : Nat) (h : i < b.length) : getB (b.take (i + 1)) = getB (b.take i) * 256 + b[i].toNat := by rw [List.take_succ_eq_append_getElem h, getB_app]
def getU (b : List UInt8) : UInt64 := UInt64.ofNat (getB b)
theorem getU_toNat (b : List UInt8) (h : b.length ≤ 8) : (getU b).toNat = getB b := UInt64.toNat_ofNat_of_lt' (Nat.lt_of_lt_of_le (getB_lt b) (pow256_le h))
theorem getB_take_lt (b : List UInt8) (i : Nat) (h : i < 8) : getB (b.take i) * 256 < 18446744073709551616 ∧ getB (b.take i) < 18446744073709551616 := by
  have h1 := getB_lt (b.take i)
  have h2 : (b.take i).length ≤ 7 := by simp; omega
  have h3 : 256 ^ (b.take i).length ≤ 256 ^ 7 := Nat.pow_le_pow_right (by decide) h2
  have h4 : (256 : Nat) ^ 7 = 72057594037927936 := by decide
  omega
theorem refGet_eq (k : Nat) (hk : 9 ≤ k) (b : List UInt8) (hb : b.length ≤ 8) : ref01_Get k b = some (getU b) := by
  have hl : loopO (fun x => ref01_Get.b1 k b x.1 x.2) k ((0 : UInt64), (0 : Int)) = some (getU b) := by
    refine loop_g (n := b.length) (fun i => (UInt64.ofNat (getB (b.take i)), ((i : Nat) : Int))) _ (by simp [getB]) ?_ ?_ (by omega)
    · intro i hi
      obtain ⟨g1, g2⟩ := getB_take_lt b i (by omega)
      have e2 : (UInt64.ofNat (getB (b.take i)) * 256 + (UN.to b[i] : UInt64)) = UInt64.ofNat (getB (b.take (i + 1))) := by
        apply UInt64.toNat_inj.1
        have hx := b[i].toNat_lt
        have e3 : (UN.to b[i] : UInt64).toNat = b[i].toNat := UInt64.toNat_ofNat_of_lt' (Nat.lt_of_lt_of_le hx (by decide))
        have g3 := getB_lt (b.take (i + 1))
        have g4 : (b.take (i + 1)).length ≤ 8 := by simp; omega
        have g5 := Nat.lt_of_lt_of_le g3 (pow256_le g4)
        rw [UInt64.toNat_add, UInt64.toNat_mul, e3, UInt64.toNat_ofNat_of_lt' g5, UInt64.toNat_ofNat_of_lt' g2, getB_take b i hi]
        rw [getB_take b i hi] at g5
        show (getB (b.take i) * 256 % 18446744073709551616 + b[i].toNat) % 18446744073709551616 = _
        rw [Nat.mod_eq_of_lt g1, Nat.mod_eq_of_lt g5]
      simp only [ref01_Get.b1, lt1, dec_t (show (i : Int) < (b.length : Int) by omega), if_true, idxL_lt hi, Option.bind_some, e2, w64_succ (show i < 9223372036854775807 by omega)]
    · simp only [ref01_Get.b1, lt1, dec_f (show ¬ (b.length : Int) < (b.length : Int) by omega), Bool.false_eq_true, if_false, List.take_length, getU]
  simp only [ref01_Get, hl, Option.bind_some]
theorem wireBlob_eq (k : Nat) (hk : 9 ≤ k) (b : List UInt8) (hb : b.length ≤ 140000000000000) : wire_Blob k b = some (if b.length ≤ 65535 then (put b.length 2 ++ b, 0) else ([], 3)) := by
  simp only [wire_Blob, lt1]
  by_cases h : b.length ≤ 65535
  · have h1 : ¬ (b.length : Int) > 65535 := by omega
    have h2 : (UN.ofI (b.length : Int) : UInt64).toNat = b.length := by
      show (UInt64.ofNat ((b.length : Int) % ((2 ^ 64 : Nat) : Int)).toNat).toNat = _
      have : ((b.length : Int) % ((2 ^ 64 : Nat) : Int)).toNat = b.length := by omega
      rw [this]
      exact UInt64.toNat_ofNat_of_lt' (by show _ < 2 ^ 64; omega)
    have hr : room (UN.ofI (b.length : Int) : UInt64) 2 := ⟨by decide, by decide, by rw [h2]; show b.length < 65536; omega⟩
    simp only [h1, decide_false, Bool.false_eq_true, if_false, wirePut_eq k hk _ 2 (by omega) (by omega), if_pos hr, Option.bind_some, h2, apL_ok (show ((put b.length (2 : Int).toNat).length + b.length) * 1 ≤ 140737488355328 by rw [put_length]; omega), if_pos h]
    rfl
  · have h1 : (b.length : Int) > 65535 := by omega
    simp only [h1, decide_true, if_true, if_neg h]
theorem wireDot_eq (k : Nat) (hk : 9 ≤ k) (d : api_Dot) : wire_Dot k d = some (if 0 ≤ d.Region ∧ d.Region ≤ 255 then (UInt8.ofNat d.Region.toNat :: put d.Count.toNat 8, 0) else ([], 2)) := by
  simp only [wire_Dot, lt1]
  by_cases h1 : d.Region < 0
  · have : ¬ (0 ≤ d.Region ∧ d.Region ≤ 255) := by omega
    simp [h1, this]
  · by_cases h2 : d.Region > 255
    · have : ¬ (0 ≤ d.Region ∧ d.Region ≤ 255) := by omega
      simp [h1, h2, this]
    · have h3 : 0 ≤ d.Region ∧ d.Region ≤ 255 := by omega
      have hr : room d.Count 8 := ⟨by omega, by omega, by have := d.Count.toNat_lt; simpa using this⟩
      have h4 : (UN.ofI d.Region : UInt8) = UInt8.ofNat d.Region.toNat := by
        show UInt8.ofNat (d.Region % ((2 ^ 8 : Nat) : Int)).toNat = _
        congr 1
        omega
      simp only [h1, h2, decide_false, Bool.false_eq_true, if_false, Option.bind_some, wirePut_eq k hk _ 8 (by omega) (by omega), if_pos hr, if_pos h3, h4, apL_ok (show (([UInt8.ofNat d.Region.toNat] : List UInt8).length + (put d.Count.toNat (8 : Int).toNat).length) * 1 ≤ 140737488355328 by rw [put_length]; show (1 + 8) * 1 ≤ _; omega)]
      rfl
/-- The first i words of a vector. -/
def vecB (v : Vector UInt64 16) (i : Nat) : List UInt8 := (v.toList.take i).flatMap fun n => put n.toNat 8
theorem vecB_succ (v : Vector UInt64 16) (i : Nat) (h : i < 16) : vecB v (i + 1) = vecB v i ++ put v[i].toNat 8 := by
  have : i < v.toList.length := by simpa using h
  rw [vecB, List.take_succ_eq_append_getElem this, List.flatMap_append]
  simp [vecB]
theorem vecB_len (v : Vector UInt64 16) : ∀ i, i ≤ 16 → (vecB v i).length = 8 * i := by
  intro i
  induction i with
  | zero => intro _; simp [vecB]
  | succ i ih =>
    intro h
    rw [vecB_succ v i (by omega), List.length_append, ih (by omega), put_length]
    omega
theorem room8 (n : UInt64) : room n 8 := ⟨by omega, by omega, by have := n.toNat_lt; simpa using this⟩
theorem put8 (k : Nat) (hk : 9 ≤ k) (n : UInt64) : wire_Put k n 8 = some (put n.toNat 8, 0) := by
  rw [wirePut_eq k hk n 8 (by omega) (by omega), if_pos (room8 n)]
  rfl
theorem wireVec_eq (k : Nat) (hk : 17 ≤ k) (v : Vector UInt64 16) : wire_Vector k v = some (vecB v 16) := by
  have hl : loopO (fun s => wire_Vector.b1 k v s.1 s.2) k (([] : List UInt8), (0 : Int)) = some (vecB v 16) := by
    refine loop_g (n := 16) (fun i => (vecB v i, ((i : Nat) : Int))) _ (by simp [vecB]) ?_ ?_ (by omega)
    · intro i hi
      have h3 : idxV v (i : Int) = some v[i] := by simp [idxV, hi]
      have h4 := vecB_len v i (by omega)
      simp only [wire_Vector.b1, lt1, dec_t (show (i : Int) < 16 by omega), if_true, h3, put8 k (by omega), Option.bind_some, apL_ok (show ((vecB v i).length + (put v[i].toNat 8).length) * 1 ≤ 140737488355328 by rw [put_length]; omega), vecB_succ v i hi, w64_succ (show i < 9223372036854775807 by omega)]
    · simp only [wire_Vector.b1, lt1, dec_f (show ¬ ((16 : Nat) : Int) < 16 by omega), Bool.false_eq_true, if_false]
  simp only [wire_Vector, hl, Option.bind_some]
theorem refPut8 (k : Nat) (hk : 9 ≤ k) (n : UInt64) : ref01_Put k n 8 = some (put n.toNat 8) := refPut_eq k hk n 8 (Nat.le_refl _)
theorem refVec_eq (k : Nat) (hk : 17 ≤ k) (v : Vector UInt64 16) : ref01_Vector k v = some (vecB v 16) := by
  have hl : loopO (fun s => ref01_Vector.b1 k v s.1 s.2) k (([] : List UInt8), (0 : Int)) = some (vecB v 16) := by
    refine loop_g (n := 16) (fun i => (vecB v i, ((i : Nat) : Int))) _ (by simp [vecB]) ?_ ?_ (by omega)
    · intro i hi
      have h3 : inV 16 (i : Int) = some ⟨i, hi⟩ := inV_ok (by omega) (by simpa using hi)
      have h4 := vecB_len v i (by omega)
      simp only [ref01_Vector.b1, lt1, dec_t (show (i : Int) < 16 by omega), if_true, h3, getV, refPut8 k (by omega), Option.bind_some, apL_ok (show ((vecB v i).length + (put v[i].toNat 8).length) * 1 ≤ 140737488355328 by rw [put_length]; omega), vecB_succ v i hi, w64_succ (show i < 9223372036854775807 by omega)]
    · simp only [ref01_Vector.b1, lt1, dec_f (show ¬ ((16 : Nat) : Int) < 16 by omega), Bool.false_eq_true, if_false]
  simp only [ref01_Vector, hl, Option.bind_some]
theorem ofI_toNat {m : Nat} (h : m < 18446744073709551616) : (UN.ofI (m : Int) : UInt64).toNat = m := by
  show (UInt64.ofNat ((m : Int) % ((2 ^ 64 : Nat) : Int)).toNat).toNat = _
  have : ((m : Int) % ((2 ^ 64 : Nat) : Int)).toNat = m := by omega
  rw [this]
  exact UInt64.toNat_ofNat_of_lt' h
theorem refBlob_eq (k : Nat) (hk : 9 ≤ k) (b : List UInt8) (hb : b.length ≤ 140000000000000) : ref01_Blob k b = some (put b.length 2 ++ b) := by
  have h1 := refPut_eq k hk (UN.ofI (b.length : Int)) 2 (by omega)
  rw [ofI_toNat (by omega)] at h1
  have h1 : ref01_Put k (UN.ofI (b.length : Int)) 2 = some (put b.length 2) := h1
  simp only [ref01_Blob, lt1, h1, Option.bind_some, apL_ok (show ((put b.length 2).length + b.length) * 1 ≤ 140737488355328 by rw [put_length]; omega)]
theorem put1 (m : Nat) (h : m < 256) : put m 1 = [UInt8.ofNat m] := by simp [put]
theorem refDot_eq (k : Nat) (hk : 9 ≤ k) (d : api_Dot) (h : 0 ≤ d.Region ∧ d.Region ≤ 255) : ref01_Dot k d = some (UInt8.ofNat d.Region.toNat :: put d.Count.toNat 8) := by
  obtain ⟨m, hm⟩ : ∃ m : Nat, d.Region = m := ⟨d.Region.toNat, by omega⟩
  have h1 := refPut_eq k hk (UN.ofI d.Region) 1 (by omega)
  rw [hm, ofI_toNat (by omega), put1 m (by omega)] at h1
  have h1 : ref01_Put k (UN.ofI (m : Int)) 1 = some [UInt8.ofNat m] := h1
  simp only [ref01_Dot, lt1, hm, h1, refPut8 k hk, Option.bind_some, Int.toNat_natCast, apL_ok (show (([UInt8.ofNat m] : List UInt8).length + (put d.Count.toNat 8).length) * 1 ≤ 140737488355328 by rw [put_length]; show (1 + 8) * 1 ≤ _; omega)]
  rfl
/-- How many bytes the first i have. -/
def sumL (l : List (List UInt8)) (i : Nat) : Nat := ((l.take i).map List.length).sum
theorem sumL_succ (l : List (List UInt8)) (i : Nat) (h : i < l.length) : sumL l (i + 1) = sumL l i + l[i].length := by
  rw [sumL, List.take_succ_eq_append_getElem h]
  simp only [List.map_append, List.sum_append, List.map_cons, List.map_nil, List.sum_cons, List.sum_nil, Nat.add_zero, sumL]
theorem sumL_mono (l : List (List UInt8)) : ∀ i, sumL l i ≤ sumL l l.length := by
  intro i
  by_cases h : i ≤ l.length
  · have key : ∀ d, i + d ≤ l.length → sumL l i ≤ sumL l (i + d) := by
      intro d
      induction d with
      | zero => intro _; exact Nat.le_refl _
      | succ d ih =>
        intro hd
        have := ih (by omega)
        rw [← Nat.add_assoc, sumL_succ l (i + d) (by omega)]
        omega
    have := key (l.length - i) (by omega)
    rwa [show i + (l.length - i) = l.length by omega] at this
  · rw [sumL, sumL, List.take_of_length_le (by omega), List.take_length]; exact Nat.le_refl _
theorem flat_succ (l : List (List UInt8)) (i : Nat) (h : i < l.length) : (l.take (i + 1)).flatten = (l.take i).flatten ++ l[i] := by
  rw [List.take_succ_eq_append_getElem h, List.flatten_append]; simp only [List.flatten_cons, List.flatten_nil, List.append_nil]
theorem flat_len (l : List (List UInt8)) (i : Nat) : (l.take i).flatten.length = sumL l i := by simp [sumL, List.length_flatten]
theorem refJoin_eq (k : Nat) (l : List (List UInt8)) (hk : l.length < k) (hs : sumL l l.length ≤ 1000000) (hl : l.length ≤ 1000000) : ref01_Join k l = some l.flatten := by
  have h3 : loopO (fun s => ref01_Join.b1 k l s.1 s.2) k (([] : List UInt8), (0 : Int)) = some l.flatten := by
    refine loop_g (n := l.length) (fun i => ((l.take i).flatten, ((i : Nat) : Int))) _ (by simp) ?_ ?_ (by omega)
    · intro i hi
      have h4 := sumL_mono l (i + 1)
      have h5 := sumL_succ l i hi
      have h6 := flat_len l i
      simp only [ref01_Join.b1, lt1, dec_t (show (i : Int) < (l.length : Int) by omega), if_true, idxL_lt hi, Option.bind_some, apL_ok (show ((l.take i).flatten.length + l[i].length) * 1 ≤ 140737488355328 by omega), flat_succ l i hi, w64_succ (show i < 9223372036854775807 by omega)]
    · simp only [ref01_Join.b1, lt1, dec_f (show ¬ (l.length : Int) < (l.length : Int) by omega), Bool.false_eq_true, if_false, List.take_length]
  simp only [ref01_Join, h3, Option.bind_some]
theorem put_succ (n s : Nat) : put n (s + 1) = put (n / 256) s ++ [UInt8.ofNat n] := by
  unfold put
  rw [List.range_succ, List.map_append]
  congr 1
  · apply List.map_congr_left
    intro i hi
    have hi : i < s := by simpa using hi
    rw [show s + 1 - 1 - i = (s - 1 - i) + 1 by omega, Nat.pow_succ, Nat.mul_comm, Nat.div_div_eq_div_mul]
  · simp
theorem getB_put (s : Nat) : ∀ n, getB (put n s) = n % 256 ^ s := by
  induction s with
  | zero => intro n; simp [put, getB, Nat.mod_one]
  | succ s ih =>
    intro n
    rw [put_succ, getB_app, ih]
    have h1 : (UInt8.ofNat n).toNat = n % 256 := by simp
    rw [h1, Nat.pow_succ, Nat.mul_comm (256 ^ s) 256, Nat.mod_mul]
    omega
def dotB (d : api_Dot) : List UInt8 := UInt8.ofNat d.Region.toNat :: put d.Count.toNat 8
theorem dotB_len (d : api_Dot) : (dotB d).length = 9 := by simp [dotB, put_length]
end Go.Proofs.Ythoggbomakolkaa
