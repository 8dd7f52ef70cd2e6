/- Parts, laid one behind the other. -/
import Derived.Test.YtkbkdfcakpbojaaB
namespace Go.Proofs.Ytkbkdfcakpbojaa
open Go Fw
set_option linter.unusedVariables false
set_option linter.unusedSimpArgs false

/-- The first i words of a vector. -/
def vecB (v : Vector UInt64 16) (i : Nat) : List UInt8 := (v.toList.take i).flatMap fun n => put n.toNat 8
theorem vecB_succ (v : Vector UInt64 16) (i : Nat) (h : i < 16) : vecB v (i + 1) = vecB v i ++ put v[i].toNat 8 := by
  have : i < v.toList.length := by simpa using h
  rw [vecB, List.take_succ_eq_append_getElem this, List.flatMap_append]
  simp [vecB]
theorem vecB_len (v : Vector UInt64 16) : ∀ i, i ≤ 16 → (vecB v i).length = 8 * i := by
  intro i
  induction i with
  | zero => intro _; simp [vecB]
  | succ i ih =>
    intro h
    rw [vecB_succ v i (by omega), List.length_append, ih (by omega), put_length]
    omega
theorem room8 (n : UInt64) : room n 8 := ⟨by omega, by omega, by have := n.toNat_lt; simpa using this⟩
theorem put8 (k : Nat) (hk : 9 ≤ k) (n : UInt64) : wire_Put k n 8 = some (put n.toNat 8, 0) := by
  rw [wirePut_eq k hk n 8 (by omega) (by omega), if_pos (room8 n)]
  rfl
theorem wireVec_eq (k : Nat) (hk : 17 ≤ k) (v : Vector UInt64 16) : wire_Vector k v = some (vecB v 16) := by
  have hl : loopO (fun s => wire_Vector.b1 k v s.1 s.2) k (([] : List UInt8), (0 : Int)) = some (vecB v 16) := by
    refine loop_g (n := 16) (fun i => (vecB v i, ((i : Nat) : Int))) _ (by simp [vecB]) ?_ ?_ (by omega)
    · intro i hi
      have h3 : idxV v (i : Int) = some v[i] := by simp [idxV, hi]
      have h4 := vecB_len v i (by omega)
      simp only [wire_Vector.b1, lt1, dec_t (show (i : Int) < 16 by omega), if_true, h3, put8 k (by omega), Option.bind_some, apL_ok (show ((vecB v i).length + (put v[i].toNat 8).length) * 1 ≤ 140737488355328 by rw [put_length]; omega), vecB_succ v i hi, w64_succ (show i < 9223372036854775807 by omega)]
    · simp only [wire_Vector.b1, lt1, dec_f (show ¬ ((16 : Nat) : Int) < 16 by omega), Bool.false_eq_true, if_false]
  simp only [wire_Vector, hl, Option.bind_some]
theorem refPut8 (k : Nat) (hk : 9 ≤ k) (n : UInt64) : ref01_Put k n 8 = some (put n.toNat 8) := refPut_eq k hk n 8 (Nat.le_refl _)
theorem refVec_eq (k : Nat) (hk : 17 ≤ k) (v : Vector UInt64 16) : ref01_Vector k v = some (vecB v 16) := by
  have hl : loopO (fun s => ref01_Vector.b1 k v s.1 s.2) k (([] : List UInt8), (0 : Int)) = some (vecB v 16) := by
    refine loop_g (n := 16) (fun i => (vecB v i, ((i : Nat) : Int))) _ (by simp [vecB]) ?_ ?_ (by omega)
    · intro i hi
      have h3 : inV 16 (i : Int) = some ⟨i, hi⟩ := inV_ok (by omega) (by simpa using hi)
      have h4 := vecB_len v i (by omega)
      simp only [ref01_Vector.b1, lt1, dec_t (show (i : Int) < 16 by omega), if_true, h3, getV, refPut8 k (by omega), Option.bind_some, apL_ok (show ((vecB v i).length + (put v[i].toNat 8).length) * 1 ≤ 140737488355328 by rw [put_length]; omega), vecB_succ v i hi, w64_succ (show i < 9223372036854775807 by omega)]
    · simp only [ref01_Vector.b1, lt1, dec_f (show ¬ ((16 : Nat) : Int) < 16 by omega), Bool.false_eq_true, if_false]
  simp only [ref01_Vector, hl, Option.bind_some]
theorem ofI_toNat {m : Nat} (h : m < 18446744073709551616) : (UN.ofI (m : Int) : UInt64).toNat = m := by
  show (UInt64.ofNat ((m : Int) % ((2 ^ 64 : Nat) : Int)).toNat).toNat = _
  have : ((m : Int) % ((2 ^ 64 : Nat) : Int)).toNat = m := by omega
  rw [this]
  exact UInt64.toNat_ofNat_of_lt' h
theorem refBlob_eq (k : Nat) (hk : 9 ≤ k) (b : List UInt8) (hb : b.length ≤ 140000000000000) : ref01_Blob k b = some (put b.length 2 ++ b) := by
  have h1 := refPut_eq k hk (UN.ofI (b.length : Int)) 2 (by omega)
  rw [ofI_toNat (by omega)] at h1
  have h1 : ref01_Put k (UN.ofI (b.length : Int)) 2 = some (put b.length 2) := h1
  simp only [ref01_Blob, lt1, h1, Option.bind_some, apL_ok (show ((put b.length 2).length + b.length) * 1 ≤ 140737488355328 by rw [put_length]; omega)]
theorem put1 (m : Nat) (h : m < 256) : put m 1 = [UInt8.ofNat m] := by simp [put]
theorem refDot_eq (k : Nat) (hk : 9 ≤ k) (d : api_Dot) (h : 0 ≤ d.Region ∧ d.Region ≤ 255) : ref01_Dot k d = some (UInt8.ofNat d.Region.toNat :: put d.Count.toNat 8) := by
  obtain ⟨m, hm⟩ : ∃ m : Nat, d.Region = m := ⟨d.Region.toNat, by omega⟩
  have h1 := refPut_eq k hk (UN.ofI d.Region) 1 (by omega)
  rw [hm, ofI_toNat (by omega), put1 m (by omega)] at h1
  have h1 : ref01_Put k (UN.ofI (m : Int)) 1 = some [UInt8.ofNat m] := h1
  simp only [ref01_Dot, lt1, hm, h1, refPut8 k hk, Option.bind_some, Int.toNat_natCast, apL_ok (show (([UInt8.ofNat m] : List UInt8).length + (put d.Count.toNat 8).length) * 1 ≤ 140737488355328 by rw [put_length]; show (1 + 8) * 1 ≤ _; omega)]
  rfl
/-- How many bytes the first i have. -/
def sumL (l : List (List UInt8)) (i : Nat) : Nat := ((l.take i).map List.length).sum
theorem sumL_succ (l : List (List UInt8)) (i : Nat) (h : i < l.length) : sumL l (i + 1) = sumL l i + l[i].length := by
  rw [sumL, List.take_succ_eq_append_getElem h]
  simp only [List.map_append, List.sum_append, List.map_cons, List.map_nil, List.sum_cons, List.sum_nil, Nat.add_zero, sumL]
theorem sumL_mono (l : List (List UInt8)) : ∀ i, sumL l i ≤ sumL l l.length := by
  intro i
  by_cases h : i ≤ l.length
  · have key : ∀ d, i + d ≤ l.length → sumL l i ≤ sumL l (i + d) := by
      intro d
      induction d with
      | zero => intro _; exact Nat.le_refl _
      | succ d ih =>
        intro hd
        have := ih (by omega)
        rw [← Nat.add_assoc, sumL_succ l (i + d) (by omega)]
        omega
    have := key (l.length - i) (by omega)
    rwa [show i + (l.length - i) = l.length by omega] at this
  · rw [sumL, sumL, List.take_of_length_le (by omega), List.take_length]; exact Nat.le_refl _
theorem much_eq (k : Nat) (l : List (List UInt8)) (hk : l.length < k) (hl : l.length ≤ 140737488351232) : ∃ b, ref01_Much k l 9000 = some b ∧ (b = false → l.length + sumL l l.length ≤ 9000) := by
  have hlp : ∃ t, loopO (fun s => ref01_Much.b1 k l 9000 s.1 s.2) k ((l.length : Int), (0 : Int)) = some t ∧ (t ≤ 9000 → t = ((l.length + sumL l l.length : Nat) : Int)) := by
    refine loop_inv (I := fun s : Int × Int => 0 ≤ s.2 ∧ s.2 ≤ (l.length : Int) ∧ 0 ≤ s.1 ∧ s.1 ≤ 140737488451232 ∧ (s.1 ≤ 9000 → s.1 = ((l.length + sumL l s.2.toNat : Nat) : Int))) (m := fun s => ((l.length : Int) - s.2).toNat) _ ?_ k _ ⟨by show (0 : Int) ≤ 0; omega, by show (0 : Int) ≤ _; omega, by show (0 : Int) ≤ (l.length : Int); omega, by show (l.length : Int) ≤ _; omega, fun _ => by simp [sumL]⟩ (by show ((l.length : Int) - (0 : Int)).toNat < k; omega)
    rintro ⟨n, s⟩ ⟨h0, h1, h2, h3, h4⟩
    simp only at h0 h1 h2 h3 h4
    have hw : w64 (9000 + 1) = 9001 := w64_id (by omega) (by omega)
    by_cases hc : s < (l.length : Int) ∧ n ≤ 9000
    · obtain ⟨i, rfl⟩ : ∃ i : Nat, s = i := ⟨s.toNat, by omega⟩
      have hi : i < l.length := by omega
      have h5 := h4 hc.2
      simp only [Int.toNat_natCast] at h5
      have hm : 0 ≤ minI (l[i].length : Int) 9001 ∧ minI (l[i].length : Int) 9001 ≤ 9001 ∧ (minI (l[i].length : Int) 9001 ≤ 9000 → minI (l[i].length : Int) 9001 = l[i].length) := by
        unfold minI; split <;> omega
      left
      simp only [ref01_Much.b1, lt1, dec_t hc.1, dec_t hc.2, cond_true, Option.bind_some, if_true, idxL_lt hi, hw, w64_id (show -9223372036854775808 ≤ n + minI (l[i].length : Int) 9001 by omega) (by omega), w64_succ (show i < 9223372036854775807 by omega)]
      refine ⟨_, rfl, ⟨by show (0 : Int) ≤ ((i + 1 : Nat) : Int); omega, by show ((i + 1 : Nat) : Int) ≤ _; omega, by show 0 ≤ n + minI (l[i].length : Int) 9001; omega, by show n + minI (l[i].length : Int) 9001 ≤ _; omega, fun h => ?_⟩, by show ((l.length : Int) - ((i + 1 : Nat) : Int)).toNat < ((l.length : Int) - (i : Int)).toNat; omega⟩
      show n + minI (l[i].length : Int) 9001 = _
      have h6 : n + minI (l[i].length : Int) 9001 ≤ 9000 := h
      have h7 := hm.2.2 (by omega)
      rw [h7, h5]
      simp only [Int.toNat_natCast]
      rw [sumL_succ l i hi]
      omega
    · right
      have hb : (bif decide (s < (l.length : Int)) then decide (n ≤ 9000) else false) = false := by
        by_cases h5 : s < (l.length : Int)
        · have : ¬ n ≤ 9000 := fun h => hc ⟨h5, h⟩
          simp [h5, this]
        · simp [h5]
      simp only [ref01_Much.b1, lt1, hb, Option.bind_some, Bool.false_eq_true, if_false]
      refine ⟨_, rfl, fun h => ?_⟩
      have h5 : ¬ s < (l.length : Int) := fun h6 => hc ⟨h6, h⟩
      rw [h4 h, show s.toNat = l.length by omega]
  obtain ⟨t, h1, h2⟩ := hlp
  refine ⟨decide (t > 9000), by simp only [ref01_Much, h1, lt1, Option.bind_some], fun h => ?_⟩
  have h3 : ¬ t > 9000 := of_decide_eq_false h
  have := h2 (by omega)
  omega
theorem flat_succ (l : List (List UInt8)) (i : Nat) (h : i < l.length) : (l.take (i + 1)).flatten = (l.take i).flatten ++ l[i] := by
  rw [List.take_succ_eq_append_getElem h, List.flatten_append]; simp only [List.flatten_cons, List.flatten_nil, List.append_nil]
theorem flat_len (l : List (List UInt8)) (i : Nat) : (l.take i).flatten.length = sumL l i := by simp [sumL, List.length_flatten]
theorem join_eq (k : Nat) (l : List (List UInt8)) (hk : l.length < k) (hs : sumL l l.length ≤ 1000000) (hl : l.length ≤ 1000000) : wire_Join k l = some l.flatten := by
  have h1 : loopO (fun s => slices_Concatbyte_byte.b1 k l s.1 s.2) k ((0 : Int), (0 : Int)) = some (sumL l l.length : Int) := by
    refine loop_g (n := l.length) (fun i => ((sumL l i : Int), ((i : Nat) : Int))) _ (by simp [sumL]) ?_ ?_ (by omega)
    · intro i hi
      have h2 := sumL_mono l (i + 1)
      have h3 := sumL_succ l i hi
      have e1 : w64 ((sumL l i : Int) + (l[i].length : Int)) = (sumL l (i + 1) : Int) := by rw [w64_id (by omega) (by omega)]; omega
      simp only [slices_Concatbyte_byte.b1, lt1, dec_t (show (i : Int) < (l.length : Int) by omega), if_true, idxL_lt hi, Option.bind_some, e1, dec_f (show ¬ (sumL l (i + 1) : Int) < 0 by omega), Bool.false_eq_true, if_false, w64_succ (show i < 9223372036854775807 by omega)]
    · simp only [slices_Concatbyte_byte.b1, lt1, dec_f (show ¬ (l.length : Int) < (l.length : Int) by omega), Bool.false_eq_true, if_false]
  have h2 : slices_Growbyte_byte k (sumL l l.length : Int) = some () := by
    have e1 : w64 (0 - 0) = 0 := w64_id (by omega) (by omega)
    have e2 : w64 ((sumL l l.length : Int) - 0) = (sumL l l.length : Int) := by rw [w64_id (by omega) (by omega)]; omega
    simp only [slices_Growbyte_byte, lt1, dec_f (show ¬ (sumL l l.length : Int) < 0 by omega), Bool.false_eq_true, if_false, Option.bind_some, e1, e2]
    by_cases h : (sumL l l.length : Int) > 0
    · have e3 : apZ 1 ([] : List UInt8) (sumL l l.length : Int) 0 = some (List.replicate (sumL l l.length) 0) := by
        unfold apZ
        rw [if_pos ⟨by omega, by omega, by simp; omega⟩]
        simp
      simp only [h, decide_true, if_true, e3, Option.bind_some]
    · simp only [h, decide_false, Bool.false_eq_true, if_false, Option.bind_some]
  have h3 : loopO (fun s => slices_Concatbyte_byte.b2 k l s.1 s.2) k (([] : List UInt8), (0 : Int)) = some l.flatten := by
    refine loop_g (n := l.length) (fun i => ((l.take i).flatten, ((i : Nat) : Int))) _ (by simp) ?_ ?_ (by omega)
    · intro i hi
      have h4 := sumL_mono l (i + 1)
      have h5 := sumL_succ l i hi
      have h6 := flat_len l i
      simp only [slices_Concatbyte_byte.b2, lt1, dec_t (show (i : Int) < (l.length : Int) by omega), if_true, idxL_lt hi, Option.bind_some, apL_ok (show ((l.take i).flatten.length + l[i].length) * 1 ≤ 140737488355328 by omega), flat_succ l i hi, w64_succ (show i < 9223372036854775807 by omega)]
    · simp only [slices_Concatbyte_byte.b2, lt1, dec_f (show ¬ (l.length : Int) < (l.length : Int) by omega), Bool.false_eq_true, if_false, List.take_length]
  simp only [wire_Join, slices_Concatbyte_byte, h1, h2, h3, Option.bind_some]
theorem refJoin_eq (k : Nat) (l : List (List UInt8)) (hk : l.length < k) (hs : sumL l l.length ≤ 1000000) (hl : l.length ≤ 1000000) : ref01_Join k l = some l.flatten := by
  have h3 : loopO (fun s => ref01_Join.b1 k l s.1 s.2) k (([] : List UInt8), (0 : Int)) = some l.flatten := by
    refine loop_g (n := l.length) (fun i => ((l.take i).flatten, ((i : Nat) : Int))) _ (by simp) ?_ ?_ (by omega)
    · intro i hi
      have h4 := sumL_mono l (i + 1)
      have h5 := sumL_succ l i hi
      have h6 := flat_len l i
      simp only [ref01_Join.b1, lt1, dec_t (show (i : Int) < (l.length : Int) by omega), if_true, idxL_lt hi, Option.bind_some, apL_ok (show ((l.take i).flatten.length + l[i].length) * 1 ≤ 140737488355328 by omega), flat_succ l i hi, w64_succ (show i < 9223372036854775807 by omega)]
    · simp only [ref01_Join.b1, lt1, dec_f (show ¬ (l.length : Int) < (l.length : Int) by omega), Bool.false_eq_true, if_false, List.take_length]
  simp only [ref01_Join, h3, Option.bind_some]
end Go.Proofs.Ytkbkdfcakpbojaa
