/- The reference's numbers (out of law09, law03). -/
import Derived.Test.YtklnihlchhhhlaaGreatB
import Derived.Test.YtklnihlchhhhlaaGreatG
namespace Go.Proofs.YtklnihlchhhhlaaGreat
open Go Fw
set_option linter.unusedVariables false
set_option linter.unusedSimpArgs false

theorem div256 (n : UInt64) : divU n (256 : UInt64) = some (UInt64.ofNat (n.toNat / 256)) := by
  unfold divU
  rw [if_neg (by decide)]
  refine congrArg some (UInt64.toNat_inj.1 ?_)
  show (n / 256).toNat = _
  rw [UInt64.toNat_div, UInt64.toNat_ofNat_of_lt' (Nat.lt_of_le_of_lt (Nat.div_le_self _ _) n.toNat_lt)]
  rfl
theorem mod256 (n : UInt64) : modU n (256 : UInt64) = some (UInt64.ofNat (n.toNat % 256)) := by
  unfold modU
  rw [if_neg (by decide)]
  refine congrArg some (UInt64.toNat_inj.1 ?_)
  show (n % 256).toNat = _
  rw [UInt64.toNat_mod, UInt64.toNat_ofNat_of_lt' (Nat.lt_of_le_of_lt (Nat.mod_le _ _) n.toNat_lt)]
  rfl
theorem refPut_eq (k : Nat) (hk : 9 ≤ k) (n : UInt64) (s : Nat) (hs : s ≤ 8) : ref01_Put k n (s : Int) = some (put n.toNat s) := by
  have e0 : w64 ((s : Int) - 1) = (s : Int) - 1 := w64_id (by omega) (by omega)
  have hl : loopO (fun x => ref01_Put.b1 k x.1 x.2.1 x.2.2) k (n, List.replicate s (0 : UInt8), (s : Int) - 1) = some (put n.toNat s) := by
    refine loop_g (n := s) (fun j => (UInt64.ofNat (n.toNat / 256 ^ j), (List.range s).map (fun i => if s - 1 - i < j then UInt8.ofNat (n.toNat / 256 ^ (s - 1 - i)) else 0), (s : Int) - 1 - (j : Int))) _ ?_ ?_ ?_ (by omega)
    · simp only [Nat.pow_zero, Nat.div_one, Nat.not_lt_zero, if_false]
      refine Prod.ext (by simp) (Prod.ext ?_ (by simp))
      apply List.ext_getElem?
      intro i
      by_cases hi : i < s <;> simp [hi]
    · intro j hj
      have e1 : inO ((List.range s).map (fun i => if s - 1 - i < j then UInt8.ofNat (n.toNat / 256 ^ (s - 1 - i)) else 0)) ((s : Int) - 1 - (j : Int)) = some (s - 1 - j) := by
        rw [inO_ok (by omega) (by simp; omega)]
        congr 1
        omega
      have e2 : w64 ((s : Int) - 1 - (j : Int) - 1) = (s : Int) - 1 - ((j + 1 : Nat) : Int) := by rw [w64_id (by omega) (by omega)]; omega
      have e3 : (UN.to (UInt64.ofNat (n.toNat / 256 ^ j % 256)) : UInt8) = UInt8.ofNat (n.toNat / 256 ^ j) := by
        show UInt8.ofNat (UInt64.toNat _) = _
        have : (UInt64.ofNat (n.toNat / 256 ^ j % 256)).toNat = n.toNat / 256 ^ j % 256 := UInt64.toNat_ofNat_of_lt' (Nat.lt_of_lt_of_le (Nat.mod_lt _ (by decide)) (by decide))
        rw [this]
        apply UInt8.toNat_inj.1
        simp
      simp only [ref01_Put.b1, lt1, dec_t (show (s : Int) - 1 - (j : Int) ≥ 0 by omega), if_true, mod256, div256, ofNat_div, Option.bind_some, e1, e2, e3, setO'_ok (show s - 1 - j < ((List.range s).map (fun i => if s - 1 - i < j then UInt8.ofNat (n.toNat / 256 ^ (s - 1 - i)) else 0)).length by simp; omega), Nat.div_div_eq_div_mul, ← Nat.pow_succ, Option.some.injEq, Sum.inl.injEq, Prod.mk.injEq, true_and, and_true]
      apply List.ext_getElem?
      intro i
      by_cases hi : i < s
      · rw [List.getElem?_set]
        by_cases hij : s - 1 - j = i
        · have h1 : s - 1 - i = j := by omega
          rw [if_pos hij, if_pos (by simp; omega)]
          simp [hi, h1]
        · rw [if_neg hij]
          have h1 : (s - 1 - i < j) ↔ (s - 1 - i < j + 1) := by omega
          simp [hi, h1]
      · rw [List.getElem?_eq_none (by simp; omega), List.getElem?_eq_none (by simp; omega)]
    · simp only [ref01_Put.b1, lt1, dec_f (show ¬ (s : Int) - 1 - (s : Int) ≥ 0 by omega), Bool.false_eq_true, if_false, Option.some.injEq, Sum.inr.injEq]
      apply List.ext_getElem?
      intro i
      by_cases hi : i < s
      · have : s - 1 - i < s := by omega
        simp [put, hi, this]
      · rw [List.getElem?_eq_none (by simp; omega), List.getElem?_eq_none (by rw [put_length]; omega)]
  simp only [ref01_Put, lt1, mkL_ok (show 0 ≤ (s : Int) by omega) (show (s : Int).toNat * 1 ≤ 281474976710656 by omega) (show (s : Int) ≤ 9223372036854775807 by omega), Option.bind_some, e0, Int.toNat_natCast, hl]
theorem refPut8 (k : Nat) (hk : 9 ≤ k) (n : UInt64) : ref01_Put k n 8 = some (put n.toNat 8) := refPut_eq k hk n 8 (Nat.le_refl _)
theorem refBlob_eq (k : Nat) (hk : 9 ≤ k) (b : List UInt8) (hb : b.length ≤ 140000000000000) : ref01_Blob k b = some (put b.length 2 ++ b) := by
  have h1 := refPut_eq k hk (UN.ofI (b.length : Int)) 2 (by omega)
  rw [ofI_toNat (by omega)] at h1
  have h1 : ref01_Put k (UN.ofI (b.length : Int)) 2 = some (put b.length 2) := h1
  simp only [ref01_Blob, lt1, h1, Option.bind_some, apL_ok (show ((put b.length 2).length + b.length) * 1 ≤ 140737488355328 by rw [put_length]; omega)]
theorem put1 (m : Nat) (h : m < 256) : put m 1 = [UInt8.ofNat m] := by simp [put]
theorem refDot_eq (k : Nat) (hk : 9 ≤ k) (d : api_Dot) (h : 0 ≤ d.Region ∧ d.Region ≤ 255) : ref01_Dot k d = some (UInt8.ofNat d.Region.toNat :: put d.Count.toNat 8) := by
  obtain ⟨m, hm⟩ : ∃ m : Nat, d.Region = m := ⟨d.Region.toNat, by omega⟩
  have h1 := refPut_eq k hk (UN.ofI d.Region) 1 (by omega)
  rw [hm, ofI_toNat (by omega), put1 m (by omega)] at h1
  have h1 : ref01_Put k (UN.ofI (m : Int)) 1 = some [UInt8.ofNat m] := h1
  simp only [ref01_Dot, lt1, hm, h1, refPut8 k hk, Option.bind_some, Int.toNat_natCast, apL_ok (show (([UInt8.ofNat m] : List UInt8).length + (put d.Count.toNat 8).length) * 1 ≤ 140737488355328 by rw [put_length]; show (1 + 8) * 1 ≤ _; omega)]
  rfl
/-- How many bytes the first i have. -/
def sumL (l : List (List UInt8)) (i : Nat) : Nat := ((l.take i).map List.length).sum
theorem sumL_succ (l : List (List UInt8)) (i : Nat) (h : i < l.length) : sumL l (i + 1) = sumL l i + l[i].length := by
  rw [sumL, List.take_succ_eq_append_getElem h]
  simp only [List.map_append, List.sum_append, List.map_cons, List.map_nil, List.sum_cons, List.sum_nil, Nat.add_zero, sumL]
theorem sumL_mono (l : List (List UInt8)) : ∀ i, sumL l i ≤ sumL l l.length := by
  intro i
  by_cases h : i ≤ l.length
  · have key : ∀ d, i + d ≤ l.length → sumL l i ≤ sumL l (i + d) := by
      intro d
      induction d with
      | zero => intro _; exact Nat.le_refl _
      | succ d ih =>
        intro hd
        have := ih (by omega)
        rw [← Nat.add_assoc, sumL_succ l (i + d) (by omega)]
        omega
    have := key (l.length - i) (by omega)
    rwa [show i + (l.length - i) = l.length by omega] at this
  · rw [sumL, sumL, List.take_of_length_le (by omega), List.take_length]; exact Nat.le_refl _
theorem flat_succ (l : List (List UInt8)) (i : Nat) (h : i < l.length) : (l.take (i + 1)).flatten = (l.take i).flatten ++ l[i] := by
  rw [List.take_succ_eq_append_getElem h, List.flatten_append]; simp only [List.flatten_cons, List.flatten_nil, List.append_nil]
theorem flat_len (l : List (List UInt8)) (i : Nat) : (l.take i).flatten.length = sumL l i := by simp [sumL, List.length_flatten]
theorem flat_all (l : List (List UInt8)) : sumL l l.length = l.flatten.length := by rw [← flat_len, List.take_length]
theorem refJoin_eq (k : Nat) (l : List (List UInt8)) (hk : l.length < k) (hs0 : l.flatten.length ≤ 1000000) (hl : l.length ≤ 1000000) : ref01_Join k l = some l.flatten := by
  have hs : sumL l l.length ≤ 1000000 := by rw [flat_all]; exact hs0
  have h3 : loopO (fun s => ref01_Join.b1 k l s.1 s.2) k (([] : List UInt8), (0 : Int)) = some l.flatten := by
    refine loop_g (n := l.length) (fun i => ((l.take i).flatten, ((i : Nat) : Int))) _ (by simp) ?_ ?_ (by omega)
    · intro i hi
      have h4 := sumL_mono l (i + 1)
      have h5 := sumL_succ l i hi
      have h6 := flat_len l i
      simp only [ref01_Join.b1, lt1, dec_t (show (i : Int) < (l.length : Int) by omega), if_true, idxL_lt hi, Option.bind_some, apL_ok (show ((l.take i).flatten.length + l[i].length) * 1 ≤ 140737488355328 by omega), flat_succ l i hi, w64_succ (show i < 9223372036854775807 by omega)]
    · simp only [ref01_Join.b1, lt1, dec_f (show ¬ (l.length : Int) < (l.length : Int) by omega), Bool.false_eq_true, if_false, List.take_length]
  simp only [ref01_Join, h3, Option.bind_some]
end Go.Proofs.YtklnihlchhhhlaaGreat
