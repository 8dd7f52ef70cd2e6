/- Numbers as bytes; a message, padded; its blocks; lists, joined; the hash of a message, alike. -/
import Derived.Test.YtbflmobpbjnekaaB
namespace Go.Proofs.Ytbflmobpbjnekaa
open Go Fw
set_option linter.unusedVariables false
set_option linter.unusedSimpArgs false

def put (n s : Nat) : List UInt8 := (List.range s).map fun i => UInt8.ofNat (n / 256 ^ (s - 1 - i))
theorem put_length (n s : Nat) : (put n s).length = s := by simp [put]
theorem put_get (n s i : Nat) (h : i < s) : (put n s)[i]? = some (UInt8.ofNat (n / 256 ^ (s - 1 - i))) := by simp [put, h]
theorem pow256 (m : Nat) : 2 ^ (8 * m) = 256 ^ m := by rw [Nat.pow_mul]
theorem shrU_nat (n : UInt64) (m : Nat) (h : m ≤ 8) : shrU n ((8 * m : Nat) : Int) = some (UInt64.ofNat (n.toNat / 256 ^ m)) := by
  simp only [shrU, UN.shr]
  rw [if_neg (by omega)]
  have e : min (((8 * m : Nat) : Int)).toNat (UN.bits UInt64) = 8 * m := by
    show min _ 64 = _
    omega
  rw [e, pow256]
  rfl
theorem ofNat_div (n : UInt64) (m : Nat) : (UInt64.ofNat (n.toNat / 256 ^ m)).toNat = n.toNat / 256 ^ m := UInt64.toNat_ofNat_of_lt' (Nat.lt_of_le_of_lt (Nat.div_le_self _ _) n.toNat_lt)
theorem div256 (n : UInt64) : divU n (256 : UInt64) = some (UInt64.ofNat (n.toNat / 256)) := by
  unfold divU
  rw [if_neg (by decide)]
  refine congrArg some (UInt64.toNat_inj.1 ?_)
  show (n / 256).toNat = _
  rw [UInt64.toNat_div, UInt64.toNat_ofNat_of_lt' (Nat.lt_of_le_of_lt (Nat.div_le_self _ _) n.toNat_lt)]
  rfl
theorem mod256 (n : UInt64) : modU n (256 : UInt64) = some (UInt64.ofNat (n.toNat % 256)) := by
  unfold modU
  rw [if_neg (by decide)]
  refine congrArg some (UInt64.toNat_inj.1 ?_)
  show (n % 256).toNat = _
  rw [UInt64.toNat_mod, UInt64.toNat_ofNat_of_lt' (Nat.lt_of_le_of_lt (Nat.mod_le _ _) n.toNat_lt)]
  rfl
theorem refPut_eq (k : Nat) (hk : 9 ≤ k) (n : UInt64) (s : Nat) (hs : s ≤ 8) : ref01_Put k n (s : Int) = some (put n.toNat s) := by
  have e0 : w64 ((s : Int) - 1) = (s : Int) - 1 := w64_id (by omega) (by omega)
  have hl : loopO (fun x => ref01_Put.b1 k x.1 x.2.1 x.2.2) k (n, List.replicate s (0 : UInt8), (s : Int) - 1) = some (put n.toNat s) := by
    refine loop_g (n := s) (fun j => (UInt64.ofNat (n.toNat / 256 ^ j), (List.range s).map (fun i => if s - 1 - i < j then UInt8.ofNat (n.toNat / 256 ^ (s - 1 - i)) else 0), (s : Int) - 1 - (j : Int))) _ ?_ ?_ ?_ (by omega)
    · simp only [Nat.pow_zero, Nat.div_one, Nat.not_lt_zero, if_false]
      refine Prod.ext (by simp) (Prod.ext ?_ (by simp))
      apply List.ext_getElem?
      intro i
      by_cases hi : i < s <;> simp [hi]
    · intro j hj
      have e1 : inO ((List.range s).map (fun i => if s - 1 - i < j then UInt8.ofNat (n.toNat / 256 ^ (s - 1 - i)) else 0)) ((s : Int) - 1 - (j : Int)) = some (s - 1 - j) := by
        rw [inO_ok (by omega) (by simp; omega)]
        congr 1
        omega
      have e2 : w64 ((s : Int) - 1 - (j : Int) - 1) = (s : Int) - 1 - ((j + 1 : Nat) : Int) := by rw [w64_id (by omega) (by omega)]; omega
      have e3 : (UN.to (UInt64.ofNat (n.toNat / 256 ^ j % 256)) : UInt8) = UInt8.ofNat (n.toNat / 256 ^ j) := by
        show UInt8.ofNat (UInt64.toNat _) = _
        have : (UInt64.ofNat (n.toNat / 256 ^ j % 256)).toNat = n.toNat / 256 ^ j % 256 := UInt64.toNat_ofNat_of_lt' (Nat.lt_of_lt_of_le (Nat.mod_lt _ (by decide)) (by decide))
        rw [this]
        apply UInt8.toNat_inj.1
        simp
      simp only [ref01_Put.b1, lt1, dec_t (show (s : Int) - 1 - (j : Int) ≥ 0 by omega), if_true, mod256, div256, ofNat_div, Option.bind_some, e1, e2, e3, setO'_ok (show s - 1 - j < ((List.range s).map (fun i => if s - 1 - i < j then UInt8.ofNat (n.toNat / 256 ^ (s - 1 - i)) else 0)).length by simp; omega), Nat.div_div_eq_div_mul, ← Nat.pow_succ, Option.some.injEq, Sum.inl.injEq, Prod.mk.injEq, true_and, and_true]
      apply List.ext_getElem?
      intro i
      by_cases hi : i < s
      · rw [List.getElem?_set]
        by_cases hij : s - 1 - j = i
        · have h1 : s - 1 - i = j := by omega
          rw [if_pos hij, if_pos (by simp; omega)]
          simp [hi, h1]
        · rw [if_neg hij]
          have h1 : (s - 1 - i < j) ↔ (s - 1 - i < j + 1) := by omega
          simp [hi, h1]
      · rw [List.getElem?_eq_none (by simp; omega), List.getElem?_eq_none (by simp; omega)]
    · simp only [ref01_Put.b1, lt1, dec_f (show ¬ (s : Int) - 1 - (s : Int) ≥ 0 by omega), Bool.false_eq_true, if_false, Option.some.injEq, Sum.inr.injEq]
      apply List.ext_getElem?
      intro i
      by_cases hi : i < s
      · have : s - 1 - i < s := by omega
        simp [put, hi, this]
      · rw [List.getElem?_eq_none (by simp; omega), List.getElem?_eq_none (by rw [put_length]; omega)]
  simp only [ref01_Put, lt1, mkL_ok (show 0 ≤ (s : Int) by omega) (show (s : Int).toNat * 1 ≤ 281474976710656 by omega) (show (s : Int) ≤ 9223372036854775807 by omega), Option.bind_some, e0, Int.toNat_natCast, hl]

def padZ (n : Nat) : Nat := (120 - (n + 1) % 64) % 64
def padded (m : List UInt8) : List UInt8 := m ++ [128] ++ List.replicate (padZ m.length) 0 ++ put (m.length * 8) 8
theorem padded_len (m : List UInt8) : (padded m).length = m.length + 1 + padZ m.length + 8 := by
  simp [padded, put_length]; omega
theorem padded_mod (m : List UInt8) : (padded m).length % 64 = 0 := by
  rw [padded_len]; unfold padZ; omega
theorem len8 (m : List UInt8) (h : m.length ≤ 1000000) : ((UN.ofI (m.length : Int) : UInt64) * 8).toNat = m.length * 8 := by
  have : (UN.ofI (m.length : Int) : UInt64).toNat = m.length := by
    show (UInt64.ofNat ((m.length : Int) % ((2 ^ 64 : Nat) : Int)).toNat).toNat = _
    have : ((m.length : Int) % ((2 ^ 64 : Nat) : Int)).toNat = m.length := by omega
    rw [this]
    exact UInt64.toNat_ofNat_of_lt' (by show _ < 2 ^ 64; omega)
  rw [UInt64.toNat_mul, this]
  show m.length * 8 % 18446744073709551616 = _
  omega
theorem modI64 (n : Nat) : modI (n : Int) 64 = some ((n % 64 : Nat) : Int) := by
  have : (n : Int).tmod 64 = ((n % 64 : Nat) : Int) := by rw [show (64 : Int) = ((64 : Nat) : Int) from rfl, Int.ofNat_tmod]
  simp only [modI, this]
  rw [if_neg (by decide)]
theorem refPad_eq (k : Nat) (hk : 200 ≤ k) (m : List UInt8) (hm : m.length ≤ 1000000) : ref03_pad k m = some (padded m) := by
  have hl : loopO (fun s => ref03_pad.b1 k s) k (m ++ [128]) = some (m ++ [128] ++ List.replicate (padZ m.length) 0) := by
    refine loop_g (n := padZ m.length) (fun i => m ++ [128] ++ List.replicate i 0) _ (by simp) ?_ ?_ (by have : padZ m.length < 64 := Nat.mod_lt _ (by decide); omega)
    · intro i hi
      have hln : (m ++ [128] ++ List.replicate i (0 : UInt8)).length = m.length + 1 + i := by simp; omega
      have hne : ((m.length + 1 + i) % 64 : Nat) ≠ 56 := by unfold padZ at hi; omega
      have hb : ((((m.length + 1 + i) % 64 : Nat) : Int) != 56) = true := by simp; omega
      have hap : apL 1 (m ++ [128] ++ List.replicate i (0 : UInt8)) [0] = some (m ++ [128] ++ List.replicate (i + 1) 0) := by
        have : padZ m.length < 64 := Nat.mod_lt _ (by decide)
        rw [apL_ok (by rw [hln]; show (m.length + 1 + i + 1) * 1 ≤ _; omega), List.replicate_succ', List.append_assoc]
      simp only [ref03_pad.b1, hln, modI64, Option.bind_some, lt1, hb, if_true, hap]
    · have hln : (m ++ [128] ++ List.replicate (padZ m.length) (0 : UInt8)).length = m.length + 1 + padZ m.length := by simp; omega
      have hb : ((((m.length + 1 + padZ m.length) % 64 : Nat) : Int) != 56) = false := by
        have : (m.length + 1 + padZ m.length) % 64 = 56 := by unfold padZ; omega
        rw [this]; rfl
      simp only [ref03_pad.b1, hln, modI64, Option.bind_some, lt1, hb, Bool.false_eq_true, if_false]
  have hp := refPut_eq k (by omega) ((UN.ofI (m.length : Int) : UInt64) * 8) 8 (Nat.le_refl _)
  rw [len8 m hm] at hp
  have hp : ref01_Put k ((UN.ofI (m.length : Int) : UInt64) * 8) 8 = some (put (m.length * 8) 8) := hp
  have hz : padZ m.length < 64 := Nat.mod_lt _ (by decide)
  simp only [ref03_pad, apL_ok (show (([] : List UInt8).length + m.length) * 1 ≤ 140737488355328 by simp; omega), List.nil_append, apL_ok (show (m.length + ([128] : List UInt8).length) * 1 ≤ 140737488355328 by show (m.length + 1) * 1 ≤ _; omega), hl, hp, Option.bind_some, lt1,
    apL_ok (show ((m ++ [128] ++ List.replicate (padZ m.length) (0 : UInt8)).length + (put (m.length * 8) 8).length) * 1 ≤ 140737488355328 by simp [put_length]; omega)]
  rfl

theorem shaTail (k : Nat) (hk : 200 ≤ k) (n : UInt64) (b : List UInt8) (hb : b.length ≤ 2000000) : loopO (fun s => sha_state_hash.b1 k n s.1 s.2) k (b, (0 : Int)) = some (b ++ put n.toNat 8) := by
  refine loop_g (n := 8) (fun i => (b ++ (put n.toNat 8).take i, ((i : Nat) : Int))) _ (by simp) ?_ ?_ (by omega)
  · intro i hi
    have e1 : w64 (8 * (i : Int)) = ((8 * i : Nat) : Int) := by rw [w64_id (by omega) (by omega)]; omega
    have e2 : w64 (56 - ((8 * i : Nat) : Int)) = ((8 * (7 - i) : Nat) : Int) := by rw [w64_id (by omega) (by omega)]; omega
    have h2 : i < (put n.toNat 8).length := by rw [put_length]; exact hi
    have e4 : apL 1 (b ++ (put n.toNat 8).take i) [UN.to (UInt64.ofNat (n.toNat / 256 ^ (7 - i)))] = some (b ++ (put n.toNat 8).take (i + 1)) := by
      rw [apL_ok (by simp [put_length]; omega)]
      congr 1
      have h1 : (UN.to (UInt64.ofNat (n.toNat / 256 ^ (7 - i))) : UInt8) = UInt8.ofNat (n.toNat / 256 ^ (7 - i)) := by
        show UInt8.ofNat (UInt64.toNat _) = _
        rw [ofNat_div]
      rw [h1, List.append_assoc, List.take_succ_eq_append_getElem h2]
      congr 3
      have h3 := put_get n.toNat 8 i hi
      rw [List.getElem?_eq_getElem h2] at h3
      exact (Option.some.inj h3).symm
    simp only [sha_state_hash.b1, lt1, dec_t (show (i : Int) < 8 by omega), if_true, e1, e2, shrU_nat n _ (show 7 - i ≤ 8 by omega), Option.bind_some, e4, w64_succ (show i < 9223372036854775807 by omega)]
  · simp only [sha_state_hash.b1, lt1, dec_f (show ¬ ((8 : Nat) : Int) < 8 by omega), Bool.false_eq_true, if_false]
    rw [List.take_of_length_le (by rw [put_length]; exact Nat.le_refl _)]

theorem bk_ex (kc : List UInt32) (m : List UInt8) (h : Vector UInt32 8) : ∃ f : Nat → Vector UInt32 8, f 0 = h ∧ ∀ i, f (i + 1) = prs kc (f i) ((m.drop (64 * i)).take 64) :=
  ⟨fun n => Nat.rec h (fun i s => prs kc s ((m.drop (64 * i)).take 64)) n, rfl, fun _ => rfl⟩
noncomputable def bk (kc : List UInt32) (m : List UInt8) (h : Vector UInt32 8) : Nat → Vector UInt32 8 := Classical.choose (bk_ex kc m h)
theorem bk_zero (kc : List UInt32) (m : List UInt8) (h : Vector UInt32 8) : bk kc m h 0 = h := (Classical.choose_spec (bk_ex kc m h)).1
theorem bk_succ (kc : List UInt32) (m : List UInt8) (h : Vector UInt32 8) (i : Nat) : bk kc m h (i + 1) = prs kc (bk kc m h i) ((m.drop (64 * i)).take 64) := (Classical.choose_spec (bk_ex kc m h)).2 i
theorem shaBlocks (k : Nat) (hk : 200 ≤ k) (t : sha_state) (m : List UInt8) (q : Nat) (hm : m.length = 64 * q) (hq : q < k) (hq2 : q ≤ 100000) : loopO (fun s => sha_state_hash.b2 k s.1 s.2) k (t, m) = some { t with h := bk t.k.toList m t.h q } := by
  refine loop_g (n := q) (fun i => ({ t with h := bk t.k.toList m t.h i }, m.drop (64 * i))) _ (by simp only [bk_zero]; rfl) ?_ ?_ hq
  · intro i hi
    have hl : (m.drop (64 * i)).length = 64 * q - 64 * i := by rw [List.length_drop, hm]
    have h1 : subL (m.drop (64 * i)) 0 64 = some ((m.drop (64 * i)).take 64) := by rw [subL_ok (by omega) (by omega) (by rw [hl]; omega)]; simp
    have h2 : subL (m.drop (64 * i)) 64 ((m.drop (64 * i)).length : Int) = some (m.drop (64 * (i + 1))) := by
      rw [subL_ok (by omega) (by rw [hl]; omega) (by omega)]
      congr 1
      rw [List.take_of_length_le (by simp; omega), List.drop_drop]
      congr 1
    have h3 := shaPress k hk { t with h := bk t.k.toList m t.h i } ((m.drop (64 * i)).take 64) (by rw [List.length_take, hl]; omega)
    simp only [sha_state_hash.b2, lt1, dec_t (show ((m.drop (64 * i)).length : Int) > 0 by rw [hl]; omega), if_true, h1, h2, h3, Option.bind_some, bk_succ]
  · have hl : (m.drop (64 * q)).length = 0 := by rw [List.length_drop, hm]; omega
    simp only [sha_state_hash.b2, lt1, dec_f (show ¬ ((m.drop (64 * q)).length : Int) > 0 by rw [hl]; omega), Bool.false_eq_true, if_false]
theorem refBlocks (k : Nat) (hk : 200 ≤ k) (kc : List UInt32) (hkc : kc.length = 64) (h : Vector UInt32 8) (m : List UInt8) (q : Nat) (hm : m.length = 64 * q) (hq : q < k) (hq2 : q ≤ 100000) : loopO (fun s => ref03_Sum.b1 k m kc s.1 s.2) k (h, (0 : Int)) = some (bk kc m h q) := by
  refine loop_g (n := q) (fun i => (bk kc m h i, ((64 * i : Nat) : Int))) _ (by simp only [bk_zero]; rfl) ?_ ?_ hq
  · intro i hi
    have e1 : w64 (((64 * i : Nat) : Int) + 64) = ((64 * (i + 1) : Nat) : Int) := by rw [w64_id (by omega) (by omega)]; omega
    have h1 : subL m ((64 * i : Nat) : Int) ((64 * (i + 1) : Nat) : Int) = some ((m.drop (64 * i)).take 64) := by
      rw [subL_ok (by omega) (by omega) (by rw [hm]; omega)]
      congr 2
      omega
    have h3 := refPress k hk (bk kc m h i) ((m.drop (64 * i)).take 64) (by rw [List.length_take, List.length_drop, hm]; omega) kc hkc
    simp only [ref03_Sum.b1, lt1, dec_t (show ((64 * i : Nat) : Int) < (m.length : Int) by rw [hm]; omega), if_true, e1, h1, h3, Option.bind_some, bk_succ]
  · simp only [ref03_Sum.b1, lt1, dec_f (show ¬ ((64 * q : Nat) : Int) < (m.length : Int) by rw [hm]; omega), Bool.false_eq_true, if_false]

/-- How many bytes the first i have. -/
def sumL (l : List (List UInt8)) (i : Nat) : Nat := ((l.take i).map List.length).sum
theorem sumL_succ (l : List (List UInt8)) (i : Nat) (h : i < l.length) : sumL l (i + 1) = sumL l i + l[i].length := by
  rw [sumL, List.take_succ_eq_append_getElem h]
  simp only [List.map_append, List.sum_append, List.map_cons, List.map_nil, List.sum_cons, List.sum_nil, Nat.add_zero, sumL]
theorem sumL_mono (l : List (List UInt8)) : ∀ i, sumL l i ≤ sumL l l.length := by
  intro i
  by_cases h : i ≤ l.length
  · have key : ∀ d, i + d ≤ l.length → sumL l i ≤ sumL l (i + d) := by
      intro d
      induction d with
      | zero => intro _; exact Nat.le_refl _
      | succ d ih =>
        intro hd
        have := ih (by omega)
        rw [← Nat.add_assoc, sumL_succ l (i + d) (by omega)]
        omega
    have := key (l.length - i) (by omega)
    rwa [show i + (l.length - i) = l.length by omega] at this
  · rw [sumL, sumL, List.take_of_length_le (by omega), List.take_length]; exact Nat.le_refl _
theorem flat_succ (l : List (List UInt8)) (i : Nat) (h : i < l.length) : (l.take (i + 1)).flatten = (l.take i).flatten ++ l[i] := by
  rw [List.take_succ_eq_append_getElem h, List.flatten_append]; simp only [List.flatten_cons, List.flatten_nil, List.append_nil]
theorem flat_len (l : List (List UInt8)) (i : Nat) : (l.take i).flatten.length = sumL l i := by simp [sumL, List.length_flatten]
theorem flat_all (l : List (List UInt8)) : sumL l l.length = l.flatten.length := by rw [← flat_len, List.take_length]
theorem concat_eq (k : Nat) (l : List (List UInt8)) (hk : l.length < k) (hs : l.flatten.length ≤ 1000000) (hl : l.length ≤ 1000000) : slices_Concatbyte_byte k l = some l.flatten := by
  rw [← flat_all] at hs
  have h1 : loopO (fun s => slices_Concatbyte_byte.b1 k l s.1 s.2) k ((0 : Int), (0 : Int)) = some (sumL l l.length : Int) := by
    refine loop_g (n := l.length) (fun i => ((sumL l i : Int), ((i : Nat) : Int))) _ (by simp [sumL]) ?_ ?_ (by omega)
    · intro i hi
      have h2 := sumL_mono l (i + 1)
      have h3 := sumL_succ l i hi
      have e1 : w64 ((sumL l i : Int) + (l[i].length : Int)) = (sumL l (i + 1) : Int) := by rw [w64_id (by omega) (by omega)]; omega
      simp only [slices_Concatbyte_byte.b1, lt1, dec_t (show (i : Int) < (l.length : Int) by omega), if_true, idxL_lt hi, Option.bind_some, e1, dec_f (show ¬ (sumL l (i + 1) : Int) < 0 by omega), Bool.false_eq_true, if_false, w64_succ (show i < 9223372036854775807 by omega)]
    · simp only [slices_Concatbyte_byte.b1, lt1, dec_f (show ¬ (l.length : Int) < (l.length : Int) by omega), Bool.false_eq_true, if_false]
  have h2 : slices_Growbyte_byte k (sumL l l.length : Int) = some () := by
    have e1 : w64 (0 - 0) = 0 := w64_id (by omega) (by omega)
    have e2 : w64 ((sumL l l.length : Int) - 0) = (sumL l l.length : Int) := by rw [w64_id (by omega) (by omega)]; omega
    simp only [slices_Growbyte_byte, lt1, dec_f (show ¬ (sumL l l.length : Int) < 0 by omega), Bool.false_eq_true, if_false, Option.bind_some, e1, e2]
    by_cases h : (sumL l l.length : Int) > 0
    · have e3 : apZ 1 ([] : List UInt8) (sumL l l.length : Int) 0 = some (List.replicate (sumL l l.length) 0) := by
        unfold apZ
        rw [if_pos ⟨by omega, by omega, by simp; omega⟩]
        simp
      simp only [h, decide_true, if_true, e3, Option.bind_some]
    · simp only [h, decide_false, Bool.false_eq_true, if_false, Option.bind_some]
  have h3 : loopO (fun s => slices_Concatbyte_byte.b2 k l s.1 s.2) k (([] : List UInt8), (0 : Int)) = some l.flatten := by
    refine loop_g (n := l.length) (fun i => ((l.take i).flatten, ((i : Nat) : Int))) _ (by simp) ?_ ?_ (by omega)
    · intro i hi
      have h4 := sumL_mono l (i + 1)
      have h5 := sumL_succ l i hi
      have h6 := flat_len l i
      simp only [slices_Concatbyte_byte.b2, lt1, dec_t (show (i : Int) < (l.length : Int) by omega), if_true, idxL_lt hi, Option.bind_some, apL_ok (show ((l.take i).flatten.length + l[i].length) * 1 ≤ 140737488355328 by omega), flat_succ l i hi, w64_succ (show i < 9223372036854775807 by omega)]
    · simp only [slices_Concatbyte_byte.b2, lt1, dec_f (show ¬ (l.length : Int) < (l.length : Int) by omega), Bool.false_eq_true, if_false, List.take_length]
  simp only [slices_Concatbyte_byte, h1, h2, h3, Option.bind_some]

/-- The start and the constants. -/
theorem bg_ex : ∃ s : sha_state, sha_begun 4000 = some s ∧ ref03_begun 4000 = some (s.h, s.k.toList) := by
  obtain ⟨h1, h2⟩ := begun_same
  cases hb : sha_begun 4000 with
  | none => rw [hb] at h1; simp only [Option.map_none] at h1; rw [← h1] at h2; cases h2
  | some s => rw [hb] at h1; exact ⟨s, rfl, h1.symm⟩
noncomputable def bg : sha_state := Classical.choose bg_ex
theorem bg_sha : sha_begun 4000 = some bg := (Classical.choose_spec bg_ex).1
theorem bg_ref : ref03_begun 4000 = some (bg.h, bg.k.toList) := (Classical.choose_spec bg_ex).2
/-- A message's hash. -/
noncomputable def SHA (m : List UInt8) : Vector UInt8 32 := outV (bk bg.k.toList (padded m) bg.h ((padded m).length / 64))
theorem padded_q (m : List UInt8) : (padded m).length = 64 * ((padded m).length / 64) := by have := padded_mod m; omega
theorem padded_lt (m : List UInt8) (h : m.length ≤ 200000) : (padded m).length / 64 < 4000 := by
  rw [padded_len]
  have : padZ m.length < 64 := Nat.mod_lt _ (by decide)
  omega
theorem refSum (m : List UInt8) (h : m.length ≤ 200000) : ref03_Sum 4000 m = some (SHA m) := by
  have h1 := refBlocks 4000 (by omega) bg.k.toList (by simp) bg.h (padded m) _ (padded_q m) (padded_lt m h) (by have := padded_lt m h; omega)
  simp only [ref03_Sum, bg_ref, refPad_eq 4000 (by omega) m (by omega), h1, refOut 4000 (by omega), Option.bind_some, SHA]
theorem apZ_ok {T : Type} {b : Nat} {xs : List T} {n : Int} {x : T} (h0 : 0 ≤ n) (h1 : n ≤ 9223372036854775807) (h2 : (xs.length + n.toNat) * b ≤ 140737488355328) : apZ b xs n x = some (xs ++ List.replicate n.toNat x) := if_pos ⟨h0, h1, h2⟩
theorem shaHash (l : List (List UInt8)) (hl : l.length < 4000) (h : l.flatten.length ≤ 200000) : sha_state_hash 4000 bg l = some (SHA l.flatten) := by
  have hc := concat_eq 4000 l hl (by omega) (by omega)
  generalize l.flatten = m at hc h
  have h1 := shaBlocks 4000 (by omega) bg (padded m) _ (padded_q m) (padded_lt m h) (by have := padded_lt m h; omega)
  have hz : padZ m.length < 64 := Nat.mod_lt _ (by decide)
  have e0 : (m ++ [(128 : UInt8)]).length = m.length + 1 := by simp
  have e1 : w64 (120 - (((m.length + 1) % 64 : Nat) : Int)) = ((120 - (m.length + 1) % 64 : Nat) : Int) := by rw [w64_id (by omega) (by omega)]; omega
  have e2 : modI ((120 - (m.length + 1) % 64 : Nat) : Int) 64 = some ((padZ m.length : Nat) : Int) := modI64 _
  have e3 : apZ 1 (m ++ [(128 : UInt8)]) ((padZ m.length : Nat) : Int) (0 : UInt8) = some (m ++ [128] ++ List.replicate (padZ m.length) 0) := by
    rw [apZ_ok (by omega) (by omega) (by rw [e0, Int.toNat_natCast]; omega), Int.toNat_natCast]
  have e4 := shaTail 4000 (by omega) ((UN.ofI (m.length : Int) : UInt64) * 8) (m ++ [128] ++ List.replicate (padZ m.length) 0) (by simp; omega)
  rw [len8 m (by omega)] at e4
  have e5 : modI ((m.length + 1 : Nat) : Int) 64 = some (((m.length + 1) % 64 : Nat) : Int) := modI64 _
  simp only [sha_state_hash, hc, apL_ok (show (m.length + ([128] : List UInt8).length) * 1 ≤ 140737488355328 by show (m.length + 1) * 1 ≤ _; omega), e0, e5, e1, e2, e3, e4, Option.bind_some, lt1]
  show Option.bind (loopO (fun s => sha_state_hash.b2 4000 s.1 s.2) 4000 (bg, padded m)) _ = _
  rw [h1, Option.bind_some, shaOut 4000 (by omega), Option.bind_some]
  rfl
end Go.Proofs.Ytbflmobpbjnekaa
