/- Texts of bytes. -/
import Derived.Test.YtkbkdfcakpbojaaD
namespace Go.Proofs.Ytkbkdfcakpbojaa
open Go Fw
set_option linter.unusedVariables false
set_option linter.unusedSimpArgs false

def digs : List UInt8 := [48, 49, 50, 51, 52, 53, 54, 55, 56, 57, 97, 98, 99, 100, 101, 102]
def dig (n : Nat) : UInt8 := digs.getD n 0
def hexL : List UInt8 → List UInt8
  | [] => []
  | x :: l => dig (x.toNat / 16) :: dig (x.toNat % 16) :: hexL l
theorem hexL_app (a b : List UInt8) : hexL (a ++ b) = hexL a ++ hexL b := by
  induction a with
  | nil => rfl
  | cons x a ih => simp only [List.cons_append, hexL, ih]
theorem hexL_len (a : List UInt8) : (hexL a).length = 2 * a.length := by
  induction a with
  | nil => rfl
  | cons x a ih => simp only [hexL, List.length_cons, ih]; omega
theorem idx_dig (n : Nat) (h : n < 16) : idxL ([48, 49, 50, 51, 52, 53, 54, 55, 56, 57, 97, 98, 99, 100, 101, 102] : List UInt8) (n : Int) = some (dig n) := by
  rw [idxL_nat]
  show digs[n]? = _
  rw [dig, List.getD_eq_getElem?_getD, List.getElem?_eq_getElem (show n < digs.length from h)]
  rfl
theorem hi_eq (x : UInt8) : (UN.toN (UN.shr x (UN.toN (4 : UInt64))) : Nat) = x.toNat / 16 := by
  show (UInt8.ofNat (x.toNat / 2 ^ (min 4 8))).toNat = _
  rw [UInt8.toNat_ofNat']
  have := x.toNat_lt
  show x.toNat / 16 % 256 = _
  omega
theorem lo_eq (x : UInt8) : (UN.toN (x &&& (15 : UInt8)) : Nat) = x.toNat % 16 := by
  show (x &&& 15).toNat = _
  rw [UInt8.toNat_and]
  exact Nat.and_two_pow_sub_one_eq_mod x.toNat 4
theorem div16 (x : UInt8) : divU x (16 : UInt8) = some (UInt8.ofNat (x.toNat / 16)) := by
  unfold divU
  rw [if_neg (by decide)]
  refine congrArg some (UInt8.toNat_inj.1 ?_)
  show (x / 16).toNat = _
  have := x.toNat_lt
  rw [UInt8.toNat_div, UInt8.toNat_ofNat']
  show x.toNat / 16 = x.toNat / 16 % 256
  omega
theorem mod16 (x : UInt8) : modU x (16 : UInt8) = some (UInt8.ofNat (x.toNat % 16)) := by
  unfold modU
  rw [if_neg (by decide)]
  refine congrArg some (UInt8.toNat_inj.1 ?_)
  show (x % 16).toNat = _
  rw [UInt8.toNat_mod, UInt8.toNat_ofNat']
  show x.toNat % 16 = x.toNat % 16 % 256
  omega
theorem toN_of (n : Nat) (h : n < 256) : (UN.toN (UInt8.ofNat n) : Nat) = n := UInt8.toNat_ofNat_of_lt' h
theorem refHex_eq (k : Nat) (b : List UInt8) (hk : b.length < k) (hb : b.length ≤ 1000000) : ref01_Hex k b = some (hexL b) := by
  have hl : loopO (fun s => ref01_Hex.b1 k b s.1 s.2) k (([] : List UInt8), (0 : Int)) = some (hexL b) := by
    refine loop_g (n := b.length) (fun i => (hexL (b.take i), ((i : Nat) : Int))) _ (by simp [hexL]) ?_ ?_ hk
    · intro i hi
      have hx := b[i].toNat_lt
      have h2 := idx_dig (b[i].toNat / 16) (by omega)
      have h3 := idx_dig (b[i].toNat % 16) (by omega)
      have h4 : b.take (i + 1) = b.take i ++ [b[i]] := List.take_succ_eq_append_getElem hi
      have h5 : apL 1 (hexL (b.take i)) [dig (b[i].toNat / 16), dig (b[i].toNat % 16)] = some (hexL (b.take (i + 1))) := by
        rw [apL_ok (by rw [hexL_len]; simp; omega), h4, hexL_app]; rfl
      simp only [ref01_Hex.b1, lt1, dec_t (show (i : Int) < (b.length : Int) by omega), if_true, idxL_lt hi, div16, mod16, toN_of _ (show b[i].toNat / 16 < 256 by omega), toN_of _ (show b[i].toNat % 16 < 256 by omega), h2, h3, h5, Option.bind_some, w64_succ (show i < 9223372036854775807 by omega)]
    · simp only [ref01_Hex.b1, lt1, dec_f (show ¬ (b.length : Int) < (b.length : Int) by omega), Bool.false_eq_true, if_false, List.take_length]
  simp only [ref01_Hex, hl, Option.bind_some]
/-- A digit's number. -/
def hv (c : UInt8) : Option Nat := if 48 ≤ c.toNat ∧ c.toNat ≤ 57 then some (c.toNat - 48) else if 97 ≤ c.toNat ∧ c.toNat ≤ 102 then some (c.toNat - 87) else none
def hvI (c : UInt8) : Int := match hv c with | some n => (n : Int) | none => -1
theorem hv_lt {c : UInt8} {n : Nat} (h : hv c = some n) : n < 16 := by
  unfold hv at h
  split at h
  · cases h; omega
  · split at h
    · cases h; omega
    · cases h
/-- The bytes of a text's pairs. -/
def pairsO : List UInt8 → Option (List UInt8)
  | a :: b :: r => match hv a, hv b with
    | some x, some y => (pairsO r).map (UInt8.ofNat (16 * x + y) :: ·)
    | _, _ => none
  | _ => some []
theorem sub48 (c : UInt8) (h : 48 ≤ c.toNat) : (UN.toN (c - (48 : UInt8)) : Nat) = c.toNat - 48 := by
  show (c - 48).toNat = _
  have := c.toNat_lt
  rw [UInt8.toNat_sub]
  show (256 - 48 + c.toNat) % 256 = _
  omega
theorem sub97 (c : UInt8) (h : 97 ≤ c.toNat) : (UN.toN (c - (97 : UInt8)) : Nat) = c.toNat - 97 := by
  show (c - 97).toNat = _
  have := c.toNat_lt
  rw [UInt8.toNat_sub]
  show (256 - 97 + c.toNat) % 256 = _
  omega
theorem le_iff (a c : UInt8) : decide (a ≤ c) = decide (a.toNat ≤ c.toNat) := by rw [decide_eq_decide]; exact UInt8.le_iff_toNat_le
theorem step_hex (k : Nat) (s : List UInt8) (i x j : Nat) (hj : j < s.length) (hij : j < i + 2) (hi : i ≤ 1000000) (hx : x ≤ 1000000) :
    ref01_Unhex.b2 k (i : Int) s (x : Int) (j : Int) = some (match hv s[j] with | some v => .inl (((16 * x + v : Nat) : Int), ((j + 1 : Nat) : Int)) | none => .inr (.inr (([] : List UInt8), false))) := by
  have e1 : w64 ((i : Int) + 2) = ((i + 2 : Nat) : Int) := by rw [w64_id (by omega) (by omega)]; omega
  have e2 : w64 (16 * (x : Int)) = ((16 * x : Nat) : Int) := by rw [w64_id (by omega) (by omega)]; omega
  have hb := s[j].toNat_lt
  simp only [ref01_Unhex.b2, lt1, e1, e2, dec_t (show (j : Int) < ((i + 2 : Nat) : Int) by omega), if_true, idxL_lt hj, Option.bind_some, w64_succ (show j < 9223372036854775807 by omega), le_iff]
  generalize s[j] = c at hb ⊢
  have c48 : (48 : UInt8).toNat = 48 := rfl
  have c57 : (57 : UInt8).toNat = 57 := rfl
  have c97 : (97 : UInt8).toNat = 97 := rfl
  have c102 : (102 : UInt8).toNat = 102 := rfl
  simp only [c48, c57, c97, c102]
  unfold hv
  by_cases h1 : 48 ≤ c.toNat
  · by_cases h2 : c.toNat ≤ 57
    · have e3 : w64 ((UN.toN (c - (48 : UInt8)) : Nat) : Int) = ((c.toNat - 48 : Nat) : Int) := by rw [sub48 c h1, w64_id (by omega) (by omega)]
      have e4 : w64 (((16 * x : Nat) : Int) + ((c.toNat - 48 : Nat) : Int)) = ((16 * x + (c.toNat - 48) : Nat) : Int) := by rw [w64_id (by omega) (by omega)]; omega
      simp only [dec_t h1, dec_t h2, if_true, Option.bind_some, cond_true, e3, e4, if_pos (show 48 ≤ c.toNat ∧ c.toNat ≤ 57 from ⟨h1, h2⟩)]
    · by_cases h3 : 97 ≤ c.toNat
      · by_cases h4 : c.toNat ≤ 102
        · have e3 : w64 ((UN.toN (c - (97 : UInt8)) : Nat) : Int) = ((c.toNat - 97 : Nat) : Int) := by rw [sub97 c h3, w64_id (by omega) (by omega)]
          have e4 : w64 (((16 * x : Nat) : Int) + ((c.toNat - 97 : Nat) : Int)) = ((16 * x + (c.toNat - 97) : Nat) : Int) := by rw [w64_id (by omega) (by omega)]; omega
          have e5 : w64 (((16 * x + (c.toNat - 97) : Nat) : Int) + 10) = ((16 * x + (c.toNat - 87) : Nat) : Int) := by rw [w64_id (by omega) (by omega)]; omega
          simp only [dec_t h1, dec_f h2, dec_t h3, dec_t h4, if_true, Option.bind_some, cond_true, Bool.false_eq_true, if_false, e3, e4, e5, if_neg (show ¬ (48 ≤ c.toNat ∧ c.toNat ≤ 57) from fun h => h2 h.2), if_pos (show 97 ≤ c.toNat ∧ c.toNat ≤ 102 from ⟨h3, h4⟩)]
        · simp only [dec_t h1, dec_f h2, dec_t h3, dec_f h4, if_true, Option.bind_some, cond_true, Bool.false_eq_true, if_false, if_neg (show ¬ (48 ≤ c.toNat ∧ c.toNat ≤ 57) from fun h => h2 h.2), if_neg (show ¬ (97 ≤ c.toNat ∧ c.toNat ≤ 102) from fun h => h4 h.2)]
      · simp only [dec_t h1, dec_f h2, dec_f h3, if_true, Option.bind_some, cond_true, cond_false, Bool.false_eq_true, if_false, if_neg (show ¬ (48 ≤ c.toNat ∧ c.toNat ≤ 57) from fun h => h2 h.2), if_neg (show ¬ (97 ≤ c.toNat ∧ c.toNat ≤ 102) from fun h => h3 h.1)]
  · have h3 : ¬ 97 ≤ c.toNat := by omega
    simp only [dec_f h1, dec_f h3, Bool.false_eq_true, if_false, Option.bind_some, cond_false, if_neg (show ¬ (48 ≤ c.toNat ∧ c.toNat ≤ 57) from fun h => h1 h.1), if_neg (show ¬ (97 ≤ c.toNat ∧ c.toNat ≤ 102) from fun h => h3 h.1)]
theorem pair_hex (k : Nat) (hk : 3 ≤ k) (s : List UInt8) (i : Nat) (hj : i + 1 < s.length) (hi : s.length ≤ 1000000) : loopO (fun t => ref01_Unhex.b2 k (i : Int) s t.1 t.2) k ((0 : Int), (i : Int)) = some (match hv s[i], hv s[i + 1] with | some a, some b => .inl ((16 * a + b : Nat) : Int) | _, _ => .inr (([] : List UInt8), false)) := by
  obtain ⟨k', rfl⟩ : ∃ j, k = j + 3 := ⟨k - 3, by omega⟩
  have h1 := step_hex (k' + 3) s i 0 i (by omega) (by omega) (by omega) (by omega)
  cases ha : hv s[i] with
  | none => rw [ha] at h1; exact loopO_out (k := k' + 2) h1
  | some a =>
    rw [ha] at h1
    have := hv_lt ha
    have h2 := step_hex (k' + 3) s i (16 * 0 + a) (i + 1) (by omega) (by omega) (by omega) (by omega)
    rw [loopO_step (k := k' + 2) h1]
    cases hb : hv s[i + 1] with
    | none => rw [hb] at h2; exact loopO_out (k := k' + 1) h2
    | some b =>
      rw [hb] at h2
      rw [loopO_step (k := k' + 1) h2]
      refine loopO_out (k := k') ?_
      have e1 : w64 ((i : Int) + 2) = ((i + 2 : Nat) : Int) := by rw [w64_id (by omega) (by omega)]; omega
      simp only [ref01_Unhex.b2, lt1, e1, dec_f (show ¬ ((i + 1 + 1 : Nat) : Int) < ((i + 2 : Nat) : Int) by omega), Bool.false_eq_true, if_false]
      rw [show 16 * (16 * 0 + a) + b = 16 * a + b by omega]
theorem pairs_drop (s : List UInt8) (i : Nat) (hj : i + 1 < s.length) : pairsO (s.drop i) = match hv s[i], hv s[i + 1] with | some x, some y => (pairsO (s.drop (i + 2))).map (UInt8.ofNat (16 * x + y) :: ·) | _, _ => none := by
  rw [List.drop_eq_getElem_cons (by omega), List.drop_eq_getElem_cons (by omega)]
  rfl
theorem modI2 (n : Nat) : modI (n : Int) 2 = some ((n % 2 : Nat) : Int) := by
  have : (n : Int).tmod 2 = ((n % 2 : Nat) : Int) := by rw [show (2 : Int) = ((2 : Nat) : Int) from rfl, Int.ofNat_tmod]
  simp only [modI, this]
  rw [if_neg (by decide)]
theorem ofI_u8 (n : Nat) : (UN.ofI ((n : Nat) : Int) : UInt8) = UInt8.ofNat n := by
  apply UInt8.toNat_inj.1
  show (UInt8.ofNat ((n : Int) % ((2 ^ 8 : Nat) : Int)).toNat).toNat = _
  have : ((n : Int) % ((2 ^ 8 : Nat) : Int)).toNat = n % 256 := by omega
  rw [this, UInt8.toNat_ofNat', UInt8.toNat_ofNat']
  omega
theorem unhex_eq (k : Nat) (s : List UInt8) (hk : s.length + 3 ≤ k) (hs : s.length ≤ 1000000) : ref01_Unhex k s = some (if s.length % 2 = 0 then (match pairsO s with | some l => (l, true) | none => ([], false)) else ([], false)) := by
  by_cases hm : s.length % 2 = 0
  · have hl : ∃ t, loopO (fun t => ref01_Unhex.b1 k s t.1 t.2) k (([] : List UInt8), (0 : Int)) = some t ∧ t = (match pairsO s with | some l => .inl l | none => .inr (([] : List UInt8), false)) := by
      refine loop_inv (I := fun t : List UInt8 × Int => 0 ≤ t.2 ∧ t.2 ≤ (s.length : Int) ∧ t.2.toNat % 2 = 0 ∧ t.1.length ≤ t.2.toNat ∧ pairsO s = (pairsO (s.drop t.2.toNat)).map (t.1 ++ ·)) (m := fun t => (s.length : Int).toNat - t.2.toNat) _ ?_ k _ ⟨by show (0 : Int) ≤ 0; omega, by show (0 : Int) ≤ _; omega, rfl, Nat.le_refl _, by simp⟩ (by show s.length - 0 < k; omega)
      rintro ⟨x, i⟩ ⟨h0, h1, h2, h3, h4⟩
      simp only at h0 h1 h2 h3 h4
      obtain ⟨i, rfl⟩ : ∃ j : Nat, i = j := ⟨i.toNat, by omega⟩
      simp only [Int.toNat_natCast] at h2 h3 h4
      have e1 : w64 ((i : Int) + 2) = ((i + 2 : Nat) : Int) := by rw [w64_id (by omega) (by omega)]; omega
      by_cases hc : i < s.length
      · have hj : i + 1 < s.length := by omega
        have h5 := pair_hex k (by omega) s i hj hs
        rw [pairs_drop s i hj] at h4
        simp only [ref01_Unhex.b1, lt1, dec_t (show (i : Int) < (s.length : Int) by omega), if_true, h5, Option.bind_some]
        cases ha : hv s[i] with
        | none =>
          right
          rw [ha] at h4
          refine ⟨_, rfl, ?_⟩
          rw [h4]; rfl
        | some a =>
          cases hb : hv s[i + 1] with
          | none =>
            right
            rw [ha, hb] at h4
            refine ⟨_, rfl, ?_⟩
            rw [h4]; rfl
          | some b =>
            left
            rw [ha, hb] at h4
            have h6 : apL 1 x [UInt8.ofNat (16 * a + b)] = some (x ++ [UInt8.ofNat (16 * a + b)]) := apL_ok (by show (x.length + 1) * 1 ≤ _; omega)
            simp only [Option.bind_some, ofI_u8, h6, e1]
            refine ⟨_, rfl, ⟨by show (0 : Int) ≤ ((i + 2 : Nat) : Int); omega, by show ((i + 2 : Nat) : Int) ≤ _; omega, by show (((i + 2 : Nat) : Int)).toNat % 2 = 0; omega, by show (x ++ [UInt8.ofNat (16 * a + b)]).length ≤ (((i + 2 : Nat) : Int)).toNat; simp; omega, ?_⟩, by show (s.length : Int).toNat - (((i + 2 : Nat) : Int)).toNat < (s.length : Int).toNat - ((i : Int)).toNat; omega⟩
            show pairsO s = (pairsO (s.drop (((i + 2 : Nat) : Int)).toNat)).map ((x ++ [UInt8.ofNat (16 * a + b)]) ++ ·)
            rw [h4, Int.toNat_natCast, Option.map_map]
            congr 1
            funext l
            simp
      · right
        simp only [ref01_Unhex.b1, lt1, dec_f (show ¬ (i : Int) < (s.length : Int) by omega), Bool.false_eq_true, if_false]
        refine ⟨_, rfl, ?_⟩
        rw [h4, List.drop_of_length_le (by omega)]
        simp [pairsO]
    obtain ⟨t, h1, h2⟩ := hl
    have hb : ((((s.length % 2 : Nat) : Int)) != 0) = false := by rw [hm]; rfl
    simp only [ref01_Unhex, modI2, Option.bind_some, lt1, hb, Bool.false_eq_true, if_false, h1, if_pos hm, h2]
    cases pairsO s <;> rfl
  · have hb : ((((s.length % 2 : Nat) : Int)) != 0) = true := by simp; omega
    simp only [ref01_Unhex, modI2, Option.bind_some, lt1, hb, if_true, if_neg hm]
end Go.Proofs.Ytkbkdfcakpbojaa
