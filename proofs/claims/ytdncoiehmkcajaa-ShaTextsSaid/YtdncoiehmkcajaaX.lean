/- Texts of hashes. -/
import Derived.Test.YtdncoiehmkcajaaR
namespace Go.Proofs.Ytdncoiehmkcajaa
open Go Fw
set_option linter.unusedVariables false
set_option linter.unusedSimpArgs false

theorem equal_eq (k : Nat) (hk : 200 ≤ k) (a b : Vector UInt8 32) : sha_Equal k a b = some (decide (a = b)) := by
  have hl : ∃ t, loopO (fun s => sha_Equal.b1 k a b s.1 s.2) k ((0 : UInt8), (0 : Int)) = some t ∧ (t = 0 ↔ a = b) := by
    refine loop_inv (I := fun s : UInt8 × Int => 0 ≤ s.2 ∧ s.2 ≤ 32 ∧ (s.1 = 0 ↔ ∀ (i : Nat) (h : i < 32), (i : Int) < s.2 → a[i] = b[i])) (m := fun s => (32 - s.2).toNat) _ ?_ k _ ⟨by show (0 : Int) ≤ 0; omega, by show (0 : Int) ≤ 32; omega, ⟨fun _ i _ h => by have : (i : Int) < 0 := h; omega, fun _ => rfl⟩⟩ (by show (32 - (0 : Int)).toNat < k; omega)
    rintro ⟨x, s⟩ ⟨h0, h1, h2⟩
    simp only at h0 h1 h2
    by_cases hlt : s < 32
    · left
      obtain ⟨i, rfl⟩ : ∃ i : Nat, s = i := ⟨s.toNat, by omega⟩
      have hi : i < 32 := by omega
      have hx : inV 32 (i : Int) = some ⟨i, hi⟩ := inV_ok (by omega) (by simpa using hi)
      simp only [sha_Equal.b1, lt1, dec_t hlt, if_true, hx, getV, Option.bind_some, w64_succ (show i < 9223372036854775807 by omega)]
      refine ⟨_, rfl, ⟨by show (0 : Int) ≤ ((i + 1 : Nat) : Int); omega, by show ((i + 1 : Nat) : Int) ≤ 32; omega, ?_⟩, by show (32 - ((i + 1 : Nat) : Int)).toNat < (32 - (i : Int)).toNat; omega⟩
      show (x ||| (a[i] ^^^ b[i])) = 0 ↔ ∀ (j : Nat) (h : j < 32), (j : Int) < ((i + 1 : Nat) : Int) → a[j] = b[j]
      rw [UInt8.or_eq_zero_iff, UInt8.xor_eq_zero_iff, h2]
      constructor
      · rintro ⟨h3, h4⟩ j hj hlt
        by_cases hji : j = i
        · subst hji; exact h4
        · exact h3 j hj (by omega)
      · intro h3
        exact ⟨fun j hj hlt => h3 j hj (by omega), h3 i hi (by omega)⟩
    · right
      simp only [sha_Equal.b1, lt1, dec_f hlt, Bool.false_eq_true, if_false]
      refine ⟨_, rfl, h2.trans ⟨fun h => Vector.ext fun i hi => h i hi (by omega), fun h i hi _ => by rw [h]⟩⟩
  obtain ⟨t, h1, h2⟩ := hl
  simp only [sha_Equal, h1, Option.bind_some, lt1, Option.some.injEq]
  rw [Bool.eq_iff_iff, beq_iff_eq, decide_eq_true_eq, h2]
def digs : List UInt8 := [48, 49, 50, 51, 52, 53, 54, 55, 56, 57, 97, 98, 99, 100, 101, 102]
def dig (n : Nat) : UInt8 := digs.getD n 0
def hexL : List UInt8 → List UInt8
  | [] => []
  | x :: l => dig (x.toNat / 16) :: dig (x.toNat % 16) :: hexL l
theorem hexL_app (a b : List UInt8) : hexL (a ++ b) = hexL a ++ hexL b := by
  induction a with
  | nil => rfl
  | cons x a ih => simp only [List.cons_append, hexL, ih]
theorem hexL_len (a : List UInt8) : (hexL a).length = 2 * a.length := by
  induction a with
  | nil => rfl
  | cons x a ih => simp only [hexL, List.length_cons, ih]; omega
theorem idx_dig (n : Nat) (h : n < 16) : idxL ([48, 49, 50, 51, 52, 53, 54, 55, 56, 57, 97, 98, 99, 100, 101, 102] : List UInt8) (n : Int) = some (dig n) := by
  rw [idxL_nat]
  show digs[n]? = _
  rw [dig, List.getD_eq_getElem?_getD, List.getElem?_eq_getElem (show n < digs.length from h)]
  rfl
theorem hi_eq (x : UInt8) : (UN.toN (UN.shr x (UN.toN (4 : UInt64))) : Nat) = x.toNat / 16 := by
  show (UInt8.ofNat (x.toNat / 2 ^ (min 4 8))).toNat = _
  rw [UInt8.toNat_ofNat']
  have := x.toNat_lt
  show x.toNat / 16 % 256 = _
  omega
theorem lo_eq (x : UInt8) : (UN.toN (x &&& (15 : UInt8)) : Nat) = x.toNat % 16 := by
  show (x &&& 15).toNat = _
  rw [UInt8.toNat_and]
  exact Nat.and_two_pow_sub_one_eq_mod x.toNat 4
theorem text_eq (k : Nat) (hk : 33 ≤ k) (h : Vector UInt8 32) : sha_Text k h = some (hexL h.toList) := by
  have hl : loopO (fun s => sha_Text.b1 k h s.1 s.2) k (([] : List UInt8), (0 : Int)) = some (hexL h.toList) := by
    refine loop_g (n := 32) (fun i => (hexL (h.toList.take i), ((i : Nat) : Int))) _ (by simp [hexL]) ?_ ?_ (by omega)
    · intro i hi
      have h1 : idxV h (i : Int) = some h[i] := by simp [idxV, hi]
      have hx := h[i].toNat_lt
      have h2 := idx_dig (h[i].toNat / 16) (by omega)
      have h3 := idx_dig (h[i].toNat % 16) (by omega)
      have h4 : h.toList.take (i + 1) = h.toList.take i ++ [h[i]] := by rw [List.take_succ_eq_append_getElem (by simpa using hi)]; simp
      have h5 : apL 1 (hexL (h.toList.take i)) [dig (h[i].toNat / 16), dig (h[i].toNat % 16)] = some (hexL (h.toList.take (i + 1))) := by
        rw [apL_ok (by rw [hexL_len]; simp; omega), h4, hexL_app]; rfl
      simp only [sha_Text.b1, lt1, dec_t (show (i : Int) < 32 by omega), if_true, h1, hi_eq, lo_eq, h2, h3, h5, Option.bind_some, w64_succ (show i < 9223372036854775807 by omega)]
    · simp only [sha_Text.b1, lt1, dec_f (show ¬ ((32 : Nat) : Int) < 32 by omega), Bool.false_eq_true, if_false]
      rw [List.take_of_length_le (by simp)]
  simp only [sha_Text, hl, Option.bind_some]
theorem div16 (x : UInt8) : divU x (16 : UInt8) = some (UInt8.ofNat (x.toNat / 16)) := by
  unfold divU
  rw [if_neg (by decide)]
  refine congrArg some (UInt8.toNat_inj.1 ?_)
  show (x / 16).toNat = _
  have := x.toNat_lt
  rw [UInt8.toNat_div, UInt8.toNat_ofNat']
  show x.toNat / 16 = x.toNat / 16 % 256
  omega
theorem mod16 (x : UInt8) : modU x (16 : UInt8) = some (UInt8.ofNat (x.toNat % 16)) := by
  unfold modU
  rw [if_neg (by decide)]
  refine congrArg some (UInt8.toNat_inj.1 ?_)
  show (x % 16).toNat = _
  rw [UInt8.toNat_mod, UInt8.toNat_ofNat']
  show x.toNat % 16 = x.toNat % 16 % 256
  omega
theorem toN_of (n : Nat) (h : n < 256) : (UN.toN (UInt8.ofNat n) : Nat) = n := UInt8.toNat_ofNat_of_lt' h
theorem refHex_eq (k : Nat) (b : List UInt8) (hk : b.length < k) (hb : b.length ≤ 1000000) : ref01_Hex k b = some (hexL b) := by
  have hl : loopO (fun s => ref01_Hex.b1 k b s.1 s.2) k (([] : List UInt8), (0 : Int)) = some (hexL b) := by
    refine loop_g (n := b.length) (fun i => (hexL (b.take i), ((i : Nat) : Int))) _ (by simp [hexL]) ?_ ?_ hk
    · intro i hi
      have hx := b[i].toNat_lt
      have h2 := idx_dig (b[i].toNat / 16) (by omega)
      have h3 := idx_dig (b[i].toNat % 16) (by omega)
      have h4 : b.take (i + 1) = b.take i ++ [b[i]] := List.take_succ_eq_append_getElem hi
      have h5 : apL 1 (hexL (b.take i)) [dig (b[i].toNat / 16), dig (b[i].toNat % 16)] = some (hexL (b.take (i + 1))) := by
        rw [apL_ok (by rw [hexL_len]; simp; omega), h4, hexL_app]; rfl
      simp only [ref01_Hex.b1, lt1, dec_t (show (i : Int) < (b.length : Int) by omega), if_true, idxL_lt hi, div16, mod16, toN_of _ (show b[i].toNat / 16 < 256 by omega), toN_of _ (show b[i].toNat % 16 < 256 by omega), h2, h3, h5, Option.bind_some, w64_succ (show i < 9223372036854775807 by omega)]
    · simp only [ref01_Hex.b1, lt1, dec_f (show ¬ (b.length : Int) < (b.length : Int) by omega), Bool.false_eq_true, if_false, List.take_length]
  simp only [ref01_Hex, hl, Option.bind_some]

/-- A digit's number. -/
def hv (c : UInt8) : Option Nat := if 48 ≤ c.toNat ∧ c.toNat ≤ 57 then some (c.toNat - 48) else if 97 ≤ c.toNat ∧ c.toNat ≤ 102 then some (c.toNat - 87) else none
def hvI (c : UInt8) : Int := match hv c with | some n => (n : Int) | none => -1
theorem hv_lt {c : UInt8} {n : Nat} (h : hv c = some n) : n < 16 := by
  unfold hv at h
  split at h
  · cases h; omega
  · split at h
    · cases h; omega
    · cases h
set_option maxRecDepth 100000 in
theorem index_all : (List.range 256).all (fun n => decide (slices_Indexbyte_byte 4000 digs (UInt8.ofNat n) = some (hvI (UInt8.ofNat n)))) = true := by
  unfold slices_Indexbyte_byte
  simp only [slices_Indexbyte_byte.b1, w64_fun]
  decide +kernel
theorem index_eq {k : Nat} (hk : k = 4000) (c : UInt8) : slices_Indexbyte_byte k ([(48 : UInt8), (49 : UInt8), (50 : UInt8), (51 : UInt8), (52 : UInt8), (53 : UInt8), (54 : UInt8), (55 : UInt8), (56 : UInt8), (57 : UInt8), (97 : UInt8), (98 : UInt8), (99 : UInt8), (100 : UInt8), (101 : UInt8), (102 : UInt8)] : (List UInt8)) c = some (hvI c) := by
  have := List.all_eq_true.1 index_all c.toNat (List.mem_range.2 c.toNat_lt)
  rw [hk]
  have h2 := of_decide_eq_true this
  rw [UInt8.ofNat_toNat] at h2
  exact h2
/-- The bytes of a text's pairs. -/
def pairsO : List UInt8 → Option (List UInt8)
  | a :: b :: r => match hv a, hv b with
    | some x, some y => (pairsO r).map (UInt8.ofNat (16 * x + y) :: ·)
    | _, _ => none
  | _ => some []
theorem pairs_some : ∀ (n : Nat) (s l : List UInt8), s.length = 2 * n → pairsO s = some l → l.length = n ∧ ∀ j, j < n → ∃ a b, (s[2 * j]?).bind hv = some a ∧ (s[2 * j + 1]?).bind hv = some b ∧ l[j]? = some (UInt8.ofNat (16 * a + b)) := by
  intro n
  induction n with
  | zero =>
    intro s l hs h
    rw [List.eq_nil_of_length_eq_zero (by omega : s.length = 0)] at h
    cases h
    exact ⟨rfl, fun j hj => by omega⟩
  | succ n ih =>
    intro s l hs h
    match s, hs with
    | a :: b :: r, hs =>
      simp only [List.length_cons] at hs
      simp only [pairsO] at h
      cases ha : hv a with
      | none => rw [ha] at h; cases h
      | some x =>
        cases hb : hv b with
        | none => rw [ha, hb] at h; cases h
        | some y =>
          rw [ha, hb] at h
          cases hr : pairsO r with
          | none => rw [hr] at h; cases h
          | some l' =>
            rw [hr] at h
            simp only [Option.map_some, Option.some.injEq] at h
            subst h
            obtain ⟨h1, h2⟩ := ih r l' (by omega) hr
            refine ⟨by simp [h1], fun j hj => ?_⟩
            cases j with
            | zero => exact ⟨x, y, by simp [ha], by simp [hb], rfl⟩
            | succ j =>
              obtain ⟨a', b', h3, h4, h5⟩ := h2 j (by omega)
              refine ⟨a', b', ?_, ?_, by simpa using h5⟩
              · rw [show 2 * (j + 1) = 2 * j + 1 + 1 by omega]; simpa using h3
              · rw [show 2 * (j + 1) + 1 = 2 * j + 1 + 1 + 1 by omega]; simpa using h4
    | [], hs => simp at hs
    | [a], hs => simp at hs; omega
theorem pairs_none : ∀ (n : Nat) (s : List UInt8), s.length = 2 * n → pairsO s = none → ∃ j, j < s.length ∧ (s[j]?).bind hv = none := by
  intro n
  induction n with
  | zero => intro s hs h; rw [List.eq_nil_of_length_eq_zero (by omega : s.length = 0)] at h; cases h
  | succ n ih =>
    intro s hs h
    match s, hs with
    | a :: b :: r, hs =>
      simp only [List.length_cons] at hs
      simp only [pairsO] at h
      cases ha : hv a with
      | none => exact ⟨0, by simp, by simp [ha]⟩
      | some x =>
        cases hb : hv b with
        | none => exact ⟨1, by simp, by simp [hb]⟩
        | some y =>
          rw [ha, hb] at h
          cases hr : pairsO r with
          | some l' => rw [hr] at h; cases h
          | none =>
            obtain ⟨j, h1, h2⟩ := ih r (by omega) hr
            exact ⟨j + 2, by simp; omega, by simpa using h2⟩
    | [], hs => simp at hs
    | [a], hs => simp at hs; omega
theorem sub48 (c : UInt8) (h : 48 ≤ c.toNat) : (UN.toN (c - (48 : UInt8)) : Nat) = c.toNat - 48 := by
  show (c - 48).toNat = _
  have := c.toNat_lt
  rw [UInt8.toNat_sub]
  show (256 - 48 + c.toNat) % 256 = _
  omega
theorem sub97 (c : UInt8) (h : 97 ≤ c.toNat) : (UN.toN (c - (97 : UInt8)) : Nat) = c.toNat - 97 := by
  show (c - 97).toNat = _
  have := c.toNat_lt
  rw [UInt8.toNat_sub]
  show (256 - 97 + c.toNat) % 256 = _
  omega
theorem le_iff (a c : UInt8) : decide (a ≤ c) = decide (a.toNat ≤ c.toNat) := by rw [decide_eq_decide]; exact UInt8.le_iff_toNat_le
theorem step_hex (k : Nat) (s : List UInt8) (i x j : Nat) (hj : j < s.length) (hij : j < i + 2) (hi : i ≤ 1000000) (hx : x ≤ 1000000) :
    ref01_Unhex.b2 k (i : Int) s (x : Int) (j : Int) = some (match hv s[j] with | some v => .inl (((16 * x + v : Nat) : Int), ((j + 1 : Nat) : Int)) | none => .inr (.inr (([] : List UInt8), false))) := by
  have e1 : w64 ((i : Int) + 2) = ((i + 2 : Nat) : Int) := by rw [w64_id (by omega) (by omega)]; omega
  have e2 : w64 (16 * (x : Int)) = ((16 * x : Nat) : Int) := by rw [w64_id (by omega) (by omega)]; omega
  have hb := s[j].toNat_lt
  simp only [ref01_Unhex.b2, lt1, e1, e2, dec_t (show (j : Int) < ((i + 2 : Nat) : Int) by omega), if_true, idxL_lt hj, Option.bind_some, w64_succ (show j < 9223372036854775807 by omega), le_iff]
  generalize s[j] = c at hb ⊢
  have c48 : (48 : UInt8).toNat = 48 := rfl
  have c57 : (57 : UInt8).toNat = 57 := rfl
  have c97 : (97 : UInt8).toNat = 97 := rfl
  have c102 : (102 : UInt8).toNat = 102 := rfl
  simp only [c48, c57, c97, c102]
  unfold hv
  by_cases h1 : 48 ≤ c.toNat
  · by_cases h2 : c.toNat ≤ 57
    · have e3 : w64 ((UN.toN (c - (48 : UInt8)) : Nat) : Int) = ((c.toNat - 48 : Nat) : Int) := by rw [sub48 c h1, w64_id (by omega) (by omega)]
      have e4 : w64 (((16 * x : Nat) : Int) + ((c.toNat - 48 : Nat) : Int)) = ((16 * x + (c.toNat - 48) : Nat) : Int) := by rw [w64_id (by omega) (by omega)]; omega
      simp only [dec_t h1, dec_t h2, if_true, Option.bind_some, cond_true, e3, e4, if_pos (show 48 ≤ c.toNat ∧ c.toNat ≤ 57 from ⟨h1, h2⟩)]
    · by_cases h3 : 97 ≤ c.toNat
      · by_cases h4 : c.toNat ≤ 102
        · have e3 : w64 ((UN.toN (c - (97 : UInt8)) : Nat) : Int) = ((c.toNat - 97 : Nat) : Int) := by rw [sub97 c h3, w64_id (by omega) (by omega)]
          have e4 : w64 (((16 * x : Nat) : Int) + ((c.toNat - 97 : Nat) : Int)) = ((16 * x + (c.toNat - 97) : Nat) : Int) := by rw [w64_id (by omega) (by omega)]; omega
          have e5 : w64 (((16 * x + (c.toNat - 97) : Nat) : Int) + 10) = ((16 * x + (c.toNat - 87) : Nat) : Int) := by rw [w64_id (by omega) (by omega)]; omega
          simp only [dec_t h1, dec_f h2, dec_t h3, dec_t h4, if_true, Option.bind_some, cond_true, Bool.false_eq_true, if_false, e3, e4, e5, if_neg (show ¬ (48 ≤ c.toNat ∧ c.toNat ≤ 57) from fun h => h2 h.2), if_pos (show 97 ≤ c.toNat ∧ c.toNat ≤ 102 from ⟨h3, h4⟩)]
        · simp only [dec_t h1, dec_f h2, dec_t h3, dec_f h4, if_true, Option.bind_some, cond_true, Bool.false_eq_true, if_false, if_neg (show ¬ (48 ≤ c.toNat ∧ c.toNat ≤ 57) from fun h => h2 h.2), if_neg (show ¬ (97 ≤ c.toNat ∧ c.toNat ≤ 102) from fun h => h4 h.2)]
      · simp only [dec_t h1, dec_f h2, dec_f h3, if_true, Option.bind_some, cond_true, cond_false, Bool.false_eq_true, if_false, if_neg (show ¬ (48 ≤ c.toNat ∧ c.toNat ≤ 57) from fun h => h2 h.2), if_neg (show ¬ (97 ≤ c.toNat ∧ c.toNat ≤ 102) from fun h => h3 h.1)]
  · have h3 : ¬ 97 ≤ c.toNat := by omega
    simp only [dec_f h1, dec_f h3, Bool.false_eq_true, if_false, Option.bind_some, cond_false, if_neg (show ¬ (48 ≤ c.toNat ∧ c.toNat ≤ 57) from fun h => h1 h.1), if_neg (show ¬ (97 ≤ c.toNat ∧ c.toNat ≤ 102) from fun h => h3 h.1)]
theorem pair_hex (k : Nat) (hk : 3 ≤ k) (s : List UInt8) (i : Nat) (hj : i + 1 < s.length) (hi : s.length ≤ 1000000) : loopO (fun t => ref01_Unhex.b2 k (i : Int) s t.1 t.2) k ((0 : Int), (i : Int)) = some (match hv s[i], hv s[i + 1] with | some a, some b => .inl ((16 * a + b : Nat) : Int) | _, _ => .inr (([] : List UInt8), false)) := by
  obtain ⟨k', rfl⟩ : ∃ j, k = j + 3 := ⟨k - 3, by omega⟩
  have h1 := step_hex (k' + 3) s i 0 i (by omega) (by omega) (by omega) (by omega)
  cases ha : hv s[i] with
  | none => rw [ha] at h1; exact loopO_out (k := k' + 2) h1
  | some a =>
    rw [ha] at h1
    have := hv_lt ha
    have h2 := step_hex (k' + 3) s i (16 * 0 + a) (i + 1) (by omega) (by omega) (by omega) (by omega)
    rw [loopO_step (k := k' + 2) h1]
    cases hb : hv s[i + 1] with
    | none => rw [hb] at h2; exact loopO_out (k := k' + 1) h2
    | some b =>
      rw [hb] at h2
      rw [loopO_step (k := k' + 1) h2]
      refine loopO_out (k := k') ?_
      have e1 : w64 ((i : Int) + 2) = ((i + 2 : Nat) : Int) := by rw [w64_id (by omega) (by omega)]; omega
      simp only [ref01_Unhex.b2, lt1, e1, dec_f (show ¬ ((i + 1 + 1 : Nat) : Int) < ((i + 2 : Nat) : Int) by omega), Bool.false_eq_true, if_false]
      rw [show 16 * (16 * 0 + a) + b = 16 * a + b by omega]
theorem pairs_drop (s : List UInt8) (i : Nat) (hj : i + 1 < s.length) : pairsO (s.drop i) = match hv s[i], hv s[i + 1] with | some x, some y => (pairsO (s.drop (i + 2))).map (UInt8.ofNat (16 * x + y) :: ·) | _, _ => none := by
  rw [List.drop_eq_getElem_cons (by omega), List.drop_eq_getElem_cons (by omega)]
  rfl
theorem modI2 (n : Nat) : modI (n : Int) 2 = some ((n % 2 : Nat) : Int) := by
  have : (n : Int).tmod 2 = ((n % 2 : Nat) : Int) := by rw [show (2 : Int) = ((2 : Nat) : Int) from rfl, Int.ofNat_tmod]
  simp only [modI, this]
  rw [if_neg (by decide)]
theorem ofI_u8 (n : Nat) : (UN.ofI ((n : Nat) : Int) : UInt8) = UInt8.ofNat n := by
  apply UInt8.toNat_inj.1
  show (UInt8.ofNat ((n : Int) % ((2 ^ 8 : Nat) : Int)).toNat).toNat = _
  have : ((n : Int) % ((2 ^ 8 : Nat) : Int)).toNat = n % 256 := by omega
  rw [this, UInt8.toNat_ofNat', UInt8.toNat_ofNat']
  omega
theorem unhex_eq (k : Nat) (s : List UInt8) (hk : s.length + 3 ≤ k) (hs : s.length ≤ 1000000) : ref01_Unhex k s = some (if s.length % 2 = 0 then (match pairsO s with | some l => (l, true) | none => ([], false)) else ([], false)) := by
  by_cases hm : s.length % 2 = 0
  · have hl : ∃ t, loopO (fun t => ref01_Unhex.b1 k s t.1 t.2) k (([] : List UInt8), (0 : Int)) = some t ∧ t = (match pairsO s with | some l => .inl l | none => .inr (([] : List UInt8), false)) := by
      refine loop_inv (I := fun t : List UInt8 × Int => 0 ≤ t.2 ∧ t.2 ≤ (s.length : Int) ∧ t.2.toNat % 2 = 0 ∧ t.1.length ≤ t.2.toNat ∧ pairsO s = (pairsO (s.drop t.2.toNat)).map (t.1 ++ ·)) (m := fun t => (s.length : Int).toNat - t.2.toNat) _ ?_ k _ ⟨by show (0 : Int) ≤ 0; omega, by show (0 : Int) ≤ _; omega, rfl, Nat.le_refl _, by simp⟩ (by show s.length - 0 < k; omega)
      rintro ⟨x, i⟩ ⟨h0, h1, h2, h3, h4⟩
      simp only at h0 h1 h2 h3 h4
      obtain ⟨i, rfl⟩ : ∃ j : Nat, i = j := ⟨i.toNat, by omega⟩
      simp only [Int.toNat_natCast] at h2 h3 h4
      have e1 : w64 ((i : Int) + 2) = ((i + 2 : Nat) : Int) := by rw [w64_id (by omega) (by omega)]; omega
      by_cases hc : i < s.length
      · have hj : i + 1 < s.length := by omega
        have h5 := pair_hex k (by omega) s i hj hs
        rw [pairs_drop s i hj] at h4
        simp only [ref01_Unhex.b1, lt1, dec_t (show (i : Int) < (s.length : Int) by omega), if_true, h5, Option.bind_some]
        cases ha : hv s[i] with
        | none =>
          right
          rw [ha] at h4
          refine ⟨_, rfl, ?_⟩
          rw [h4]; rfl
        | some a =>
          cases hb : hv s[i + 1] with
          | none =>
            right
            rw [ha, hb] at h4
            refine ⟨_, rfl, ?_⟩
            rw [h4]; rfl
          | some b =>
            left
            rw [ha, hb] at h4
            have h6 : apL 1 x [UInt8.ofNat (16 * a + b)] = some (x ++ [UInt8.ofNat (16 * a + b)]) := apL_ok (by show (x.length + 1) * 1 ≤ _; omega)
            simp only [Option.bind_some, ofI_u8, h6, e1]
            refine ⟨_, rfl, ⟨by show (0 : Int) ≤ ((i + 2 : Nat) : Int); omega, by show ((i + 2 : Nat) : Int) ≤ _; omega, by show (((i + 2 : Nat) : Int)).toNat % 2 = 0; omega, by show (x ++ [UInt8.ofNat (16 * a + b)]).length ≤ (((i + 2 : Nat) : Int)).toNat; simp; omega, ?_⟩, by show (s.length : Int).toNat - (((i + 2 : Nat) : Int)).toNat < (s.length : Int).toNat - ((i : Int)).toNat; omega⟩
            show pairsO s = (pairsO (s.drop (((i + 2 : Nat) : Int)).toNat)).map ((x ++ [UInt8.ofNat (16 * a + b)]) ++ ·)
            rw [h4, Int.toNat_natCast, Option.map_map]
            congr 1
            funext l
            simp
      · right
        simp only [ref01_Unhex.b1, lt1, dec_f (show ¬ (i : Int) < (s.length : Int) by omega), Bool.false_eq_true, if_false]
        refine ⟨_, rfl, ?_⟩
        rw [h4, List.drop_of_length_le (by omega)]
        simp [pairsO]
    obtain ⟨t, h1, h2⟩ := hl
    have hb : ((((s.length % 2 : Nat) : Int)) != 0) = false := by rw [hm]; rfl
    simp only [ref01_Unhex, modI2, Option.bind_some, lt1, hb, Bool.false_eq_true, if_false, h1, if_pos hm, h2]
    cases pairsO s <;> rfl
  · have hb : ((((s.length % 2 : Nat) : Int)) != 0) = true := by simp; omega
    simp only [ref01_Unhex, modI2, Option.bind_some, lt1, hb, if_true, if_neg hm]
/-- The hash of a text. -/
def ofV (l : List UInt8) : Vector UInt8 32 := Vector.ofFn fun j => l.getD j.1 0
def nib (s : List UInt8) (i : Nat) : Nat := ((s[i]?).bind hv).getD 0
/-- The hash of the first i digits. -/
def partV (s : List UInt8) (i : Nat) : Vector UInt8 32 := Vector.ofFn fun j => if 2 * j.1 + 1 < i then UInt8.ofNat (16 * nib s (2 * j.1) + nib s (2 * j.1 + 1)) else if 2 * j.1 < i then UInt8.ofNat (nib s (2 * j.1)) else 0
theorem nib_lt (s : List UInt8) (i : Nat) : nib s i < 16 := by
  unfold nib
  cases h : (s[i]?).bind hv with
  | none => simp
  | some n =>
    cases h2 : s[i]? with
    | none => rw [h2] at h; cases h
    | some c => rw [h2] at h; exact hv_lt h
theorem shl_or (x v : Nat) (hx : x < 16) (hv : v < 16) : (UN.shl (UInt8.ofNat x) (UN.toN (4 : UInt64)) ||| UInt8.ofNat v) = UInt8.ofNat (16 * x + v) := by
  have key : ∀ a : Fin 16, ∀ b : Fin 16, (UInt8.ofNat ((UInt8.ofNat a.1).toNat * 2 ^ (min 4 8)) ||| UInt8.ofNat b.1) = UInt8.ofNat (16 * a.1 + b.1) := by decide
  exact key ⟨x, hx⟩ ⟨v, hv⟩
theorem div2 (i : Nat) (h : i ≤ 1000) : divI (i : Int) 2 = some ((i / 2 : Nat) : Int) := by
  have : (i : Int).tdiv 2 = ((i / 2 : Nat) : Int) := by rw [show (2 : Int) = ((2 : Nat) : Int) from rfl, Int.ofNat_tdiv]
  simp only [divI, this]
  rw [if_neg (by decide), w64_id (by omega) (by omega)]
theorem shaOf_eq {k : Nat} (hk : k = 4000) (s : List UInt8) : sha_Of k s = some (if s.length = 64 then (match pairsO s with | some l => (ofV l, (0 : Int)) | none => (Vector.replicate 32 0, (4 : Int))) else (Vector.replicate 32 0, (4 : Int))) := by
  by_cases hl : s.length = 64
  · have hb : ((s.length : Int) != 64) = false := by simp [hl]
    have hlp : ∃ t, loopO (fun t => sha_Of.b1 k s t.1 t.2) k (Vector.replicate 32 (0 : UInt8), (0 : Int)) = some t ∧ ((t = (partV s 64, 0) ∧ ∀ j, j < 64 → ∃ n, (s[j]?).bind hv = some n) ∨ (t = (Vector.replicate 32 0, 4) ∧ ∃ j, j < 64 ∧ (s[j]?).bind hv = none)) := by
      refine loop_inv (I := fun t : Vector UInt8 32 × Int => 0 ≤ t.2 ∧ t.2 ≤ 64 ∧ t.1 = partV s t.2.toNat ∧ ∀ j, j < t.2.toNat → ∃ n, (s[j]?).bind hv = some n) (m := fun t => (64 - t.2).toNat) _ ?_ k _ ⟨by show (0 : Int) ≤ 0; omega, by show (0 : Int) ≤ 64; omega, Vector.ext fun j hj => by simp [partV], fun j hj => by have : j < (0 : Int).toNat := hj; simp at this⟩ (by show (64 - (0 : Int)).toNat < k; omega)
      rintro ⟨h, i⟩ ⟨h0, h1, h2, h3⟩
      simp only at h0 h1 h2 h3
      subst h2
      obtain ⟨i, rfl⟩ : ∃ j : Nat, i = j := ⟨i.toNat, by omega⟩
      simp only [Int.toNat_natCast] at h3 ⊢
      by_cases hlt : i < 64
      · have hi : i < s.length := by omega
        have hx := index_eq hk s[i]
        have e0 : s[i]? = some s[i] := List.getElem?_eq_getElem hi
        cases hv1 : hv s[i] with
        | none =>
          right
          have e1 : hvI s[i] = -1 := by unfold hvI; rw [hv1]
          simp only [sha_Of.b1, lt1, hl, dec_t (show (i : Int) < ((64 : Nat) : Int) by omega), if_true, idxL_lt hi, hx, e1, Option.bind_some, dec_t (show (-1 : Int) < 0 by omega)]
          exact ⟨_, rfl, .inr ⟨rfl, i, hlt, by rw [e0]; exact hv1⟩⟩
        | some v =>
          left
          have hvl := hv_lt hv1
          have e1 : hvI s[i] = (v : Int) := by unfold hvI; rw [hv1]
          have en : nib s i = v := by unfold nib; rw [e0]; simp [hv1]
          have iv : inV 32 ((i / 2 : Nat) : Int) = some ⟨i / 2, by omega⟩ := inV_ok (by omega) (by simp; omega)
          have e2 : (UN.shl (getV (partV s i) ⟨i / 2, by omega⟩) (UN.toN (4 : UInt64)) ||| UInt8.ofNat v) = (partV s (i + 1))[i / 2] := by
            have g1 : getV (partV s i) ⟨i / 2, by omega⟩ = UInt8.ofNat (if i % 2 = 1 then nib s (i - 1) else 0) := by
              simp only [getV, partV, Vector.getElem_ofFn]
              by_cases hm : i % 2 = 1
              · rw [if_neg (by omega), if_pos (by omega), if_pos hm, show 2 * (i / 2) = i - 1 by omega]
              · rw [if_neg (by omega), if_neg (by omega), if_neg hm]; rfl
            rw [g1, shl_or _ _ (by split; exact nib_lt _ _; omega) hvl]
            simp only [partV, Vector.getElem_ofFn]
            by_cases hm : i % 2 = 1
            · rw [if_pos hm, if_pos (by omega), show 2 * (i / 2) = i - 1 by omega, show i - 1 + 1 = i by omega, en]
            · rw [if_neg hm, if_neg (by omega), if_pos (by omega), show 2 * (i / 2) = i by omega, en, Nat.mul_zero, Nat.zero_add]
          have e3 : putV (partV s i) ⟨i / 2, by omega⟩ ((partV s (i + 1))[i / 2]) = partV s (i + 1) := by
            refine Vector.ext fun j hj => ?_
            simp only [putV, Vector.getElem_set]
            by_cases hij : i / 2 = j
            · subst hij; simp
            · rw [if_neg hij]
              simp only [partV, Vector.getElem_ofFn]
              have c1 : (2 * j + 1 < i) ↔ (2 * j + 1 < i + 1) := by omega
              have c2 : (2 * j < i) ↔ (2 * j < i + 1) := by omega
              simp only [c1, c2]
          simp only [sha_Of.b1, lt1, hl, dec_t (show (i : Int) < ((64 : Nat) : Int) by omega), if_true, idxL_lt hi, hx, e1, Option.bind_some, dec_f (show ¬ (v : Int) < 0 by omega), Bool.false_eq_true, if_false, div2 i (by omega), iv, ofI_u8, e2, e3, w64_succ (show i < 9223372036854775807 by omega)]
          refine ⟨_, rfl, ⟨by show (0 : Int) ≤ ((i + 1 : Nat) : Int); omega, by show ((i + 1 : Nat) : Int) ≤ 64; omega, by simp only [Int.toNat_natCast], ?_⟩, by show (64 - ((i + 1 : Nat) : Int)).toNat < (64 - (i : Int)).toNat; omega⟩
          intro j hj
          have hj : j < ((i + 1 : Nat) : Int).toNat := hj
          by_cases hji : j = i
          · subst hji; exact ⟨v, by rw [e0]; exact hv1⟩
          · exact h3 j (by omega)
      · right
        have h64 : i = 64 := by omega
        subst h64
        simp only [sha_Of.b1, lt1, hl, dec_f (show ¬ ((64 : Nat) : Int) < ((64 : Nat) : Int) by omega), Bool.false_eq_true, if_false]
        exact ⟨_, rfl, .inl ⟨rfl, h3⟩⟩
    obtain ⟨t, h1, h2⟩ := hlp
    rw [if_pos hl]
    simp only [sha_Of, lt1, hb, Bool.false_eq_true, if_false, h1, Option.bind_some]
    cases hp : pairsO s with
    | none =>
      obtain ⟨j, h3, h4⟩ := pairs_none 32 s (by omega) hp
      rcases h2 with ⟨_, h5⟩ | ⟨h5, _⟩
      · obtain ⟨n, h6⟩ := h5 j (by omega); rw [h4] at h6; cases h6
      · rw [h5]
    | some l =>
      obtain ⟨h3, h4⟩ := pairs_some 32 s l (by omega) hp
      rcases h2 with ⟨h5, _⟩ | ⟨_, j, h6, h7⟩
      · rw [h5]
        have : partV s 64 = ofV l := Vector.ext fun j hj => by
          obtain ⟨a, b, h8, h9, h10⟩ := h4 j hj
          simp only [partV, ofV, Vector.getElem_ofFn]
          rw [if_pos (by omega), List.getD_eq_getElem?_getD, h10]
          simp only [nib, h8, h9, Option.getD_some]
        rw [this]
      · obtain ⟨a, b, h8, h9, _⟩ := h4 (j / 2) (by omega)
        by_cases hm : j % 2 = 1
        · rw [show 2 * (j / 2) + 1 = j by omega, h7] at h9; cases h9
        · rw [show 2 * (j / 2) = j by omega, h7] at h8; cases h8
  · have hb : ((s.length : Int) != 64) = true := by simp; omega
    rw [if_neg hl]
    simp only [sha_Of, lt1, hb, if_true]
theorem cpV_ofV (l : List UInt8) (h : l.length = 32) : cpV (Vector.replicate 32 (0 : UInt8)) 0 (32 - 0) l = ofV l := by
  refine Vector.ext fun j hj => ?_
  simp only [cpV, ofV, Vector.getElem_ofFn]
  rw [dif_pos ⟨by omega, by omega, by omega⟩, List.getD_eq_getElem?_getD, List.getElem?_eq_getElem (by omega)]
  simp
theorem refOf_eq (k : Nat) (s : List UInt8) (hk : s.length + 3 ≤ k) (hs : s.length ≤ 1000000) : ref03_Of k s = some (if s.length = 64 then (match pairsO s with | some l => (ofV l, true) | none => (Vector.replicate 32 0, false)) else (Vector.replicate 32 0, false)) := by
  have h1 := unhex_eq k s hk hs
  by_cases hm : s.length % 2 = 0
  · rw [if_pos hm] at h1
    cases hp : pairsO s with
    | none =>
      rw [hp] at h1
      simp only [ref03_Of, h1, Option.bind_some, lt1, Bool.not_false, if_true, ite_self]
    | some l =>
      rw [hp] at h1
      obtain ⟨h3, _⟩ := pairs_some (s.length / 2) s l (by omega) hp
      by_cases hl : s.length = 64
      · have hb : ((l.length : Int) != 32) = false := by simp; omega
        have h32 : l.length = 32 := by omega
        simp only [ref03_Of, h1, Option.bind_some, lt1, Bool.not_true, Bool.false_eq_true, if_false, hb, cpV_ofV l h32, if_pos hl]
      · have hb : ((l.length : Int) != 32) = true := by simp; omega
        simp only [ref03_Of, h1, Option.bind_some, lt1, Bool.not_true, Bool.false_eq_true, if_false, hb, if_true, if_neg hl]
  · rw [if_neg hm] at h1
    rw [if_neg (by omega)]
    simp only [ref03_Of, h1, Option.bind_some, lt1, Bool.not_false, if_true]
theorem hv_dig : ∀ n : Fin 16, hv (dig n.1) = some n.1 := by decide
theorem pairs_hex (l : List UInt8) : pairsO (hexL l) = some l := by
  induction l with
  | nil => rfl
  | cons x l ih =>
    have hx := x.toNat_lt
    have h1 := hv_dig ⟨x.toNat / 16, by omega⟩
    have h2 := hv_dig ⟨x.toNat % 16, by omega⟩
    simp only [hexL, pairsO, h1, h2, ih, Option.map_some]
    rw [show 16 * (x.toNat / 16) + x.toNat % 16 = x.toNat by omega, UInt8.ofNat_toNat]
theorem ofV_toList (v : Vector UInt8 32) : ofV v.toList = v := Vector.ext fun j hj => by simp [ofV, hj]
end Go.Proofs.Ytdncoiehmkcajaa
