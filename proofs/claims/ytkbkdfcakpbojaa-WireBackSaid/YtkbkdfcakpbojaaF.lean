/- Texts of bytes: the program's, and back. -/
import Derived.Test.YtkbkdfcakpbojaaE
namespace Go.Proofs.Ytkbkdfcakpbojaa
open Go Fw
set_option linter.unusedVariables false
set_option linter.unusedSimpArgs false

theorem ixB_all : (List.range 256).all (fun n => decide (indexB digs (UInt8.ofNat n) = hvI (UInt8.ofNat n))) = true := by decide +kernel
theorem ixB (k : Nat) (c : UInt8) : strings_IndexByte k ([48, 49, 50, 51, 52, 53, 54, 55, 56, 57, 97, 98, 99, 100, 101, 102] : List UInt8) c = some (hvI c) := by
  have := List.all_eq_true.1 ixB_all c.toNat (List.mem_range.2 c.toNat_lt)
  have h2 := of_decide_eq_true this
  rw [UInt8.ofNat_toNat] at h2
  exact congrArg some h2
theorem shl4 (x : Nat) (hx : x < 16) : shlI (x : Int) (UN.toN (4 : UInt64) : Nat) = some ((16 * x : Nat) : Int) := by
  have e : ((UN.toN (4 : UInt64) : Nat) : Int) = 4 := rfl
  rw [e]
  unfold shlI
  rw [if_neg (by decide), show (2 : Int) ^ (min (4 : Int).toNat 64) = 16 from rfl, w64_id (by omega) (by omega)]
  congr 1
  omega
theorem or_nib (x v : Nat) (hx : x < 16) (hv : v < 16) : orI ((16 * x : Nat) : Int) (v : Int) = ((16 * x + v : Nat) : Int) := by
  have key : ∀ a : Fin 16, ∀ b : Fin 16, (BitVec.ofInt 64 ((16 * a.1 : Nat) : Int) ||| BitVec.ofInt 64 (b.1 : Int)).toNat = 16 * a.1 + b.1 := by decide +kernel
  unfold orI
  rw [show (BitVec.ofInt 64 ((16 * x : Nat) : Int) ||| BitVec.ofInt 64 (v : Int)).toNat = 16 * x + v from key ⟨x, hx⟩ ⟨v, hv⟩, w64_id (by omega) (by omega)]
theorem wireHex_eq (k : Nat) (b : List UInt8) (hk : b.length < k) (hb : b.length ≤ 1000000) : wire_Hex k b = some (hexL b) := by
  have hl : loopO (fun s => wire_Hex.b1 k b s.1 s.2) k (([] : List UInt8), (0 : Int)) = some (hexL b) := by
    refine loop_g (n := b.length) (fun i => (hexL (b.take i), ((i : Nat) : Int))) _ (by simp [hexL]) ?_ ?_ hk
    · intro i hi
      have hx := b[i].toNat_lt
      have h2 := idx_dig (b[i].toNat / 16) (by omega)
      have h3 := idx_dig (b[i].toNat % 16) (by omega)
      have h4 : b.take (i + 1) = b.take i ++ [b[i]] := List.take_succ_eq_append_getElem hi
      have hli : (b.take i).length = i := by simp; omega
      have h5 : apL 1 (hexL (b.take i)) [dig (b[i].toNat / 16)] = some (hexL (b.take i) ++ [dig (b[i].toNat / 16)]) := apL_ok (by rw [hexL_len]; simp; omega)
      have h6 : apL 1 (hexL (b.take i) ++ [dig (b[i].toNat / 16)]) [dig (b[i].toNat % 16)] = some (hexL (b.take (i + 1))) := by
        rw [apL_ok (by rw [List.length_append, hexL_len]; simp; omega), h4, hexL_app, List.append_assoc]; rfl
      simp only [wire_Hex.b1, strings_Builder_WriteByte'2, strings_Builder_WriteByte'3, strings_Builder_copyCheck'2, strings_Builder_copyCheck'3, lt1, dec_t (show (i : Int) < (b.length : Int) by omega), if_true, idxL_lt hi, hi_eq, lo_eq, h2, h3, h5, h6, Option.bind_some, w64_succ (show i < 9223372036854775807 by omega)]
    · simp only [wire_Hex.b1, lt1, dec_f (show ¬ (b.length : Int) < (b.length : Int) by omega), Bool.false_eq_true, if_false, List.take_length]
  have ht : toStr (hexL b) = some (hexL b) := if_pos (by rw [hexL_len]; omega)
  simp only [wire_Hex, hl, strings_Builder_String, ht, Option.bind_some]
theorem wireUnhex_eq (k : Nat) (s : List UInt8) (hk : s.length + 3 ≤ k) (hs : s.length ≤ 1000000) : wire_Unhex k s = some (if s.length % 2 = 0 then (match pairsO s with | some l => (l, (0 : Int)) | none => ([], (4 : Int))) else ([], (4 : Int))) := by
  by_cases hm : s.length % 2 = 0
  · have hl : ∃ t, loopO (fun t => wire_Unhex.b1 k s t.1 t.2.1 t.2.2) k (([] : List UInt8), true, (0 : Int)) = some t ∧ (match pairsO s with | some l => t = (l, true) | none => t.2 = false) := by
      refine loop_inv (I := fun t : List UInt8 × Bool × Int => t.2.1 = true ∧ 0 ≤ t.2.2 ∧ t.2.2 ≤ (s.length : Int) ∧ t.2.2.toNat % 2 = 0 ∧ t.1.length ≤ t.2.2.toNat ∧ pairsO s = (pairsO (s.drop t.2.2.toNat)).map (t.1 ++ ·)) (m := fun t => (s.length : Int).toNat - t.2.2.toNat) _ ?_ k _ ⟨rfl, by show (0 : Int) ≤ 0; omega, by show (0 : Int) ≤ _; omega, rfl, Nat.le_refl _, by simp⟩ (by show s.length - 0 < k; omega)
      rintro ⟨x, g, i⟩ ⟨hg, h0, h1, h2, h3, h4⟩
      simp only at hg h0 h1 h2 h3 h4
      subst hg
      obtain ⟨i, rfl⟩ : ∃ j : Nat, i = j := ⟨i.toNat, by omega⟩
      simp only [Int.toNat_natCast] at h2 h3 h4
      have e1 : w64 ((i : Int) + 2) = ((i + 2 : Nat) : Int) := by rw [w64_id (by omega) (by omega)]; omega
      by_cases hc : i < s.length
      · have hj : i + 1 < s.length := by omega
        rw [pairs_drop s i hj] at h4
        simp only [wire_Unhex.b1, lt1, dec_t (show (i : Int) < (s.length : Int) by omega), cond_true, if_true, idxL_lt hc, w64_succ (show i < 9223372036854775807 by omega), idxL_lt hj, ixB, Option.bind_some]
        cases ha : hv s[i] with
        | none =>
          right
          have ea : hvI s[i] = -1 := by unfold hvI; rw [ha]
          rw [ha] at h4
          have h4 : pairsO s = none := by rw [h4]; rfl
          simp only [ea, dec_f (show ¬ ((-1 : Int) ≥ 0) by omega), cond_false, Bool.not_false, if_true]
          refine ⟨_, rfl, ?_⟩
          rw [h4]
        | some a =>
          have ea : hvI s[i] = (a : Int) := by unfold hvI; rw [ha]
          cases hb : hv s[i + 1] with
          | none =>
            right
            have eb : hvI s[i + 1] = -1 := by unfold hvI; rw [hb]
            rw [ha, hb] at h4
            have h4 : pairsO s = none := by rw [h4]; rfl
            simp only [ea, eb, dec_f (show ¬ ((-1 : Int) ≥ 0) by omega), dec_t (show ((a : Int) ≥ 0) by omega), cond_true, Bool.not_false, if_true]
            refine ⟨_, rfl, ?_⟩
            rw [h4]
          | some b =>
            left
            have eb : hvI s[i + 1] = (b : Int) := by unfold hvI; rw [hb]
            rw [ha, hb] at h4
            have la := hv_lt ha
            have lb := hv_lt hb
            have h6 : apL 1 x [UInt8.ofNat (16 * a + b)] = some (x ++ [UInt8.ofNat (16 * a + b)]) := apL_ok (by show (x.length + 1) * 1 ≤ _; omega)
            simp only [ea, eb, dec_t (show ((a : Int) ≥ 0) by omega), dec_t (show ((b : Int) ≥ 0) by omega), cond_true, Bool.not_true, Bool.false_eq_true, if_false, shl4 a la, or_nib a b la lb, Option.bind_some, ofI_u8, h6, e1]
            refine ⟨_, rfl, ⟨rfl, by show (0 : Int) ≤ ((i + 2 : Nat) : Int); omega, by show ((i + 2 : Nat) : Int) ≤ _; omega, by show (((i + 2 : Nat) : Int)).toNat % 2 = 0; omega, by show (x ++ [UInt8.ofNat (16 * a + b)]).length ≤ (((i + 2 : Nat) : Int)).toNat; simp; omega, ?_⟩, by show (s.length : Int).toNat - (((i + 2 : Nat) : Int)).toNat < (s.length : Int).toNat - ((i : Int)).toNat; omega⟩
            show pairsO s = (pairsO (s.drop (((i + 2 : Nat) : Int)).toNat)).map ((x ++ [UInt8.ofNat (16 * a + b)]) ++ ·)
            rw [h4, Int.toNat_natCast, Option.map_map]
            congr 1
            funext l
            simp
      · right
        simp only [wire_Unhex.b1, lt1, dec_f (show ¬ (i : Int) < (s.length : Int) by omega), cond_true, Option.bind_some, Bool.false_eq_true, if_false]
        refine ⟨_, rfl, ?_⟩
        rw [h4, List.drop_of_length_le (by omega)]
        simp [pairsO]
    obtain ⟨t, h1, h2⟩ := hl
    have hb : ((((s.length % 2 : Nat) : Int)) == 0) = true := by rw [hm]; rfl
    simp only [wire_Unhex, modI2, Option.bind_some, lt1, hb, h1, if_pos hm]
    cases hp : pairsO s with
    | some l =>
      rw [hp] at h2
      have h2 : t = (l, true) := h2
      subst h2
      rfl
    | none =>
      rw [hp] at h2
      have h2 : t.2 = false := h2
      obtain ⟨t1, t2⟩ := t
      simp only at h2
      subst h2
      rfl
  · have hb : ((((s.length % 2 : Nat) : Int)) == 0) = false := by
      rw [beq_eq_false_iff_ne]; omega
    obtain ⟨k', rfl⟩ : ∃ j, k = j + 1 := ⟨k - 1, by omega⟩
    have h1 : loopO (fun t => wire_Unhex.b1 (k' + 1) s t.1 t.2.1 t.2.2) (k' + 1) (([] : List UInt8), false, (0 : Int)) = some ([], false) := by
      refine loopO_out ?_
      simp only [wire_Unhex.b1, lt1, cond_false, Option.bind_some, Bool.false_eq_true, if_false]
    simp only [wire_Unhex, modI2, Option.bind_some, lt1, hb, h1, if_neg hm, Bool.not_false, if_true]
/-- A text's bytes are what it was told of. -/
theorem hv_dig (n : Nat) (h : n < 16) : hv (dig n) = some n := by
  have key : ∀ a : Fin 16, hv (dig a.1) = some a.1 := by decide
  exact key ⟨n, h⟩
theorem pairs_hexL (l : List UInt8) : pairsO (hexL l) = some l := by
  induction l with
  | nil => rfl
  | cons x l ih =>
    have hx := x.toNat_lt
    simp only [hexL, pairsO, hv_dig (x.toNat / 16) (by omega), hv_dig (x.toNat % 16) (by omega), ih, Option.map_some]
    rw [show 16 * (x.toNat / 16) + x.toNat % 16 = x.toNat by omega, UInt8.ofNat_toNat]
end Go.Proofs.Ytkbkdfcakpbojaa
