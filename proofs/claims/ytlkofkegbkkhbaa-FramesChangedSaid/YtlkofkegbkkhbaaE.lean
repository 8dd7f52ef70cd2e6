/- What closing and opening compute, and what is opened. -/
import Derived.Test.YtlkofkegbkkhbaaD
namespace Go.Proofs.Ytlkofkegbkkhbaa.Crc
open Fw
set_option linter.unusedVariables false
set_option linter.unusedSimpArgs false

/-- A sum's four bytes. -/
def le (s : UInt32) (n : Nat) : List UInt8 := (List.range n).map fun i => UInt8.ofNat (s.toNat / 2 ^ (8 * i))
theorem le_succ (s : UInt32) (n : Nat) : le s (n + 1) = le s n ++ [UInt8.ofNat (s.toNat / 2 ^ (8 * n))] := by simp [le, List.range_succ]
theorem le_length (s : UInt32) (n : Nat) : (le s n).length = n := by simp [le]
def closed (m : List UInt8) : List UInt8 := m ++ le (csum m) 4
theorem closed_length (m : List UInt8) : (closed m).length = m.length + 4 := by simp [closed, le_length]
theorem shr_toNat (x : UInt32) (n : Nat) (h : n ≤ 32) : (UN.shr x n).toNat = x.toNat / 2 ^ n := by
  rw [shr32 x n h]
  show (x.toBitVec >>> n).toNat = _
  rw [BitVec.toNat_ushiftRight, Nat.shiftRight_eq_div_pow]; rfl
theorem Close_eq (k : Nat) (l : List (List UInt8)) (hl : l.length < 9223372036854775807) (hb : l.flatten.length + 4 ≤ 140737488355328) (hk : 16 < k) (hk2 : l.length < k) (hk3 : l.flatten.length < k) : crc_Close k l = some (closed l.flatten) := by
  have h1 := loop_g (body := fun s : Int × List UInt8 => crc_Close.b1 k l s.1 s.2) (fun i => ((i : Int), (l.take i).flatten)) l.length l.flatten (s0 := ((0 : Int), [])) rfl (fun i hi => by
    show crc_Close.b1 k l (i : Int) _ = _
    unfold crc_Close.b1
    have h1 : (i : Int) < (l.length : Int) := by omega
    have h2 : (l.take i).flatten.length + l[i].length ≤ l.flatten.length := by
      have e : l.flatten = (l.take i).flatten ++ (l.drop i).flatten := by rw [← List.flatten_append, List.take_append_drop]
      rw [e, List.drop_eq_getElem_cons hi, List.flatten_cons, List.length_append, List.length_append]
      omega
    simp only [lt1, dec_t h1, if_true, idxL_lt hi, Option.bind_some]
    rw [apL_ok (by omega), w64_succ (by omega), take_succ' hi, List.flatten_append, List.flatten_singleton]
    rfl) (by
    show crc_Close.b1 k l ((l.length : Nat) : Int) _ = _
    unfold crc_Close.b1
    simp [lt1, List.take_length]) hk2
  unfold crc_Close
  rw [h1]
  clear h1
  generalize l.flatten = fl at *
  have h2 := loop_g (body := fun s : UInt32 × Int × List UInt8 => crc_Close.b2 k s.1 s.2.1 s.2.2) (fun i => (UN.shr (csum fl) (8 * i), (i : Int), fl ++ le (csum fl) i)) 4 (closed fl) (s0 := (csum fl, (0 : Int), fl)) (by
    simp only [le, List.range_zero, List.map_nil, List.append_nil]
    congr 1
    apply UInt32.toNat_inj.1
    rw [shr_toNat _ _ (by decide)]
    simp) (fun i hi => by
    show crc_Close.b2 k _ (i : Int) _ = _
    unfold crc_Close.b2
    have h1 : (i : Int) < 4 := by omega
    simp only [lt1, dec_t h1, if_true, Option.bind_some]
    rw [apL_ok (by simp [le_length]; omega), w64_succ (by omega)]
    simp only [Option.bind_some]
    congr 3
    · apply UInt32.toNat_inj.1
      have e8 : UN.toN (8 : UInt64) = 8 := rfl
      rw [e8, shr_toNat _ _ (by decide), shr_toNat _ _ (by omega), shr_toNat _ _ (by omega), Nat.div_div_eq_div_mul, ← Nat.pow_add]
      rfl
    · congr 1
      rw [le_succ, ← List.append_assoc]
      congr 2
      apply UInt8.toNat_inj.1
      show (UInt8.ofNat (UN.shr (csum fl) (8 * i)).toNat).toNat = _
      rw [shr_toNat _ _ (by omega)]) (by
    show crc_Close.b2 k _ ((4 : Nat) : Int) _ = _
    unfold crc_Close.b2
    simp [lt1, closed]) (k := k) (by omega)
  simp only [Option.bind_some]
  rw [Sum_eq k [fl] (by simp) (by simp; omega) hk (by simp; omega) (by simp; omega), List.flatten_singleton]
  simp only [Option.bind_some]
  rw [h2]
  rfl
/-- What is closed has one sum. -/
theorem upd_le (x : BitVec 32) (s : UInt32) : upd x (le s 4) = Ln 32 (x ^^^ s.toBitVec) := by
  rw [← run_word]
  unfold upd
  congr 1
  apply List.ext_getElem
  · simp [bitsL, byte, bits, le, List.range_succ]
  · intro i h1 h2
    have hi : i < 32 := by simpa [bits] using h2
    have hb : ∀ j, j < 4 → ∀ t, t < 8 → ((UInt8.ofNat (s.toNat / 2 ^ (8 * j))).toBitVec.setWidth 32).getLsbD t = s.toBitVec.getLsbD (8 * j + t) := fun j hj t ht => by
      rw [BitVec.getLsbD_setWidth]
      have ht32 : t < 32 := by omega
      simp only [ht32, decide_true, Bool.true_and]
      show (UInt8.ofNat (s.toNat / 2 ^ (8 * j))).toNat.testBit t = s.toNat.testBit (8 * j + t)
      rw [t8, Nat.testBit_mod_two_pow, Nat.testBit_div_two_pow]
      simp [ht, Nat.add_comm]
    have hl : bitsL (le s 4) = bits 32 s.toBitVec := by
      have e : le s 4 = [UInt8.ofNat (s.toNat / 2 ^ (8 * 0)), UInt8.ofNat (s.toNat / 2 ^ (8 * 1)), UInt8.ofNat (s.toNat / 2 ^ (8 * 2)), UInt8.ofNat (s.toNat / 2 ^ (8 * 3))] := rfl
      have e8 : List.range 8 = [0, 1, 2, 3, 4, 5, 6, 7] := by decide
      have e32 : List.range 32 = [0, 1, 2, 3, 4, 5, 6, 7, 8, 9, 10, 11, 12, 13, 14, 15, 16, 17, 18, 19, 20, 21, 22, 23, 24, 25, 26, 27, 28, 29, 30, 31] := by decide
      rw [e]
      simp only [bitsL, List.flatMap_cons, List.flatMap_nil, byte, bits, e8, e32, List.map_cons, List.map_nil, List.cons_append, List.nil_append]
      simp only [hb 0 (by decide) _ (by decide : 0 < 8), hb 0 (by decide) _ (by decide : 1 < 8), hb 0 (by decide) _ (by decide : 2 < 8), hb 0 (by decide) _ (by decide : 3 < 8), hb 0 (by decide) _ (by decide : 4 < 8), hb 0 (by decide) _ (by decide : 5 < 8), hb 0 (by decide) _ (by decide : 6 < 8), hb 0 (by decide) _ (by decide : 7 < 8),
        hb 1 (by decide) _ (by decide : 0 < 8), hb 1 (by decide) _ (by decide : 1 < 8), hb 1 (by decide) _ (by decide : 2 < 8), hb 1 (by decide) _ (by decide : 3 < 8), hb 1 (by decide) _ (by decide : 4 < 8), hb 1 (by decide) _ (by decide : 5 < 8), hb 1 (by decide) _ (by decide : 6 < 8), hb 1 (by decide) _ (by decide : 7 < 8),
        hb 2 (by decide) _ (by decide : 0 < 8), hb 2 (by decide) _ (by decide : 1 < 8), hb 2 (by decide) _ (by decide : 2 < 8), hb 2 (by decide) _ (by decide : 3 < 8), hb 2 (by decide) _ (by decide : 4 < 8), hb 2 (by decide) _ (by decide : 5 < 8), hb 2 (by decide) _ (by decide : 6 < 8), hb 2 (by decide) _ (by decide : 7 < 8),
        hb 3 (by decide) _ (by decide : 0 < 8), hb 3 (by decide) _ (by decide : 1 < 8), hb 3 (by decide) _ (by decide : 2 < 8), hb 3 (by decide) _ (by decide : 3 < 8), hb 3 (by decide) _ (by decide : 4 < 8), hb 3 (by decide) _ (by decide : 5 < 8), hb 3 (by decide) _ (by decide : 6 < 8), hb 3 (by decide) _ (by decide : 7 < 8)]
    simp only [hl]
/-- Four bytes are some sum's. -/
theorem le_surj (t : List UInt8) (h : t.length = 4) : ∃ s, t = le s 4 := by
  match t, h with
  | [a, b, c, d], _ =>
    have ha := a.toNat_lt; have hb := b.toNat_lt; have hc := c.toNat_lt; have hd := d.toNat_lt
    have hn : a.toNat + 256 * b.toNat + 65536 * c.toNat + 16777216 * d.toNat < 2 ^ 32 := by omega
    refine ⟨UInt32.ofNat (a.toNat + 256 * b.toNat + 65536 * c.toNat + 16777216 * d.toNat), ?_⟩
    have e : ∀ s : UInt32, le s 4 = [UInt8.ofNat (s.toNat / 2 ^ (8 * 0)), UInt8.ofNat (s.toNat / 2 ^ (8 * 1)), UInt8.ofNat (s.toNat / 2 ^ (8 * 2)), UInt8.ofNat (s.toNat / 2 ^ (8 * 3))] := fun _ => rfl
    rw [e, t32, Nat.mod_eq_of_lt hn]
    congr 1
    · apply UInt8.toNat_inj.1; rw [t8]; omega
    · congr 1
      · apply UInt8.toNat_inj.1; rw [t8]; omega
      · congr 1
        · apply UInt8.toNat_inj.1; rw [t8]; omega
        · congr 1
          apply UInt8.toNat_inj.1; rw [t8]; omega
theorem ones_bit (i : Nat) (h : i < 32) : ones.getLsbD i = true := by revert i; decide
def resid : UInt32 := u32 (~~~ Ln 32 ones)
theorem csum_le (m : List UInt8) (s : UInt32) : csum (m ++ le s 4) = u32 (~~~ Ln 32 (upd ones m ^^^ s.toBitVec)) := by
  unfold csum; rw [upd_append, upd_le]
theorem csum_closed (m : List UInt8) : csum (closed m) = resid := by
  unfold closed
  rw [csum_le]
  unfold resid csum
  congr 2
  congr 1
  show upd ones m ^^^ ~~~ upd ones m = ones
  apply BitVec.eq_of_getLsbD_eq
  intro i hi
  rw [BitVec.getLsbD_xor, BitVec.getLsbD_not, ones_bit i hi]
  simp [hi]
theorem u32_inj {x y : BitVec 32} (h : u32 x = u32 y) : x = y := congrArg UInt32.toBitVec h
/-- What has that sum is closed. -/
theorem closed_of (m t : List UInt8) (ht : t.length = 4) (h : csum (m ++ t) = resid) : m ++ t = closed m := by
  obtain ⟨s, rfl⟩ := le_surj t ht
  rw [csum_le] at h
  have h1 := u32_inj h
  have h2 : Ln 32 (upd ones m ^^^ s.toBitVec) = Ln 32 ones := by
    have := congrArg (~~~ ·) h1
    simpa using this
  have h3 := Ln_inj 32 _ _ h2
  unfold closed
  congr 2
  have h4 : s.toBitVec = ~~~ upd ones m := by
    apply BitVec.eq_of_getLsbD_eq
    intro i hi
    have := congrArg (·.getLsbD i) h3
    simp only [BitVec.getLsbD_xor, ones_bit i hi] at this
    rw [BitVec.getLsbD_not]
    simp only [hi, decide_true, Bool.true_and]
    revert this
    cases s.toBitVec.getLsbD i <;> cases (upd ones m).getLsbD i <;> simp
  show s = u32 (~~~ upd ones m)
  rw [← h4]; rfl
theorem Residue_eq (k : Nat) (hk : 16 < k) : crc_Residue k = some resid := by
  unfold crc_Residue
  rw [Close_eq k [] (by simp) (by simp) hk (by simp; omega) (by simp; omega)]
  simp only [Option.bind_some, List.flatten_nil]
  have h : (closed []).length = 4 := closed_length _
  rw [Sum_eq k [closed []] (by simp) (by simp; omega) hk (by simp; omega) (by simp; omega)]
  simp only [Option.bind_some, List.flatten_singleton]
  rw [csum_closed]
/-- Whether bytes are closed, and what they were. -/
def opened (b : List UInt8) : List UInt8 × Bool := if 4 ≤ b.length ∧ csum b = resid then (b.take (b.length - 4), true) else ([], false)
theorem Open_eq (k : Nat) (b : List UInt8) (hb : b.length ≤ 140737488355328) (hk : 16 < k) (hk2 : b.length < k) : crc_Open k b = some (opened b) := by
  unfold crc_Open opened
  by_cases h4 : 4 ≤ b.length
  · have h1 : ¬ ((b.length : Int) < 4) := by omega
    simp only [lt1, dec_f h1, Bool.false_eq_true, if_false]
    rw [Sum_eq k [b] (by simp) (by simp; omega) hk (by simp; omega) (by simp; omega), Residue_eq k hk]
    simp only [Option.bind_some, List.flatten_singleton]
    by_cases hr : csum b = resid
    · rw [hr]
      have e : w64 ((b.length : Int) - 4) = ((b.length - 4 : Nat) : Int) := by rw [w64_id (by omega) (by omega)]; omega
      simp only [beq_self_eq_true, Bool.not_true, Bool.false_eq_true, if_false, e]
      rw [subL_ok (by omega) (by omega) (by omega)]
      simp only [Option.bind_some]
      rw [apL_ok (by simp; omega)]
      simp [h4]
    · have : (csum b == resid) = false := by simp [hr]
      simp [this, hr]
  · have h1 : (b.length : Int) < 4 := by omega
    simp [lt1, h1, h4]
theorem opened_closed (m : List UInt8) : opened (closed m) = (m, true) := by
  unfold opened
  rw [if_pos ⟨by rw [closed_length]; omega, csum_closed m⟩, closed_length]
  simp [closed]
/-- As the chapter tells it. -/
theorem opened_eq (b : List UInt8) : opened b = if 4 ≤ b.length ∧ closed (b.take (b.length - 4)) = b then (b.take (b.length - 4), true) else ([], false) := by
  unfold opened
  by_cases h4 : 4 ≤ b.length
  · simp only [h4, true_and]
    have hs : b.take (b.length - 4) ++ b.drop (b.length - 4) = b := List.take_append_drop ..
    by_cases hr : csum b = resid
    · have := closed_of (b.take (b.length - 4)) (b.drop (b.length - 4)) (by simp; omega) (by rw [hs]; exact hr)
      rw [if_pos hr, if_pos (this.symm.trans hs)]
    · rw [if_neg hr, if_neg fun h => hr (by rw [← h]; exact csum_closed _)]
  · simp [h4]
end Go.Proofs.Ytlkofkegbkkhbaa.Crc
