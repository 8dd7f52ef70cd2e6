/- What the functions of crc compute. -/
import Derived.Test.YtlkofkegbkkhbaaC
import Derived.Test.YtlkofkegbkkhbaaS
namespace Go.Proofs.Ytlkofkegbkkhbaa.Crc
open Fw
set_option linter.unusedVariables false
set_option linter.unusedSimpArgs false

theorem t32 (n : Nat) : (UInt32.ofNat n).toNat = n % 2 ^ 32 := by simp
theorem t8 (n : Nat) : (UInt8.ofNat n).toNat = n % 2 ^ 8 := by simp
def u32 (x : BitVec 32) : UInt32 := ⟨x⟩
theorem u32_bv (x : UInt32) : u32 x.toBitVec = x := rfl
theorem shr32 (x : UInt32) (n : Nat) (h : n ≤ 32) : UN.shr x n = u32 (x.toBitVec >>> n) := by
  unfold UN.shr u32
  apply UInt32.toNat_inj.1
  show (UInt32.ofNat (x.toNat / 2 ^ min n 32)).toNat = (x.toBitVec >>> n).toNat
  rw [Nat.min_eq_left h, BitVec.toNat_ushiftRight, Nat.shiftRight_eq_div_pow]
  have hx : x.toNat / 2 ^ n < 2 ^ 32 := Nat.lt_of_le_of_lt (Nat.div_le_self _ _) x.toNat_lt
  rw [t32]
  exact Nat.mod_eq_of_lt hx
theorem bit0 (x : UInt32) : ((x &&& 1) == 1) = x.toBitVec.getLsbD 0 := by
  have h : (x &&& 1).toNat = x.toNat % 2 := by
    rw [UInt32.toNat_and]; exact Nat.and_one_is_mod _
  have h2 : x.toBitVec.getLsbD 0 = decide (x.toNat % 2 = 1) := by
    rw [BitVec.getLsbD]; exact Nat.testBit_zero _
  rw [h2]
  by_cases hx : x.toNat % 2 = 1
  · have : x &&& 1 = 1 := UInt32.toNat_inj.1 (by rw [h, hx]; rfl)
    rw [this]; simp [hx]
  · have : x &&& 1 ≠ 1 := fun e => hx (by rw [← h, e]; rfl)
    simp [this, hx]
theorem fours_step (k : Nat) (x : UInt32) (i : Nat) (h : i < 4) : crc_fours.b2 k x (i : Int) = some (.inl (u32 (L x.toBitVec), ((i + 1 : Nat) : Int))) := by
  unfold crc_fours.b2
  simp only [lt1, dec_t (show (i : Int) < 4 by omega), if_true, bit0]
  rw [w64_succ (by omega)]
  have e1 : UN.toN (1 : UInt64) = 1 := rfl
  rw [e1, shr32 x 1 (by decide)]
  unfold L
  cases hb : x.toBitVec.getLsbD 0
  · simp
  · simp; rfl
theorem fours_in (k : Nat) (x : UInt32) (hk : 4 < k) : loopO (fun s => crc_fours.b2 k s.1 s.2) k (x, (0 : Int)) = some (u32 (Ln 4 x.toBitVec)) := by
  refine loop_g (body := fun s : UInt32 × Int => crc_fours.b2 k s.1 s.2) (fun i => (u32 (Ln i x.toBitVec), (i : Int))) 4 (u32 (Ln 4 x.toBitVec)) rfl (fun i hi => by
    show crc_fours.b2 k (u32 (Ln i x.toBitVec)) (i : Int) = _
    rw [fours_step k _ i hi]; rfl) (by
    show crc_fours.b2 k _ ((4 : Nat) : Int) = _
    unfold crc_fours.b2
    simp [lt1]) hk
/-- The table. -/
def FT : Vector UInt32 16 := Vector.ofFn fun i => u32 (Ln 4 (BitVec.ofNat 32 i.1))
theorem fours_eq (k : Nat) (hk : 16 < k) : crc_fours k = some FT := by
  have := loop_g (body := fun s : UInt32 × Vector UInt32 16 => crc_fours.b1 k s.1 s.2) (fun i => (UInt32.ofNat i, Vector.ofFn fun j => if j.1 < i then u32 (Ln 4 (BitVec.ofNat 32 j.1)) else 0)) 16 FT (s0 := (0, Vector.replicate 16 0)) (by
    simp only [Nat.not_lt_zero, if_false]
    congr 1) (fun i hi => by
    show crc_fours.b1 k (UInt32.ofNat i) _ = _
    unfold crc_fours.b1
    have h1 : UInt32.ofNat i < 16 := by
      rw [UInt32.lt_iff_toNat_lt, t32]
      show i % 2 ^ 32 < 16
      omega
    have h2 : UN.toN (UInt32.ofNat i) = i := by
      show (UInt32.ofNat i).toNat = i
      rw [t32]; exact Nat.mod_eq_of_lt (by omega)
    simp only [lt1, dec_t h1, if_true, fours_in k _ (by omega), Option.bind_some, h2, inN_ok hi]
    congr 3
    · apply UInt32.toNat_inj.1
      simp
    · apply Vector.ext
      intro j hj
      simp only [putV, Vector.getElem_set, Vector.getElem_ofFn]
      by_cases e : i = j
      · subst e
        rw [if_pos rfl, if_pos (by omega)]
        rfl
      · rw [if_neg e]
        by_cases e2 : j < i
        · rw [if_pos e2, if_pos (by omega)]
        · rw [if_neg e2, if_neg (by omega)]) (by
    show crc_fours.b1 k (UInt32.ofNat 16) _ = _
    unfold crc_fours.b1
    have h1 : ¬ UInt32.ofNat 16 < 16 := by decide
    simp only [lt1, dec_f h1, Bool.false_eq_true, if_false]
    congr 2) hk
  unfold crc_fours
  rw [this]
  rfl
/-- Four bits by the table. -/
theorem nibble (x : UInt32) : ∃ h : UN.toN (x &&& 15) < 16, getV FT ⟨UN.toN (x &&& 15), h⟩ ^^^ UN.shr x (UN.toN (4 : UInt64)) = u32 (Ln 4 x.toBitVec) := by
  have h : UN.toN (x &&& 15) < 16 := by
    show (x &&& 15).toNat < 16
    rw [UInt32.toNat_and]
    exact Nat.lt_of_le_of_lt Nat.and_le_right (by decide)
  refine ⟨h, ?_⟩
  have e1 : UN.toN (4 : UInt64) = 4 := rfl
  rw [e1, shr32 x 4 (by decide), L4 x.toBitVec]
  have e2 : getV FT ⟨UN.toN (x &&& 15), h⟩ = u32 (Ln 4 (x.toBitVec &&& 15#32)) := by
    unfold getV FT
    rw [Vector.getElem_ofFn]
    congr 2
    apply BitVec.eq_of_toNat_eq
    rw [BitVec.toNat_ofNat]
    show (x &&& 15).toNat % 2 ^ 32 = _
    rw [Nat.mod_eq_of_lt (UInt32.toNat_lt _)]
    rfl
  rw [e2]; rfl
def byte (c : UInt8) : List Bool := bits 8 (c.toBitVec.setWidth 32)
def bitsL (l : List UInt8) : List Bool := l.flatMap byte
/-- The sum's inner state behind some bytes. -/
def upd (x : BitVec 32) (l : List UInt8) : BitVec 32 := run x (bitsL l)
theorem upd_nil (x : BitVec 32) : upd x [] = x := rfl
theorem upd_append (x : BitVec 32) (l m : List UInt8) : upd x (l ++ m) = upd (upd x l) m := by unfold upd bitsL; rw [List.flatMap_append, run_append]
theorem upd_one (x : BitVec 32) (c : UInt8) : upd x [c] = Ln 8 (x ^^^ c.toBitVec.setWidth 32) := by
  unfold upd bitsL
  rw [List.flatMap_cons, List.flatMap_nil, List.append_nil]
  refine run_low x _ 8 ?_
  apply BitVec.eq_of_getLsbD_eq
  intro i hi
  rw [BitVec.getLsbD_ushiftRight, BitVec.getLsbD_setWidth]
  simp
theorem Ln8 (x : BitVec 32) : Ln 8 x = Ln 4 (Ln 4 x) := rfl
def ones : BitVec 32 := BitVec.allOnes 32
/-- The sum of bytes. -/
def csum (l : List UInt8) : UInt32 := u32 (~~~ upd ones l)
theorem not32 (x : UInt32) : UN.not x = u32 (~~~ x.toBitVec) := by
  unfold UN.not u32
  apply UInt32.toNat_inj.1
  show (UInt32.ofNat (2 ^ 32 - 1 - x.toNat)).toNat = (~~~ x.toBitVec).toNat
  rw [t32, BitVec.toNat_not]
  exact Nat.mod_eq_of_lt (by omega)
theorem to8_32 (c : UInt8) : (UN.to c : UInt32) = u32 (c.toBitVec.setWidth 32) := by
  unfold UN.to u32
  apply UInt32.toNat_inj.1
  show (UInt32.ofNat c.toNat).toNat = (c.toBitVec.setWidth 32).toNat
  rw [t32, BitVec.toNat_setWidth]
  rfl
theorem take_succ' {T : Type} {l : List T} {i : Nat} (h : i < l.length) : l.take (i + 1) = l.take i ++ [l[i]] := by rw [List.take_add_one, List.getElem?_eq_getElem h]; rfl
theorem sum_eq (k : Nat) (was : UInt32) (b : List UInt8) (hb : b.length < 9223372036854775807) (hk : 16 < k) (hk2 : b.length < k) : crc_sum k was b = some (u32 (~~~ upd (~~~ was.toBitVec) b)) := by
  have := loop_g (body := fun s : UInt32 × Int => crc_sum.b1 k b FT s.1 s.2) (fun i => (u32 (upd (~~~ was.toBitVec) (b.take i)), (i : Int))) b.length (u32 (upd (~~~ was.toBitVec) b)) (s0 := (u32 (~~~ was.toBitVec), (0 : Int))) rfl (fun i hi => by
    show crc_sum.b1 k b FT (u32 _) (i : Int) = _
    unfold crc_sum.b1
    have h1 : (i : Int) < (b.length : Int) := by omega
    simp only [lt1, dec_t h1, if_true, idxL_lt hi, Option.bind_some, to8_32]
    generalize hy : (u32 (upd (~~~ was.toBitVec) (b.take i)) ^^^ u32 (b[i].toBitVec.setWidth 32)) = y
    obtain ⟨g1, g2⟩ := nibble y
    obtain ⟨g3, g4⟩ := nibble (u32 (Ln 4 y.toBitVec))
    simp only [inN_ok g1, Option.bind_some, g2, inN_ok g3, g4]
    rw [w64_succ (by omega), take_succ' hi, upd_append, upd_one, Ln8]
    subst hy
    rfl) (by
    show crc_sum.b1 k b FT _ ((b.length : Nat) : Int) = _
    unfold crc_sum.b1
    simp [lt1, List.take_length]) hk2
  unfold crc_sum
  rw [fours_eq k hk]
  simp only [Option.bind_some, lt1, not32]
  rw [this]
  rfl
theorem Sum_eq (k : Nat) (l : List (List UInt8)) (hl : l.length < 9223372036854775807) (hb : ∀ b ∈ l, b.length < 9223372036854775807) (hk : 16 < k) (hk2 : l.length < k) (hk3 : ∀ b ∈ l, b.length < k) : crc_Sum k l = some (csum l.flatten) := by
  have := loop_g (body := fun s : UInt32 × Int => crc_Sum.b1 k l s.1 s.2) (fun i => (csum (l.take i).flatten, (i : Int))) l.length (csum l.flatten) (s0 := (0, (0 : Int))) (by
    show (csum [], (0 : Int)) = (0, 0)
    congr 1) (fun i hi => by
    show crc_Sum.b1 k l (csum _) (i : Int) = _
    unfold crc_Sum.b1
    have h1 : (i : Int) < (l.length : Int) := by omega
    simp only [lt1, dec_t h1, if_true, idxL_lt hi, Option.bind_some]
    rw [sum_eq k _ _ (hb _ (List.getElem_mem hi)) hk (hk3 _ (List.getElem_mem hi))]
    simp only [Option.bind_some]
    rw [w64_succ (by omega), take_succ' hi, List.flatten_append, List.flatten_singleton]
    unfold csum
    rw [upd_append]
    simp [u32]) (by
    show crc_Sum.b1 k l _ ((l.length : Nat) : Int) = _
    unfold crc_Sum.b1
    simp [lt1, List.take_length]) hk2
  unfold crc_Sum
  rw [this]
  rfl
end Go.Proofs.Ytlkofkegbkkhbaa.Crc
