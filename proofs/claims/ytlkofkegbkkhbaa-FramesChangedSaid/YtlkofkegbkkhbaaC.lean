/- The sum of a frame as a march of 32 bits: what is linear, what is not lost. -/
import Derived.Test.YtlkofkegbkkhbaaFq
namespace Go.Proofs.Ytlkofkegbkkhbaa.Crc
set_option linter.unusedVariables false

def T : BitVec 32 := 2197175160#32
def L (x : BitVec 32) : BitVec 32 := (x >>> 1) ^^^ (bif x.getLsbD 0 then T else 0#32)
theorem L_xor (x y : BitVec 32) : L (x ^^^ y) = L x ^^^ L y := by
  unfold L
  rw [BitVec.ushiftRight_xor_distrib, BitVec.getLsbD_xor]
  cases x.getLsbD 0 <;> cases y.getLsbD 0 <;> simp only [Bool.xor_false, Bool.xor_true, Bool.not_false, Bool.not_true, cond_true, cond_false, BitVec.xor_zero]
  · ac_rfl
  · ac_rfl
  · have h : ∀ a b t : BitVec 32, (a ^^^ t) ^^^ (b ^^^ t) = (a ^^^ b) ^^^ (t ^^^ t) := fun a b t => by ac_rfl
    rw [h, BitVec.xor_self, BitVec.xor_zero]
theorem L_zero : L 0#32 = 0#32 := by decide
theorem L_even (y : BitVec 32) (h : y.getLsbD 0 = false) : L y = y >>> 1 := by unfold L; rw [h]; simp
theorem T_top : T.getLsbD 31 = true := by decide
theorem L_inj0 (x : BitVec 32) (h : L x = 0#32) : x = 0#32 := by
  have hb : x.getLsbD 0 = false := by
    cases hx : x.getLsbD 0 with
    | false => rfl
    | true =>
      have : (L x).getLsbD 31 = true := by
        unfold L
        rw [hx, BitVec.getLsbD_xor, BitVec.getLsbD_ushiftRight]
        simp [T_top]
      rw [h] at this
      simp at this
  rw [L_even x hb] at h
  apply BitVec.eq_of_getLsbD_eq
  intro i hi
  cases i with
  | zero => rw [hb]; simp
  | succ i =>
    have h2 : (x >>> 1).getLsbD i = false := by rw [h]; simp
    rw [BitVec.getLsbD_ushiftRight, Nat.add_comm] at h2
    rw [h2]; simp
theorem L_inj (x y : BitVec 32) (h : L x = L y) : x = y := by
  have h2 : L (x ^^^ y) = 0#32 := by rw [L_xor, h, BitVec.xor_self]
  have h3 := L_inj0 _ h2
  calc x = x ^^^ (y ^^^ y) := by simp
    _ = (x ^^^ y) ^^^ y := by rw [BitVec.xor_assoc]
    _ = y := by rw [h3]; simp
def bt (b : Bool) : BitVec 32 := bif b then 1#32 else 0#32
/-- One bit comes in. -/
def stp (x : BitVec 32) (b : Bool) : BitVec 32 := L (x ^^^ bt b)
def run (x : BitVec 32) (l : List Bool) : BitVec 32 := l.foldl stp x
theorem run_nil (x : BitVec 32) : run x [] = x := rfl
theorem run_cons (x : BitVec 32) (b : Bool) (l : List Bool) : run x (b :: l) = run (stp x b) l := rfl
theorem run_append (x : BitVec 32) (l m : List Bool) : run x (l ++ m) = run (run x l) m := List.foldl_append
theorem bt_xor (a b : Bool) : bt (a != b) = bt a ^^^ bt b := by cases a <;> cases b <;> decide
theorem stp_xor (x y : BitVec 32) (a b : Bool) : stp (x ^^^ y) (a != b) = stp x a ^^^ stp y b := by
  unfold stp
  rw [← L_xor, bt_xor]
  congr 1
  ac_rfl
/-- Two rows of bits at once. -/
theorem run_xor : ∀ (l m : List Bool) (x y : BitVec 32), l.length = m.length → run (x ^^^ y) (List.zipWith (· != ·) l m) = run x l ^^^ run y m
  | [], [], x, y, _ => rfl
  | a :: l, b :: m, x, y, h => by
    rw [List.zipWith_cons_cons, run_cons, run_cons, run_cons, stp_xor]
    exact run_xor l m _ _ (by simpa using h)
theorem stp_inj {x y : BitVec 32} {b : Bool} (h : stp x b = stp y b) : x = y := by
  have h2 := L_inj _ _ h
  calc x = (x ^^^ bt b) ^^^ bt b := by rw [BitVec.xor_assoc]; simp
    _ = (y ^^^ bt b) ^^^ bt b := by rw [h2]
    _ = y := by rw [BitVec.xor_assoc]; simp
theorem run_inj : ∀ (l : List Bool) {x y : BitVec 32}, run x l = run y l → x = y
  | [], x, y, h => h
  | b :: l, x, y, h => stp_inj (run_inj l (x := stp x b) (y := stp y b) h)
theorem run_zeros : ∀ n, run 0#32 (List.replicate n false) = 0#32
  | 0 => rfl
  | n + 1 => by
    rw [List.replicate_succ, run_cons]
    have : stp 0#32 false = 0#32 := by decide
    rw [this]; exact run_zeros n
/-! ### words' bits -/
/-- The n lowest bits of a word, the lowest first. -/
def bits (n : Nat) (w : BitVec 32) : List Bool := (List.range n).map fun i => w.getLsbD i
theorem bits_succ (n : Nat) (w : BitVec 32) : bits (n + 1) w = bits n w ++ [w.getLsbD n] := by simp [bits, List.range_succ]
theorem bits_length (n : Nat) (w : BitVec 32) : (bits n w).length = n := by simp [bits]
def Ln : Nat → BitVec 32 → BitVec 32
  | 0, x => x
  | n + 1, x => L (Ln n x)
theorem Ln_xor : ∀ n x y, Ln n (x ^^^ y) = Ln n x ^^^ Ln n y
  | 0, _, _ => rfl
  | n + 1, x, y => by show L (Ln n _) = _; rw [Ln_xor n, L_xor]; rfl
theorem Ln_inj : ∀ n x y, Ln n x = Ln n y → x = y
  | 0, _, _, h => h
  | n + 1, x, y, h => Ln_inj n x y (L_inj _ _ h)
theorem key (s y : BitVec 32) : L (s ^^^ y) = L (s ^^^ bt (y.getLsbD 0)) ^^^ (y >>> 1) := by
  have hy : y = bt (y.getLsbD 0) ^^^ (y ^^^ bt (y.getLsbD 0)) := by
    rw [BitVec.xor_comm, BitVec.xor_assoc]; simp
  have he : (y ^^^ bt (y.getLsbD 0)).getLsbD 0 = false := by
    rw [BitVec.getLsbD_xor]
    cases y.getLsbD 0 <;> decide
  have hs : (y ^^^ bt (y.getLsbD 0)) >>> 1 = y >>> 1 := by
    rw [BitVec.ushiftRight_xor_distrib]
    have : bt (y.getLsbD 0) >>> 1 = 0#32 := by cases y.getLsbD 0 <;> decide
    rw [this]; simp
  conv => lhs; rw [hy]
  rw [← BitVec.xor_assoc, L_xor, L_even _ he, hs]
theorem run_bits (x w : BitVec 32) : ∀ n, run x (bits n w) ^^^ (w >>> n) = Ln n (x ^^^ w)
  | 0 => by simp [bits, run, Ln]
  | n + 1 => by
    rw [bits_succ, run_append]
    show stp (run x (bits n w)) (w.getLsbD n) ^^^ (w >>> (n + 1)) = L (Ln n (x ^^^ w))
    rw [← run_bits x w n, key]
    have h1 : (w >>> n).getLsbD 0 = w.getLsbD n := by rw [BitVec.getLsbD_ushiftRight]; simp
    have h2 : (w >>> n) >>> 1 = w >>> (n + 1) := by rw [BitVec.shiftRight_add]
    rw [h1, h2]
    rfl
theorem run_word (x w : BitVec 32) : run x (bits 32 w) = Ln 32 (x ^^^ w) := by
  rw [← run_bits x w 32]
  have : w >>> 32 = 0#32 := by apply BitVec.eq_of_getLsbD_eq; intro i hi; rw [BitVec.getLsbD_ushiftRight]; simp
  rw [this]; simp
theorem run_low (x w : BitVec 32) (n : Nat) (h : w >>> n = 0#32) : run x (bits n w) = Ln n (x ^^^ w) := by
  rw [← run_bits x w n, h]; simp
/-- Four bits at once, by a table of sixteen. -/
theorem L4 (x : BitVec 32) : Ln 4 x = Ln 4 (x &&& 15#32) ^^^ (x >>> 4) := by
  have h1 := run_bits 0#32 x 4
  have h2 := run_bits 0#32 (x &&& 15#32) 4
  have hb : bits 4 (x &&& 15#32) = bits 4 x := by
    unfold bits
    apply List.map_congr_left
    intro i hi
    have hi4 : i < 4 := List.mem_range.1 hi
    rw [BitVec.getLsbD_and]
    have : ∀ i, i < 4 → (15#32).getLsbD i = true := by decide
    rw [this i hi4]; simp
  have hz : (x &&& 15#32) >>> 4 = 0#32 := by
    apply BitVec.eq_of_getLsbD_eq
    intro i hi
    rw [BitVec.getLsbD_ushiftRight, BitVec.getLsbD_and]
    have : ∀ i, i < 32 → (15#32).getLsbD (4 + i) = false := by decide
    rw [this i hi]; simp
  rw [hb, hz] at h2
  simp only [BitVec.zero_xor, BitVec.xor_zero] at h1 h2
  rw [← h1, h2]
end Go.Proofs.Ytlkofkegbkkhbaa.Crc
