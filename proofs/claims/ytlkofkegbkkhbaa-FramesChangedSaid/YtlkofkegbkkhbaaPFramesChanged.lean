/- The plain law FramesChanged: a burst of at most 32 bits is seen. -/
import Derived.Test.YtlkofkegbkkhbaaFa
import Derived.Test.YtlkofkegbkkhbaaH
namespace Go.Proofs.Ytlkofkegbkkhbaa
open Go Fw Crc
set_option linter.unusedSimpArgs false
set_option linter.unusedVariables false

theorem bitsL_get (l : List UInt8) (p : Nat) : (bitsL l)[p]? = (l[p / 8]?).map fun c => c.toNat.testBit (p % 8) := by
  induction l generalizing p with
  | nil => simp [bitsL]
  | cons c l ih =>
    have hl : (byte c).length = 8 := bits_length 8 _
    show (byte c ++ bitsL l)[p]? = _
    by_cases h : p < 8
    · rw [List.getElem?_append_left (by omega), show p / 8 = 0 by omega, show p % 8 = p by omega]
      simp only [byte, Crc.bits, List.getElem?_map, List.getElem?_range h, Option.map_some, List.getElem?_cons_zero, BitVec.getLsbD_setWidth]
      have : p < 32 := by omega
      simp only [this, decide_true, Bool.true_and]
      rfl
    · rw [List.getElem?_append_right (by omega), hl, ih, show p / 8 = (p - 8) / 8 + 1 by omega, List.getElem?_cons_succ, show (p - 8) % 8 = p % 8 by omega]
theorem bitsL_length (l : List UInt8) : (bitsL l).length = 8 * l.length := by
  induction l with
  | nil => rfl
  | cons c l ih =>
    have hl : (byte c).length = 8 := bits_length 8 _
    show (byte c ++ bitsL l).length = _
    rw [List.length_append, ih, hl, List.length_cons]; omega
/-- A bit at a place of a byte. -/
def atB (b : Bool) (j : Nat) : UInt8 := UInt8.ofNat (bif b then 2 ^ j else 0)
theorem atB_bit (b : Bool) (j i : Nat) (hj : j < 8) (hi : i < 8) : (atB b j).toNat.testBit i = (b && decide (i = j)) := by
  unfold atB
  rw [t8]
  cases b
  · simp
  · simp only [cond_true, Bool.true_and]
    rw [Nat.testBit_mod_two_pow, Nat.testBit_two_pow]
    simp [hi]
    exact ⟨fun h => h.symm, fun h => h.symm⟩
def flip1 (x : List UInt8) (q : Nat) (b : Bool) : List UInt8 := x.set (q / 8) (x.getD (q / 8) 0 ^^^ atB b (q % 8))
theorem flip1_length (x : List UInt8) (q : Nat) (b : Bool) : (flip1 x q b).length = x.length := by simp [flip1]
theorem flip1_bit (x : List UInt8) (q : Nat) (b : Bool) (hq : q < 8 * x.length) (p : Nat) (hp : p < 8 * x.length) : (bitsL (flip1 x q b))[p]? = some ((bitsL x).getD p false != (b && decide (p = q))) := by
  have hp8 : p / 8 < x.length := by omega
  have hq8 : q / 8 < x.length := by omega
  have h0 : (bitsL x).getD p false = x[p / 8].toNat.testBit (p % 8) := by
    rw [List.getD_eq_getElem?_getD, bitsL_get, List.getElem?_eq_getElem hp8]; rfl
  rw [bitsL_get, h0]
  unfold flip1
  by_cases e : q / 8 = p / 8
  · rw [List.getElem?_set, if_pos e, if_pos hq8]
    have hg : x.getD (q / 8) 0 = x[p / 8] := by rw [List.getD_eq_getElem?_getD, e, List.getElem?_eq_getElem hp8]; rfl
    rw [hg, Option.map_some, UInt8.toNat_xor, Nat.testBit_xor, atB_bit b _ _ (by omega) (by omega)]
    congr 2
    have : (p % 8 = q % 8) ↔ (p = q) := by omega
    simp [this]
  · rw [List.getElem?_set, if_neg e, List.getElem?_eq_getElem hp8]
    have : ¬ p = q := fun h => e (by rw [h])
    simp [this]
def fl (x : List UInt8) (at0 : Nat) (f : BitVec 32) : Nat → List UInt8
  | 0 => x
  | i + 1 => flip1 (fl x at0 f i) (at0 + i) (f.getLsbD i)
theorem fl_length (x : List UInt8) (at0 : Nat) (f : BitVec 32) : ∀ i, (fl x at0 f i).length = x.length
  | 0 => rfl
  | i + 1 => by show (flip1 _ _ _).length = _; rw [flip1_length, fl_length x at0 f i]
theorem fl_bit (x : List UInt8) (at0 : Nat) (f : BitVec 32) (p : Nat) (hp : p < 8 * x.length) : ∀ i, at0 + i ≤ 8 * x.length → (bitsL (fl x at0 f i))[p]? = some ((bitsL x).getD p false != (decide (at0 ≤ p ∧ p < at0 + i) && f.getLsbD (p - at0)))
  | 0, _ => by
    have : ¬ (at0 ≤ p ∧ p < at0 + 0) := by omega
    show (bitsL x)[p]? = _
    have hl := bitsL_length x
    rw [List.getD_eq_getElem?_getD, List.getElem?_eq_getElem (by omega), dec_f this]
    simp
  | i + 1, h => by
    have ih := fl_bit x at0 f p hp i (by omega)
    show (bitsL (flip1 _ _ _))[p]? = _
    rw [flip1_bit _ _ _ (by rw [fl_length]; omega) p (by rw [fl_length]; omega), List.getD_eq_getElem?_getD, ih]
    congr 1
    simp only [Option.getD_some]
    by_cases e : p = at0 + i
    · have h1 : ¬ (at0 ≤ p ∧ p < at0 + i) := by omega
      have h2 : at0 ≤ p ∧ p < at0 + (i + 1) := by omega
      have h3 : p - at0 = i := by omega
      simp only [h1, h2, h3, e, decide_true, decide_false, Bool.false_and, Bool.true_and, Bool.and_true, and_self]
      have h4 : ¬ (at0 ≤ at0 + i ∧ at0 + i < at0 + i) := by omega
      simp
    · have h2 : (at0 ≤ p ∧ p < at0 + i) ↔ (at0 ≤ p ∧ p < at0 + (i + 1)) := by omega
      simp [e, h2]
theorem xor_self_ne {f : BitVec 32} (x : List UInt8) (at0 : Nat) (hat : at0 + 32 ≤ 8 * x.length) (hf : f ≠ 0#32) (hx : csum x = resid) : csum (fl x at0 f 32) ≠ resid := by
  intro hc
  have h1 : upd ones x = Ln 32 ones := by
    have := congrArg (~~~ ·) (u32_inj hx)
    simpa using this
  have h2 : upd ones (fl x at0 f 32) = Ln 32 ones := by
    have := congrArg (~~~ ·) (u32_inj hc)
    simpa using this
  have hl := bitsL_length x
  have hb : bitsL (fl x at0 f 32) = List.zipWith (· != ·) (bitsL x) (List.replicate at0 false ++ (Crc.bits 32 f ++ List.replicate (8 * x.length - at0 - 32) false)) := by
    apply List.ext_getElem?
    intro p
    by_cases hp : p < 8 * x.length
    · rw [fl_bit x at0 f p hp 32 hat, List.getElem?_zipWith, List.getD_eq_getElem?_getD, List.getElem?_eq_getElem (show p < (bitsL x).length by omega)]
      have he : (List.replicate at0 false ++ (Crc.bits 32 f ++ List.replicate (8 * x.length - at0 - 32) false))[p]? = some (decide (at0 ≤ p ∧ p < at0 + 32) && f.getLsbD (p - at0)) := by
        by_cases h3 : p < at0
        · rw [List.getElem?_append_left (by simpa using h3), List.getElem?_replicate, if_pos h3]
          have : ¬ (at0 ≤ p ∧ p < at0 + 32) := by omega
          simp [this]
        · rw [List.getElem?_append_right (by simpa using h3), List.length_replicate]
          by_cases h4 : p < at0 + 32
          · rw [List.getElem?_append_left (by rw [bits_length]; omega)]
            have : at0 ≤ p ∧ p < at0 + 32 := by omega
            simp only [Crc.bits, List.getElem?_map, List.getElem?_range (show p - at0 < 32 by omega), Option.map_some, this, and_self, decide_true, Bool.true_and]
          · rw [List.getElem?_append_right (by rw [bits_length]; omega), bits_length, List.getElem?_replicate, if_pos (by omega)]
            have : ¬ (at0 ≤ p ∧ p < at0 + 32) := by omega
            simp [this]
      rw [he]
      rfl
    · rw [List.getElem?_eq_none (by rw [bitsL_length, fl_length]; omega), List.getElem?_eq_none (by simp [hl, bits_length]; omega)]
  have h3 : run (ones ^^^ 0#32) (bitsL (fl x at0 f 32)) = run ones (bitsL x) ^^^ run 0#32 (List.replicate at0 false ++ (Crc.bits 32 f ++ List.replicate (8 * x.length - at0 - 32) false)) := by
    rw [hb]
    exact run_xor _ _ _ _ (by simp [hl, bits_length]; omega)
  have h4 : run 0#32 (List.replicate at0 false ++ (Crc.bits 32 f ++ List.replicate (8 * x.length - at0 - 32) false)) = 0#32 := by
    have e1 : run (ones ^^^ 0#32) (bitsL (fl x at0 f 32)) = Ln 32 ones := by rw [BitVec.xor_zero]; exact h2
    have e2 : run ones (bitsL x) = Ln 32 ones := h1
    rw [e1, e2] at h3
    have := congrArg (Ln 32 ones ^^^ ·) h3
    simp only [BitVec.xor_self, ← BitVec.xor_assoc, BitVec.zero_xor] at this
    exact this.symm
  rw [run_append, run_zeros, run_append] at h4
  have h5 := run_inj _ (h4.trans (run_zeros _).symm)
  rw [run_word, BitVec.zero_xor] at h5
  have h6 : Ln 32 (0#32) = 0#32 := by decide
  exact hf (Ln_inj 32 _ _ (h5.trans h6.symm))
set_option maxHeartbeats 1000000 in
theorem changed_loop (k n : Nat) (x : List UInt8) (y2 : UInt32) (hat : n + 32 ≤ 8 * x.length) (hx : x.length ≤ 2000) (hk : 32 < k) (F : Nat → List UInt8) (hF0 : F 0 = x) (hFs : ∀ i, F (i + 1) = flip1 (F i) (n + i) (y2.toBitVec.getLsbD i)) (hFl : ∀ i, (F i).length = x.length) : loopO (fun s => law02_FramesChanged.b1 k (n : Int) y2 s.1 s.2) k ((0 : Int), x) = some (F 32) := by
  refine loop_g (body := fun s : Int × List UInt8 => law02_FramesChanged.b1 k (n : Int) y2 s.1 s.2) (fun i => ((i : Int), F i)) 32 (F 32) (s0 := ((0 : Int), x)) (by rw [hF0]; rfl) (fun i hi => by
            show law02_FramesChanged.b1 k (n : Int) y2 (i : Int) (F i) = _
            unfold law02_FramesChanged.b1
            have g1 : (i : Int) < 32 := by omega
            have hlen := hFl i
            generalize hxx : F i = xx at *
            have hq : (n + i) / 8 < xx.length := by omega
            have e1 : w64 ((n : Int) + (i : Int)) = ((n + i : Nat) : Int) := by rw [w64_id (by omega) (by omega)]; omega
            have e2 : divI ((n + i : Nat) : Int) 8 = some (((n + i) / 8 : Nat) : Int) := by
              unfold divI
              rw [if_neg (by decide)]
              congr 1
              have : ((n + i : Nat) : Int).tdiv 8 = (((n + i) / 8 : Nat) : Int) := rfl
              rw [this, w64_nat (by omega)]
            have e3 : modI ((n + i : Nat) : Int) 8 = some (((n + i) % 8 : Nat) : Int) := by
              unfold modI
              rw [if_neg (by decide)]
              rfl
            have e4 : inO xx (((n + i) / 8 : Nat) : Int) = some ((n + i) / 8) := by rw [inO_ok (by omega) (by omega)]; exact congrArg some (Int.toNat_natCast _)
            have e5 : UN.toN (UN.ofI (i : Int) : UInt64) = i := by
              show (UInt64.ofNat ((i : Int) % (2 ^ 64 : Nat)).toNat).toNat = i
              have : ((i : Int) % (2 ^ 64 : Nat)).toNat = i := by omega
              rw [this]; simp; omega
            have e6 : UN.toN (UN.ofI (((n + i) % 8 : Nat) : Int) : UInt64) = (n + i) % 8 := by
              show (UInt64.ofNat ((((n + i) % 8 : Nat) : Int) % (2 ^ 64 : Nat)).toNat).toNat = _
              have : ((((n + i) % 8 : Nat) : Int) % (2 ^ 64 : Nat)).toNat = (n + i) % 8 := by omega
              rw [this]; simp; omega
            have e7 : modU (UN.shr y2 i) (2 : UInt32) = some (UN.shr y2 i % 2) := rfl
            have e8 : UN.shl (UN.to (UN.shr y2 i % 2) : UInt8) ((n + i) % 8) = atB (y2.toBitVec.getLsbD i) ((n + i) % 8) := by
              have hb : (UN.shr y2 i % 2).toNat = bif y2.toBitVec.getLsbD i then 1 else 0 := by
                rw [UInt32.toNat_mod, shr_toNat _ _ (by omega)]
                show y2.toNat / 2 ^ i % 2 = bif y2.toNat.testBit i then 1 else 0
                rw [Nat.testBit_eq_decide_div_mod_eq]
                by_cases hp : y2.toNat / 2 ^ i % 2 = 1
                · simp [hp]
                · simp [hp]; omega
              apply UInt8.toNat_inj.1
              unfold UN.shl atB
              show (UInt8.ofNat ((UInt8.ofNat (UN.shr y2 i % 2).toNat).toNat * 2 ^ min ((n + i) % 8) 8)).toNat = _
              rw [hb, t8, t8, t8, Nat.min_eq_left (by omega)]
              cases y2.toBitVec.getLsbD i <;> simp
            simp only [lt1, dec_t g1, if_true, e1, e2, e3, e4, e5, e6, e7, e8, Option.bind_some, List.getElem?_eq_getElem hq, setO'_ok hq]
            rw [w64_succ (by omega)]
            have : F (i + 1) = xx.set ((n + i) / 8) (xx[(n + i) / 8] ^^^ atB (y2.toBitVec.getLsbD i) ((n + i) % 8)) := by
              rw [hFs, hxx]
              unfold flip1
              rw [List.getD_eq_getElem?_getD, List.getElem?_eq_getElem hq]; rfl
            rw [this]) (by
            show law02_FramesChanged.b1 k (n : Int) y2 ((32 : Nat) : Int) (F 32) = _
            generalize F 32 = z
            unfold law02_FramesChanged.b1
            have g32 : ¬ ((32 : Nat) : Int) < 32 := by decide
            simp only [lt1, dec_f g32, Bool.false_eq_true, if_false]) hk
set_option maxHeartbeats 4000000 in
theorem pure_FramesChanged (y0 : (List UInt8)) (y1 : Int) (y2 : UInt32) (f0 : (List.length y0 * 1 ≤ 140737488351232 ∧ ∀ z0 ∈ y0, True)) (f1 : (IntKind.min .i64 ≤ y1 ∧ y1 ≤ IntKind.max .i64)) (f2 : True) : ∃ k, law02_FramesChanged k y0 y1 y2 = some true := by
  refine ⟨100 + y0.length, ?_⟩
  generalize hk : 100 + y0.length = k
  obtain ⟨hl, _⟩ := f0
  have hcl := closed_length y0
  have c1 := Close_eq k [y0] (by simp) (by simp; omega) (by omega) (by simp; omega) (by simp; omega)
  rw [List.flatten_singleton] at c1
  unfold law02_FramesChanged
  simp only [c1, Option.bind_some, lt1]
  by_cases h : (y0.length : Int) > 1500
  · simp only [dec_t h, if_true, Option.bind_some, known_eq k (by omega)]
  · by_cases h2 : y2 = 0
    · have : (y2 == 0) = true := by simp [h2]
      simp only [dec_f h, this, Bool.false_eq_true, if_false, if_true, Option.bind_some, known_eq k (by omega)]
    · have hy2 : (y2 == 0) = false := by simp [h2]
      by_cases h3 : y1 < 0
      · simp only [dec_f h, hy2, dec_t h3, Bool.false_eq_true, if_false, if_true, Option.bind_some, known_eq k (by omega)]
      · have w1 : w64 (8 * ((closed y0).length : Int)) = 8 * ((closed y0).length : Int) := w64_id (by omega) (by omega)
        have w2 : w64 (8 * ((closed y0).length : Int) - 32) = 8 * ((closed y0).length : Int) - 32 := w64_id (by omega) (by omega)
        by_cases h4 : y1 > 8 * ((closed y0).length : Int) - 32
        · simp only [dec_f h, hy2, dec_f h3, w1, w2, dec_t h4, Bool.false_eq_true, if_false, if_true, Option.bind_some, known_eq k (by omega)]
        · obtain ⟨n, rfl⟩ : ∃ n : Nat, y1 = (n : Int) := ⟨y1.toNat, by omega⟩
          have hat : n + 32 ≤ 8 * (closed y0).length := by omega
          have a1 := changed_loop k n (closed y0) y2 hat (by omega) (by omega) (fl (closed y0) n y2.toBitVec) rfl (fun _ => rfl) (fl_length (closed y0) n y2.toBitVec)
          have hlen := fl_length (closed y0) n y2.toBitVec 32
          have hc := fun hne => xor_self_ne (f := y2.toBitVec) (closed y0) n hat hne (csum_closed y0)
          generalize fl (closed y0) n y2.toBitVec 32 = fx at *
          have c2 := Open_eq k fx (by omega) (by omega) (by omega)
          have hne : y2.toBitVec ≠ 0#32 := fun e => h2 (UInt32.toBitVec_inj.1 e)
          have c3 : opened fx = ([], false) := by
            unfold opened
            rw [if_neg fun h => hc hne h.2]
          rw [c3] at c2
          simp only [dec_f h, hy2, dec_f h3, w1, w2, dec_f h4, Bool.false_eq_true, if_false, Option.bind_some, a1, c2, Bool.not_false, if_true, List.length_nil]
          simp only [known_eq k (by omega), Option.bind_some]
          rfl
end Go.Proofs.Ytlkofkegbkkhbaa
