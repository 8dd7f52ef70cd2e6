/- The chapter's sum, closing and opening: the same as those of crc. -/
import Derived.Test.YtlkofkegbkkhbaaG
namespace Go.Proofs.Ytlkofkegbkkhbaa.Crc
open Fw
set_option linter.unusedVariables false
set_option linter.unusedSimpArgs false

/-- One byte, bit by bit. -/
theorem byte_eq (k : Nat) (b : List UInt8) (i : Nat) (hi : i < b.length) (x : BitVec 32) (hk : 32 < k) : loopO (fun s => ref02_Sum.b3 k b (i : Int) s.1 s.2) k ((0 : Int), vb x) = some (vb (run x (byte b[i]))) := by
  refine loop_g (body := fun s : Int × Vector Bool 32 => ref02_Sum.b3 k b (i : Int) s.1 s.2) (fun j => ((j : Int), vb (run x ((byte b[i]).take j)))) 8 (vb (run x (byte b[i]))) rfl (fun j hj => ?_) ?_ (by omega)
  · show ref02_Sum.b3 k b (i : Int) (j : Int) _ = _
    unfold ref02_Sum.b3
    have h1 : (j : Int) < 8 := by omega
    have e0 : UN.toN (UN.ofI (j : Int) : UInt64) = j := by
      show (UInt64.ofNat ((j : Int) % (2 ^ 64 : Nat)).toNat).toNat = j
      have : ((j : Int) % (2 ^ 64 : Nat)).toNat = j := by omega
      rw [this]
      simp
      omega
    have e1 : (UN.shr b[i] j).toNat = b[i].toNat / 2 ^ j := by
      unfold UN.shr
      show (UInt8.ofNat (b[i].toNat / 2 ^ min j 8)).toNat = _
      rw [t8, Nat.min_eq_left (by omega)]
      exact Nat.mod_eq_of_lt (Nat.lt_of_le_of_lt (Nat.div_le_self _ _) b[i].toNat_lt)
    have e2 : modU (UN.shr b[i] j) (2 : UInt8) = some (UN.shr b[i] j % 2) := rfl
    have hl : (byte b[i]).length = 8 := bits_length 8 _
    have e3 : ((UN.shr b[i] j % 2) == 1) = (byte b[i])[j]'(by omega) := by
      have h3 : (byte b[i])[j]'(by omega) = b[i].toNat.testBit j := by
        simp only [byte, bits, List.getElem_map, List.getElem_range, BitVec.getLsbD_setWidth]
        have : j < 32 := by omega
        simp only [this, decide_true, Bool.true_and]
        rfl
      rw [h3, Nat.testBit_eq_decide_div_mod_eq, ← e1]
      by_cases hp : (UN.shr b[i] j).toNat % 2 = 1
      · have : UN.shr b[i] j % 2 = 1 := UInt8.toNat_inj.1 (by rw [UInt8.toNat_mod]; exact hp)
        rw [this]; simp [hp]
      · have : UN.shr b[i] j % 2 ≠ 1 := fun e => hp (by rw [show (UN.shr b[i] j).toNat % 2 = (UN.shr b[i] j % 2).toNat from by rw [UInt8.toNat_mod]; rfl, e]; rfl)
        simp [this, hp]
    simp only [lt1, dec_t h1, if_true, idxL_lt hi, Option.bind_some, e0, e2, e3, in_eq k _ _ hk]
    rw [w64_succ (by omega), take_succ' (by omega), run_append]
    rfl
  · show ref02_Sum.b3 k b (i : Int) ((8 : Nat) : Int) _ = _
    unfold ref02_Sum.b3
    have hl : (byte b[i]).length = 8 := bits_length 8 _
    have h1 : ¬ ((8 : Nat) : Int) < 8 := by decide
    simp only [lt1, dec_f h1, Bool.false_eq_true, if_false]
    rw [List.take_of_length_le (by omega)]
theorem bytes_eq (k : Nat) (b : List UInt8) (x : BitVec 32) (hb : b.length < 9223372036854775807) (hk : 32 < k) (hk2 : b.length < k) : loopO (fun s => ref02_Sum.b2 k b s.1 s.2) k ((0 : Int), vb x) = some (vb (upd x b)) := by
  refine loop_g (body := fun s : Int × Vector Bool 32 => ref02_Sum.b2 k b s.1 s.2) (fun j => ((j : Int), vb (upd x (b.take j)))) b.length (vb (upd x b)) rfl (fun j hj => ?_) ?_ hk2
  · show ref02_Sum.b2 k b (j : Int) _ = _
    unfold ref02_Sum.b2
    have h1 : (j : Int) < (b.length : Int) := by omega
    simp only [lt1, dec_t h1, if_true, byte_eq k b j hj _ hk, Option.bind_some]
    rw [w64_succ (by omega), take_succ' hj, upd_append]
    unfold upd bitsL
    simp
  · show ref02_Sum.b2 k b ((b.length : Nat) : Int) _ = _
    unfold ref02_Sum.b2
    simp [lt1]
theorem ones_eq (k : Nat) (hk : 32 < k) : loopO (fun s => ref02_Sum.b1 k s.1 s.2) k ((0 : Int), Vector.replicate 32 false) = some (vb ones) := by
  refine loop_g (body := fun s : Int × Vector Bool 32 => ref02_Sum.b1 k s.1 s.2) (fun j => ((j : Int), Vector.ofFn fun i => decide (i.1 < j))) 32 (vb ones) ?_ (fun j hj => ?_) ?_ hk
  · refine congrArg (fun z => ((0 : Int), z)) ?_
    apply Vector.ext
    intro j hj
    rw [Vector.getElem_ofFn, Vector.getElem_replicate]; simp
  · show ref02_Sum.b1 k (j : Int) _ = _
    unfold ref02_Sum.b1
    have h1 : (j : Int) < 32 := by omega
    have hin : inV 32 (j : Int) = some ⟨((j : Nat) : Int).toNat, by omega⟩ := inV_ok (by omega) (by omega)
    simp only [lt1, dec_t h1, if_true, hin, Option.bind_some]
    rw [w64_succ (by omega)]
    refine congrArg (fun z => some (Sum.inl (((j + 1 : Nat) : Int), z))) ?_
    apply Vector.ext
    intro i hi
    simp only [putV, Int.toNat_natCast, Vector.getElem_set, Vector.getElem_ofFn]
    by_cases e : j = i
    · subst e; simp
    · rw [if_neg e]
      by_cases e2 : i < j
      · simp [e2]; omega
      · simp [e2]; omega
  · show ref02_Sum.b1 k ((32 : Nat) : Int) _ = _
    unfold ref02_Sum.b1
    rw [dec_f (show ¬ ((32 : Nat) : Int) < 32 by decide)]
    refine congrArg (fun z => some (Sum.inr z)) ?_
    apply Vector.ext
    intro j hj
    unfold vb
    rw [Vector.getElem_ofFn, Vector.getElem_ofFn, ones_bit j hj]
    simp [hj]
/-- The bits as a number. -/
theorem number_eq (k : Nat) (x : BitVec 32) (hk : 32 < k) : loopO (fun s => ref02_Sum.b4 k (vb x) s.1 s.2) k ((0 : UInt32), (31 : Int)) = some (u32 (~~~ x)) := by
  have hN : (~~~ x).toNat < 2 ^ 32 := (~~~ x).isLt
  refine loop_g (body := fun s : UInt32 × Int => ref02_Sum.b4 k (vb x) s.1 s.2) (fun j => (UInt32.ofNat ((~~~ x).toNat / 2 ^ (32 - j)), 31 - (j : Int))) 32 (u32 (~~~ x)) ?_ (fun j hj => ?_) ?_ hk
  · refine congrArg (fun z => (z, (31 : Int))) ?_
    apply UInt32.toNat_inj.1
    rw [t32, Nat.div_eq_of_lt (by simpa using hN)]
    rfl
  · show ref02_Sum.b4 k (vb x) _ (31 - (j : Int)) = _
    unfold ref02_Sum.b4
    have h1 : (31 : Int) - (j : Int) ≥ 0 := by omega
    have hn : (31 - (j : Int)).toNat = 31 - j := by omega
    have hin : inV 32 (31 - (j : Int)) = some ⟨(31 - (j : Int)).toNat, by omega⟩ := inV_ok (by omega) (by omega)
    have hget : getV (vb x) ⟨(31 - (j : Int)).toNat, by omega⟩ = x.getLsbD (31 - j) := by
      rw [show (⟨(31 - (j : Int)).toNat, by omega⟩ : Fin 32) = ⟨31 - j, by omega⟩ from Fin.ext hn]
      exact vb_get x (31 - j) (by omega)
    have hbit : (!x.getLsbD (31 - j)) = decide ((~~~ x).toNat / 2 ^ (31 - j) % 2 = 1) := by
      have : (~~~ x).getLsbD (31 - j) = !x.getLsbD (31 - j) := by
        rw [BitVec.getLsbD_not]
        simp; omega
      rw [← this]
      exact Nat.testBit_eq_decide_div_mod_eq
    have hdiv : (~~~ x).toNat / 2 ^ (31 - j) / 2 = (~~~ x).toNat / 2 ^ (32 - j) := by
      rw [Nat.div_div_eq_div_mul, ← Nat.pow_succ, show (31 - j).succ = 32 - j by omega]
    have hsm : (~~~ x).toNat / 2 ^ (31 - j) < 2 ^ 32 := Nat.lt_of_le_of_lt (Nat.div_le_self _ _) hN
    have hw : w64 (31 - (j : Int) - 1) = 31 - ((j + 1 : Nat) : Int) := by rw [w64_id (by omega) (by omega)]; omega
    simp only [lt1, dec_t h1, if_true, hin, Option.bind_some, hget, hbit, hw]
    by_cases hp : (~~~ x).toNat / 2 ^ (31 - j) % 2 = 1
    · simp only [hp, decide_true, if_true, Option.bind_some]
      refine congrArg (fun z => some (Sum.inl (z, 31 - ((j + 1 : Nat) : Int)))) ?_
      apply UInt32.toNat_inj.1
      rw [UInt32.toNat_add, UInt32.toNat_mul, t32, t32, show 32 - (j + 1) = 31 - j by omega, ← hdiv]
      have e2 : UInt32.toNat 2 = 2 := rfl
      have e1 : UInt32.toNat 1 = 1 := rfl
      rw [e2, e1]
      omega
    · simp only [hp, decide_false, Bool.false_eq_true, if_false, Option.bind_some]
      refine congrArg (fun z => some (Sum.inl (z, 31 - ((j + 1 : Nat) : Int)))) ?_
      apply UInt32.toNat_inj.1
      rw [UInt32.toNat_mul, t32, t32, show 32 - (j + 1) = 31 - j by omega, ← hdiv]
      have e2 : UInt32.toNat 2 = 2 := rfl
      rw [e2]
      omega
  · show ref02_Sum.b4 k (vb x) _ (31 - ((32 : Nat) : Int)) = _
    unfold ref02_Sum.b4
    rw [dec_f (show ¬ (31 - ((32 : Nat) : Int)) ≥ 0 by decide)]
    refine congrArg (fun z => some (Sum.inr z)) ?_
    apply UInt32.toNat_inj.1
    rw [t32]
    show (~~~ x).toNat / 2 ^ 0 % 2 ^ 32 = (~~~ x).toNat
    rw [Nat.pow_zero, Nat.div_one]
    exact Nat.mod_eq_of_lt hN
theorem refSum_eq (k : Nat) (b : List UInt8) (hb : b.length < 9223372036854775807) (hk : 32 < k) (hk2 : b.length < k) : ref02_Sum k b = some (csum b) := by
  unfold ref02_Sum
  rw [ones_eq k hk]
  simp only [Option.bind_some]
  rw [bytes_eq k b ones hb hk hk2]
  simp only [Option.bind_some]
  rw [number_eq k _ hk]
  rfl
theorem refClose_eq (k : Nat) (b : List UInt8) (hb : b.length + 4 ≤ 140737488355328) (hk : 32 < k) (hk2 : b.length < k) : ref02_Close k b = some (closed b) := by
  have h2 := loop_g (body := fun s : UInt32 × Int × List UInt8 => ref02_Close.b1 k s.1 s.2.1 s.2.2) (fun i => (UN.shr (csum b) (8 * i), (i : Int), b ++ le (csum b) i)) 4 (closed b) (s0 := (csum b, (0 : Int), b)) (by
    simp only [le, List.range_zero, List.map_nil, List.append_nil]
    refine congrArg (fun z => (z, ((0 : Nat) : Int), b)) ?_
    apply UInt32.toNat_inj.1
    rw [shr_toNat _ _ (by decide)]
    simp) (fun i hi => by
    show ref02_Close.b1 k _ (i : Int) _ = _
    unfold ref02_Close.b1
    have h1 : (i : Int) < 4 := by omega
    have e1 : modU (UN.shr (csum b) (8 * i)) (256 : UInt32) = some (UN.shr (csum b) (8 * i) % 256) := rfl
    have e2 : divU (UN.shr (csum b) (8 * i)) (256 : UInt32) = some (UN.shr (csum b) (8 * i) / 256) := rfl
    simp only [lt1, dec_t h1, if_true, e1, e2, Option.bind_some]
    rw [apL_ok (by simp [le_length]; omega), w64_succ (by omega)]
    simp only [Option.bind_some]
    have g1 : UN.shr (csum b) (8 * i) / 256 = UN.shr (csum b) (8 * (i + 1)) := by
      apply UInt32.toNat_inj.1
      rw [UInt32.toNat_div, shr_toNat _ _ (by omega), shr_toNat _ _ (by omega)]
      show _ / 2 ^ 8 = _
      rw [Nat.div_div_eq_div_mul, ← Nat.pow_add]
      rfl
    have g2 : (UN.to (UN.shr (csum b) (8 * i) % 256) : UInt8) = UInt8.ofNat ((csum b).toNat / 2 ^ (8 * i)) := by
      apply UInt8.toNat_inj.1
      show (UInt8.ofNat (UN.shr (csum b) (8 * i) % 256).toNat).toNat = _
      rw [t8, t8, UInt32.toNat_mod, shr_toNat _ _ (by omega)]
      show _ % 256 % 256 = _ % 256
      omega
    rw [g1, g2, le_succ, List.append_assoc]) (by
    show ref02_Close.b1 k _ ((4 : Nat) : Int) _ = _
    unfold ref02_Close.b1
    simp [lt1, closed]) (k := k) (by omega)
  unfold ref02_Close
  rw [refSum_eq k b (by omega) hk hk2]
  simp only [Option.bind_some]
  rw [apL_ok (by simp; omega)]
  simp only [Option.bind_some, List.nil_append]
  rw [h2]
  rfl
theorem refOpen_eq (k : Nat) (b : List UInt8) (hb : b.length ≤ 140737488355328) (hk : 32 < k) (hk2 : b.length < k) : ref02_Open k b = some (opened b) := by
  rw [opened_eq]
  unfold ref02_Open
  have e : w64 ((b.length : Int) - 4) = (b.length : Int) - 4 := w64_id (by omega) (by omega)
  by_cases h4 : 4 ≤ b.length
  · have h1 : ¬ ((b.length : Int) - 4 < 0) := by omega
    have hs : subL b 0 ((b.length : Int) - 4) = some (b.take (b.length - 4)) := by
      rw [subL_ok (by omega) (by omega) (by omega)]
      simp
      congr 1
      omega
    simp only [lt1, e, dec_f h1, Bool.false_eq_true, if_false, hs, Option.bind_some]
    rw [refClose_eq k _ (by simp; omega) hk (by simp; omega)]
    simp only [Option.bind_some]
    by_cases hr : closed (b.take (b.length - 4)) = b
    · simp [h4, hr]
    · have : (closed (b.take (b.length - 4)) != b) = true := by simp [hr]
      simp [this, hr]
  · have h1 : (b.length : Int) - 4 < 0 := by omega
    simp [lt1, e, h1, h4]
/-! ### the chapter's rows -/
theorem upd_flat (x : BitVec 32) (l : List UInt8) : upd x l = l.foldl (fun y c => Ln 8 (y ^^^ c.toBitVec.setWidth 32)) x := by
  induction l generalizing x with
  | nil => rfl
  | cons c l ih =>
    show upd x ([c] ++ l) = _
    rw [upd_append, upd_one, ih]; rfl
theorem row1 : csum [49, 50, 51, 52, 53, 54, 55, 56, 57] = 3808858755 := by unfold csum; rw [upd_flat]; decide +kernel
theorem row2 : csum [97] = 3251651376 := by unfold csum; rw [upd_flat]; decide +kernel
theorem row3 : csum [0, 0, 0, 0] = 1214729159 := by unfold csum; rw [upd_flat]; decide +kernel
theorem row4 : closed [] = [0, 0, 0, 0] := by
  have : csum [] = 0 := by unfold csum; rw [upd_flat]; decide +kernel
  unfold closed; rw [this]; decide +kernel
theorem row0 : csum [] = 0 := by unfold csum; rw [upd_flat]; decide +kernel
theorem row5 : opened [0, 0, 0, 0] = ([], true) := by
  rw [← row4]; exact opened_closed []
theorem row6 : opened [0, 0, 0, 1] = ([], false) := by
  rw [opened_eq]
  have : closed (([0, 0, 0, 1] : List UInt8).take (([0, 0, 0, 1] : List UInt8).length - 4)) = [0, 0, 0, 0] := row4
  rw [this, if_neg (by decide)]
theorem known_eq (k : Nat) (hk : 32 < k) : law02_known k = some true := by
  unfold law02_known
  have h1 := Open_eq k [0, 0, 0, 0] (by decide) (by omega) (by simp; omega)
  have h2 := Open_eq k [0, 0, 0, 1] (by decide) (by omega) (by simp; omega)
  have h3 := Sum_eq k [] (by decide) (by simp) (by omega) (by simp; omega) (by simp)
  have h4 := Sum_eq k [[49, 50, 51, 52, 53, 54, 55, 56, 57]] (by decide) (by simp) (by omega) (by simp; omega) (by simp; omega)
  have h5 := Sum_eq k [[97]] (by decide) (by simp) (by omega) (by simp; omega) (by simp; omega)
  have h6 := Sum_eq k [[0, 0, 0, 0]] (by decide) (by simp) (by omega) (by simp; omega) (by simp; omega)
  have h7 := Close_eq k [] (by decide) (by simp) (by omega) (by simp; omega) (by simp; omega)
  have h8 : mkL 1 (4 : Int) (0 : UInt8) = some [0, 0, 0, 0] := by rw [mkL_ok (by decide) (by decide) (by decide)]; rfl
  simp only [List.flatten_nil, List.flatten_singleton] at h3 h4 h5 h6 h7
  rw [row5] at h1; rw [row6] at h2; rw [row0] at h3; rw [row1] at h4; rw [row2] at h5; rw [row3] at h6; rw [row4] at h7
  simp only [h1, h2, h3, h4, h5, h6, h7, h8, Option.bind_some, lt1, beq_self_eq_true, if_true, List.length_nil]
  rfl
end Go.Proofs.Ytlkofkegbkkhbaa.Crc
