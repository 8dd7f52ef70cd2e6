/- What the chapter's own functions compute: the same. -/
import Derived.Test.YtlkofkegbkkhbaaE
namespace Go.Proofs.Ytlkofkegbkkhbaa.Crc
open Fw
set_option linter.unusedVariables false
set_option linter.unusedSimpArgs false

def tapsL : List UInt8 := [48, 48, 48, 49, 49, 49, 49, 48, 49, 49, 48, 49, 49, 49, 48, 48, 48, 49, 49, 48, 49, 49, 49, 49, 48, 49, 48, 48, 48, 48, 48, 49]
theorem taps_eq (k : Nat) : ref02_taps k = some tapsL := rfl
theorem taps_bit : ∀ i, ∀ h : i < 32, (tapsL[i]'h == 49) = T.getLsbD i := by decide +kernel
def vb (x : BitVec 32) : Vector Bool 32 := Vector.ofFn fun i => x.getLsbD i.1
theorem vb_get (x : BitVec 32) (i : Nat) (h : i < 32) : getV (vb x) ⟨i, h⟩ = x.getLsbD i := by unfold getV vb; rw [Vector.getElem_ofFn]
theorem stp_bit (x : BitVec 32) (b : Bool) (i : Nat) : (stp x b).getLsbD i = (x.getLsbD (i + 1) != ((x.getLsbD 0 != b) && T.getLsbD i)) := by
  unfold stp L
  rw [BitVec.getLsbD_xor, BitVec.getLsbD_ushiftRight, BitVec.getLsbD_xor, BitVec.getLsbD_xor]
  have h1 : (bt b).getLsbD (1 + i) = false := by
    cases b
    · simp [bt]
    · show (1#32).getLsbD (1 + i) = false
      rw [Nat.add_comm]; simp
  have h2 : (bt b).getLsbD 0 = b := by cases b <;> decide
  rw [h1, h2, Nat.add_comm 1 i]
  cases x.getLsbD (i + 1) <;> cases x.getLsbD 0 <;> cases b <;> simp
theorem in_eq (k : Nat) (x : BitVec 32) (b : Bool) (hk : 32 < k) : ref02_Bits_in k (vb x) b = some (vb (stp x b)) := by
  have h1 := loop_g (body := fun s : Int × Vector Bool 32 => ref02_Bits_in.b1 k (vb x) (x.getLsbD 0 != b) tapsL s.1 s.2) (fun i => ((i : Int), Vector.ofFn fun j => if j.1 < i then (stp x b).getLsbD j.1 else false)) 32 (vb (stp x b)) (s0 := ((0 : Int), Vector.replicate 32 false)) (by
    refine congrArg (fun z => ((0 : Int), z)) ?_
    apply Vector.ext
    intro j hj
    rw [Vector.getElem_ofFn, Vector.getElem_replicate, if_neg (Nat.not_lt_zero _)]) (fun i hi => by
    show ref02_Bits_in.b1 k (vb x) _ tapsL (i : Int) _ = _
    unfold ref02_Bits_in.b1
    have g1 : (i : Int) < 32 := by omega
    have g2 : (lt1 (decide ((i : Int) < 31)) fun v_10 =>
          if v_10 = true then
            lt1 (w64 ((i : Int) + 1)) fun v_11 => (inV 32 v_11).bind fun i_12 => lt1 (getV (vb x) i_12) fun v_13 => some v_13
          else some false) = some (x.getLsbD (i + 1)) := by
      by_cases h : i < 31
      · have h31 : (i : Int) < 31 := by omega
        rw [dec_t h31]
        show ((inV 32 (w64 ((i : Int) + 1))).bind fun z => some (getV (vb x) z)) = _
        rw [w64_succ (by omega), inV_ok (by omega) (show ((i + 1 : Nat) : Int).toNat < 32 by omega)]
        exact congrArg some (vb_get x (i + 1) (by omega))
      · have h31 : ¬ (i : Int) < 31 := by omega
        have hi1 : i + 1 = 32 := by omega
        rw [dec_f h31, hi1]
        exact congrArg some (BitVec.getLsbD_of_ge x 32 (Nat.le_refl _)).symm
    have hput : putV (Vector.ofFn fun j : Fin 32 => if j.1 < i then (stp x b).getLsbD j.1 else false) ⟨((i : Nat) : Int).toNat, by omega⟩ ((stp x b).getLsbD i) = Vector.ofFn fun j : Fin 32 => if j.1 < i + 1 then (stp x b).getLsbD j.1 else false := by
      apply Vector.ext
      intro j hj
      simp only [putV, Int.toNat_natCast, Vector.getElem_set, Vector.getElem_ofFn]
      by_cases e : i = j
      · subst e; simp
      · rw [if_neg e]
        by_cases e2 : j < i
        · rw [if_pos e2, if_pos (by omega)]
        · rw [if_neg e2, if_neg (by omega)]
    have hlt : ((i : Nat) : Int).toNat < 32 := by omega
    rw [g2]
    have hi' : i < tapsL.length := hi
    have ht : (tapsL[i] == 49) = T.getLsbD i := taps_bit i hi
    have hb := stp_bit x b i
    rw [dec_t g1]
    have hin : inV 32 (i : Int) = some ⟨((i : Nat) : Int).toNat, hlt⟩ := inV_ok (by omega) hlt
    rw [hin, idxL_lt hi', w64_succ (by omega)]
    cases hu : (x.getLsbD 0 != b) with
    | true =>
      show some (Sum.inl (((i + 1 : Nat) : Int), putV _ _ (x.getLsbD (i + 1) != (tapsL[i] == 49)))) = _
      rw [hu, Bool.true_and, ← ht] at hb
      rw [← hb, hput]
    | false =>
      show some (Sum.inl (((i + 1 : Nat) : Int), putV _ _ (x.getLsbD (i + 1) != false))) = _
      rw [hu, Bool.false_and] at hb
      rw [← hb, hput]) (by
    show ref02_Bits_in.b1 k (vb x) _ tapsL ((32 : Nat) : Int) _ = _
    unfold ref02_Bits_in.b1
    rw [dec_f (show ¬ ((32 : Nat) : Int) < 32 by decide)]
    refine congrArg (fun z => some (Sum.inr z)) ?_
    apply Vector.ext
    intro j hj
    unfold vb
    rw [Vector.getElem_ofFn, Vector.getElem_ofFn, if_pos hj]) hk
  unfold ref02_Bits_in
  rw [inV_ok (by decide) (by decide), taps_eq]
  have h0 : getV (vb x) ⟨Int.toNat 0, by decide⟩ = x.getLsbD 0 := vb_get x 0 (by decide)
  show (lt1 (getV (vb x) ⟨Int.toNat 0, by decide⟩) fun v_4 => lt1 (v_4 != b) fun v_5 => Option.bind (some tapsL) fun v_6 => Option.bind (loopO (fun s => ref02_Bits_in.b1 k (vb x) v_5 v_6 s.1 s.2) k ((0 : Int), Vector.replicate 32 false)) fun o => some o) = _
  rw [h0]
  show (Option.bind (loopO (fun s => ref02_Bits_in.b1 k (vb x) (x.getLsbD 0 != b) tapsL s.1 s.2) k ((0 : Int), Vector.replicate 32 false)) fun o => some o) = _
  rw [h1]
  rfl
end Go.Proofs.Ytlkofkegbkkhbaa.Crc
