/- What is known is so. -/
import Derived.Test.YtklnihlchhhhlaaGreatV
namespace Go.Proofs.YtklnihlchhhhlaaGreat
open Go Fw
set_option linter.unusedVariables false
set_option linter.unusedSimpArgs false

theorem Sum_tot (k : Nat) (hk : 17 ≤ k) (b : List UInt8) (hb : b.length < k) (hl : b.length ≤ 1000000) : ∃ s, crc_Sum k [b] = some s := by
  obtain ⟨s, hs⟩ := sum_tot k hk 0 b hb hl
  have hlp : loopO (fun s => crc_Sum.b1 k [b] s.1 s.2) k ((0 : UInt32), (0 : Int)) = some s := by
    obtain ⟨j, rfl⟩ : ∃ j, k = j + 2 := ⟨k - 2, by omega⟩
    have e1 : crc_Sum.b1 (j + 2) [b] 0 0 = some (.inl (s, ((0 + 1 : Nat) : Int))) := by
      have h0 : idxL [b] 0 = some b := rfl
      have hw : w64 ((0 : Int) + 1) = ((0 + 1 : Nat) : Int) := w64_succ (n := 0) (by omega)
      simp only [crc_Sum.b1, lt1, h0, hs, Option.bind_some, hw]
      rfl
    have e2 : crc_Sum.b1 (j + 2) [b] s ((0 + 1 : Nat) : Int) = some (.inr s) := by
      simp only [crc_Sum.b1, lt1]; rfl
    rw [loopO_step (s' := (s, ((0 + 1 : Nat) : Int))) e1]
    exact loopO_out e2
  exact ⟨s, by simp only [crc_Sum, hlp, Option.bind_some]⟩
theorem bytes3 (k : Nat) (hk : 200 ≤ k) : ∃ t, frame_bytes'4 k F3 = some ([3, 1, 2] ++ t) ∧ t.length = 132 := by
  have hv := wireVec_eq k (by omega) F3.Past
  have hvl := vecB_len F3.Past 16 (by omega)
  obtain ⟨s, hs⟩ := Sum_tot k (by omega) ([3, 1, 2] ++ vecB F3.Past 16) (by rw [List.length_append, hvl]; simp; omega) (by rw [List.length_append, hvl]; simp)
  have hr : room (UN.to s : UInt64) 4 := ⟨by omega, by omega, by
    have h1 : (UN.to s : UInt64).toNat = s.toNat := UInt64.toNat_ofNat_of_lt' (Nat.lt_of_lt_of_le s.toNat_lt (by decide))
    rw [h1]; exact Nat.lt_of_lt_of_le s.toNat_lt (by decide)⟩
  have hp : wire_Put k (UN.to s : UInt64) 4 = some (put (UN.to s : UInt64).toNat 4, 0) := by
    rw [wirePut_eq k (by omega) _ 4 (by omega) (by omega), if_pos hr]; rfl
  have ha1 : apL 1 ([3, 1, 2] : List UInt8) (vecB F3.Past 16) = some ([3, 1, 2] ++ vecB F3.Past 16) := ap1 (by rw [hvl]; simp)
  have hh : frame_writer_have k F3 ([3, 1, 2] : List UInt8) = some ([3, 1, 2] ++ vecB F3.Past 16) := by
    simp only [frame_writer_have, hv, Option.bind_some, frame_writer_put'2, ha1]
  have ha2 : apL 1 ([3, 1, 2] ++ vecB F3.Past 16) (put (UN.to s : UInt64).toNat 4) = some (([3, 1, 2] ++ vecB F3.Past 16) ++ put (UN.to s : UInt64).toNat 4) := ap1 (by rw [List.length_append, hvl, put_length]; simp)
  refine ⟨vecB F3.Past 16 ++ put (UN.to s : UInt64).toNat 4, ?_, by rw [List.length_append, hvl, put_length]⟩
  have hw : frame_bytes'4 k F3 = Option.bind (frame_writer_have k F3 ([3, 1, 2] : List UInt8)) fun b_14 => Option.bind (crc_Sum k ([b_14] : (List (List UInt8)))) fun v_17 => Option.bind (wire_Put k (UN.to v_17 : UInt64) (4 : Int)) fun p => Option.bind (frame_writer_put'3 k p.1 p.2 b_14) fun x_23 => some x_23 := by
    cases hx : frame_writer_have k F3 ([3, 1, 2] : List UInt8) with
    | none => rw [hh] at hx; cases hx
    | some y =>
      have : Option.bind (some ([3, 1, 2] : List UInt8)) (fun z => frame_writer_have k F3 z) = some y := hx
      show (Option.bind (Option.bind (frame_writer_have k F3 ([3, 1, 2] : List UInt8)) fun x_11 => some x_11) fun b_14 => Option.bind (crc_Sum k ([b_14] : (List (List UInt8)))) fun v_17 => Option.bind (wire_Put k (UN.to v_17 : UInt64) (4 : Int)) fun p => Option.bind (frame_writer_put'3 k p.1 p.2 b_14) fun x_23 => some x_23) = _
      rw [hx]; rfl
  rw [hw, hh]
  simp only [Option.bind_some, hs, hp, frame_writer_put'3, ha2, List.append_assoc]
theorem known_ok (k : Nat) (hk : 200 ≤ k) : law11_known'4 k = some true := by
  obtain ⟨t, ht, hl⟩ := bytes3 k hk
  have hM := May3_eq k (by omega)
  have hB : frame_Bytes'4 k F3 = some ([3, 1, 2] ++ t, 0) := by
    simp only [frame_Bytes'4, hM, lt1, Option.bind_some, Bool.not_true, Bool.false_eq_true, if_false, ht]
  have hB' := hB
  unfold F3 at hB'
  have hnum : ∀ v, law11_num k v = some () := fun _ => rfl
  have hlen : (((([3, 1, 2] : List UInt8) ++ t).length : Int) == 135) = true := by rw [beq_iff_eq, List.length_append, hl]; rfl
  have i0 : inO (([3, 1, 2] : List UInt8) ++ t) (0 : Int) = some 0 := inO_ok (by omega) (by rw [List.length_append]; simp; omega)
  have i1 : inO (([3, 1, 2] : List UInt8) ++ t) (1 : Int) = some 1 := inO_ok (by omega) (by rw [List.length_append]; simp; omega)
  have i2 : inO (([3, 1, 2] : List UInt8) ++ t) (2 : Int) = some 2 := inO_ok (by omega) (by rw [List.length_append]; simp; omega)
  have g0 : (([3, 1, 2] : List UInt8) ++ t)[0]? = some 3 := rfl
  have g1 : (([3, 1, 2] : List UInt8) ++ t)[1]? = some 1 := rfl
  have g2 : (([3, 1, 2] : List UInt8) ++ t)[2]? = some 2 := rfl
  simp only [law11_known'4, hB', Option.bind_some, Of0_eq, hnum, lt1, beq_self_eq_true, if_true, hlen, i0, i1, i2, g0, g1, g2, MaySame_eq, Bool.not_false, cond_true, Name7_eq]
end Go.Proofs.YtklnihlchhhhlaaGreat
