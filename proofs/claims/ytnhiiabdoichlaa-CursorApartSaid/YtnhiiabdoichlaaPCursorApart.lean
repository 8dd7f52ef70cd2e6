/- The plain law CursorApart. -/
import Derived.Test.YtnhiiabdoichlaaD
namespace Go.Proofs.Ytnhiiabdoichlaa
open Go Fw
set_option linter.unusedVariables false
set_option linter.unusedSimpArgs false

theorem CUR_inj (s d : List UInt8) (a b : Vc) : CUR s d a = CUR s d b ↔ a = b := by
  constructor
  · intro h
    have h1 := dcV_vecB a (cdC s d (vecB a 16)).toList
    have h2 := dcV_vecB b (cdC s d (vecB b 16)).toList
    rw [← h1, ← h2]
    exact congrArg dcV h
  · intro h; rw [h]
theorem pure_CursorApart (y0 : (List UInt8)) (y1 : (List UInt8)) (y2 : (Vector UInt64 16)) (y3 : (Vector UInt64 16)) (f0 : (List.length y0 * 1 ≤ 140737488351232 ∧ ∀ z0 ∈ y0, True)) (f1 : (List.length y1 ≤ 140737488351232)) (f2 : (∀ (i : Nat) (h : i < 16), True)) (f3 : (∀ (i : Nat) (h : i < 16), True)) : ∃ k, law10_CursorApart k y0 y1 y2 y3 = some true := by
  obtain ⟨k, hk⟩ : ∃ k : Nat, k = 4000 := ⟨_, rfl⟩
  refine ⟨k, ?_⟩
  by_cases hc : (y0.length : Int) > 300
  · simp only [law10_CursorApart, lt1, dec_t hc, if_true, known_ok hk, Option.bind_some]
  have hn : ∀ e, law10_num k e = some () := fun e => rfl
  have h1 := bytes_eq hk y0 y1 y2 (by omega)
  have h2 := bytes_eq hk y0 y1 y3 (by omega)
  have w0 : w64 (0 + 0) = 0 := w64_id (by omega) (by omega)
  have w2 : w64 (0 + 2) = 2 := w64_id (by omega) (by omega)
  have w3 : w64 (2 + 0) = 2 := w64_id (by omega) (by omega)
  have w4 : w64 (2 + 2) = 4 := w64_id (by omega) (by omega)
  have b0 : ((0 : Int) != 0) = false := rfl
  have b2 : ((2 : Int) != 0) = true := rfl
  have b4 : ((4 : Int) != 0) = true := rfl
  have b5 : ((0 : Int) == 0) = true := rfl
  cases hd : mayN y1 with
  | false =>
    simp only [hd, Bool.false_and, Bool.false_eq_true, if_false] at h1 h2
    simp only [law10_CursorApart, lt1, dec_f hc, Bool.false_eq_true, if_false, h1, h2, hn, w4, b4, Option.bind_some, if_true, known_ok hk]
  | true =>
    cases ha : mayB y2 with
    | false =>
      cases hb : mayB y3 with
      | false =>
        simp only [hd, ha, hb, Bool.and_false, Bool.false_eq_true, if_false] at h1 h2
        simp only [law10_CursorApart, lt1, dec_f hc, Bool.false_eq_true, if_false, h1, h2, hn, w4, b4, Option.bind_some, if_true, known_ok hk]
      | true =>
        simp only [hd, ha, hb, Bool.and_false, Bool.and_true, Bool.false_eq_true, if_false, if_true] at h1 h2
        simp only [law10_CursorApart, lt1, dec_f hc, Bool.false_eq_true, if_false, h1, h2, hn, w3, b2, Option.bind_some, if_true, known_ok hk]
    | true =>
      cases hb : mayB y3 with
      | false =>
        simp only [hd, ha, hb, Bool.and_false, Bool.and_true, Bool.false_eq_true, if_false, if_true] at h1 h2
        simp only [law10_CursorApart, lt1, dec_f hc, Bool.false_eq_true, if_false, h1, h2, hn, w2, b2, Option.bind_some, if_true, known_ok hk]
      | true =>
        simp only [hd, ha, hb, Bool.and_true, if_true] at h1 h2
        have h3 := of_eq hk y0 y1 (CUR y0 y1 y2) (by omega)
        rw [off_cur y0 y1 y2 hd ha] at h3
        have h4 := of_eq hk y0 y1 (CUR y0 y1 y3) (by omega)
        rw [off_cur y0 y1 y3 hd hb] at h4
        have h5 : (CUR y0 y1 y2 == CUR y0 y1 y3) = decide (y2 = y3) := by rw [Bool.eq_iff_iff, beq_iff_eq, decide_eq_true_eq, CUR_inj]
        simp only [law10_CursorApart, lt1, dec_f hc, Bool.false_eq_true, if_false, h1, h2, h3, h4, h5, hn, w0, b0, b5, eqVc, decide_true, beq_self_eq_true, Option.bind_some, if_true, cond_true, known_ok hk]
end Go.Proofs.Ytnhiiabdoichlaa
