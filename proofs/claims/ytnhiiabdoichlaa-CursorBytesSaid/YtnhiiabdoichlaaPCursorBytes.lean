/- The plain law CursorBytes. -/
import Derived.Test.YtnhiiabdoichlaaD
namespace Go.Proofs.Ytnhiiabdoichlaa
open Go Fw
set_option linter.unusedVariables false
set_option linter.unusedSimpArgs false

theorem pure_CursorBytes (y0 : (List UInt8)) (y1 : (List UInt8)) (y2 : (Vector UInt64 16)) (y3 : (Vector UInt64 16)) (y4 : (List UInt8)) (f0 : (List.length y0 * 1 ≤ 140737488351232 ∧ ∀ z0 ∈ y0, True)) (f1 : (List.length y1 ≤ 140737488351232)) (f2 : (∀ (i : Nat) (h : i < 16), True)) (f3 : (∀ (i : Nat) (h : i < 16), True)) (f4 : (List.length y4 * 1 ≤ 140737488351232 ∧ ∀ z0 ∈ y4, True)) : ∃ k, law10_CursorBytes k y0 y1 y2 y3 y4 = some true := by
  obtain ⟨k, hk⟩ : ∃ k : Nat, k = 4000 := ⟨_, rfl⟩
  refine ⟨k, ?_⟩
  by_cases hc : (y0.length : Int) > 300
  · simp only [law10_CursorBytes, lt1, dec_t hc, cond_true, if_true, known_ok hk, Option.bind_some]
  by_cases hc2 : (y4.length : Int) > 9000
  · simp only [law10_CursorBytes, lt1, dec_f hc, dec_t hc2, cond_false, if_true, known_ok hk, Option.bind_some]
  have hn : ∀ e, law10_num k e = some () := fun e => rfl
  have h1 := bytes_eq hk y0 y1 y2 (by omega)
  have h2 := of_eq hk y0 y1 y4 (by omega)
  have h3 := refOf_eq hk y0 y1 y4 (by omega)
  have h4 := cursorMay_eq k (by omega) y2
  have h5 := refMay_eq k (by omega) y2
  have h6 := join_eq k (by omega) y2 y3
  have h7 := refjoin_eq k (by omega) y2 y3
  have h8 := covers_eq k (by omega) y2 y3
  have h9 := refcovers_eq k (by omega) y2 y3
  have h10 := mayName_eq k y1
  have b0 : ((0 : Int) != 0) = false := rfl
  have b2 : ((2 : Int) != 2) = false := rfl
  have b3 : ((([] : List UInt8).length : Int) != 0) = false := rfl
  generalize OFF y0 y1 y4 = w at h2 h3
  obtain ⟨w1, w2⟩ := w
  cases hd : mayN y1 with
  | false =>
    simp only [hd, Bool.false_and, Bool.false_eq_true, if_false] at h1
    simp only [law10_CursorBytes, lt1, dec_f hc, dec_f hc2, cond_false, cond_true, Bool.false_eq_true, if_false, if_true, h1, h10, hd, hn, b2, b3, Bool.not_false, h2, h3, eqVc, decide_true, beq_self_eq_true, h4, h5, h6, h7, h8, h9, Option.bind_some, known_ok hk]
  | true =>
    cases ha : mayB y2 with
    | false =>
      simp only [hd, ha, Bool.and_false, Bool.false_eq_true, if_false] at h1
      simp only [law10_CursorBytes, lt1, dec_f hc, dec_f hc2, cond_false, cond_true, Bool.false_eq_true, if_false, if_true, h1, h10, hd, ha, hn, b2, b3, Bool.not_false, h2, h3, eqVc, decide_true, beq_self_eq_true, h4, h5, h6, h7, h8, h9, Option.bind_some, known_ok hk]
    | true =>
      simp only [hd, ha, Bool.and_true, if_true] at h1
      have h11 := refBytes_eq hk y0 y1 y2 (by omega) hd
      have b4 : (CUR y0 y1 y2 != CUR y0 y1 y2) = false := by simp
      simp only [law10_CursorBytes, lt1, dec_f hc, dec_f hc2, cond_false, cond_true, Bool.false_eq_true, if_false, if_true, h1, h10, h11, hd, ha, hn, b0, b4, Bool.not_false, h2, h3, eqVc, decide_true, beq_self_eq_true, h4, h5, h6, h7, h8, h9, Option.bind_some, known_ok hk]
end Go.Proofs.Ytnhiiabdoichlaa
