/- The plain law WireCuts. -/
import Derived.Test.YtkbkdfcakpbojaaD
namespace Go.Proofs.Ytkbkdfcakpbojaa
open Go Fw
set_option linter.unusedVariables false
set_option linter.unusedSimpArgs false

theorem eqDot {a b : api_Dot} : eq_api_Dot a b = decide (a = b) := by
  rw [Bool.eq_iff_iff, eq_api_Dot_iff, decide_eq_true_eq]
theorem eqVc {a b : Vector UInt64 16} : eqV (fun x y => x == y) a b = decide (a = b) := by
  rw [Bool.eq_iff_iff, eqV_iff (fun _ _ => beq_iff_eq), decide_eq_true_eq]
theorem pure_WireCuts (y0 : (List UInt8)) (y1 : api_Dot) (y2 : (Vector UInt64 16)) (y3 : Int) (f0 : (List.length y0 * 1 ≤ 140737488351232 ∧ ∀ z0 ∈ y0, True)) (f1 : ((IntKind.min .i64 ≤ y1.Region ∧ y1.Region ≤ IntKind.max .i64) ∧ (True ∧ True))) (f2 : (∀ (i : Nat) (h : i < 16), True)) (f3 : (IntKind.min .i64 ≤ y3 ∧ y3 ≤ IntKind.max .i64)) : ∃ k, law01_WireCuts k y0 y1 y2 y3 = some true := by
  obtain ⟨k, hk⟩ : ∃ k, 17 ≤ k := ⟨17, Nat.le_refl _⟩
  refine ⟨k, ?_⟩
  have hkn := known_eq k (by omega)
  simp only [law01_WireCuts, hkn, lt1, Option.bind_some]
  by_cases h1 : (y0.length : Int) > 9000
  · simp only [h1, decide_true, if_true, Option.bind_some]
  by_cases h2 : y1.Region < 0
  · simp only [h1, h2, decide_true, decide_false, Bool.false_eq_true, if_true, if_false, Option.bind_some]
  by_cases h3 : y1.Region > 255
  · simp only [h1, h2, h3, decide_true, decide_false, Bool.false_eq_true, if_true, if_false, Option.bind_some]
  have hd : 0 ≤ y1.Region ∧ y1.Region ≤ 255 := by omega
  have hvl := vecB_len y2 16 (Nat.le_refl _)
  have hdl := dotB_len y1
  have hrd : ref01_Dot k y1 = some (dotB y1) := refDot_eq k (by omega) y1 hd
  simp only [h1, h2, h3, decide_false, Bool.false_eq_true, if_false, Option.bind_some, refBlob_eq k (by omega) y0 (by omega), hrd, refVec_eq k (by omega),
    apL_ok (show ((put y0.length 2 ++ y0).length + (dotB y1).length) * 1 ≤ 140737488355328 by rw [List.length_append, put_length, hdl]; omega),
    apL_ok (show ((put y0.length 2 ++ y0 ++ dotB y1).length + (vecB y2 16).length) * 1 ≤ 140737488355328 by rw [List.length_append, List.length_append, put_length, hdl, hvl]; omega)]
  have hall : (put y0.length 2 ++ y0 ++ dotB y1 ++ vecB y2 16).length = 139 + y0.length := by
    rw [List.length_append, List.length_append, List.length_append, put_length, hdl, hvl]; omega
  have hassoc : put y0.length 2 ++ y0 ++ dotB y1 ++ vecB y2 16 = put y0.length 2 ++ (y0 ++ (dotB y1 ++ vecB y2 16)) := by simp only [List.append_assoc]
  by_cases h4 : y3 < 0
  · simp only [h4, decide_true, if_true, Option.bind_some]
  by_cases h5 : y3 > ((put y0.length 2 ++ y0 ++ dotB y1 ++ vecB y2 16).length : Int)
  · simp only [h4, h5, decide_true, decide_false, Bool.false_eq_true, if_true, if_false, Option.bind_some]
  simp only [h4, h5, decide_false, Bool.false_eq_true, if_false, Option.bind_some]
  obtain ⟨m, rfl⟩ : ∃ m : Nat, y3 = m := ⟨y3.toNat, by omega⟩
  rw [hall] at h5 ⊢
  have hm : m ≤ 139 + y0.length := by omega
  have hhead : subL (put y0.length 2 ++ y0 ++ dotB y1 ++ vecB y2 16) 0 (m : Int) = some ((put y0.length 2 ++ (y0 ++ (dotB y1 ++ vecB y2 16))).take m) := by
    rw [subL_head (by omega) (by rw [hall]; omega), hassoc]; simp
  have hw1 : w64 (2 + (y0.length : Int)) = 2 + (y0.length : Int) := w64_id (by omega) (by omega)
  have hw2 : w64 (11 + (y0.length : Int)) = 11 + (y0.length : Int) := w64_id (by omega) (by omega)
  have hb := blobR_cut y0 (dotB y1 ++ vecB y2 16) m (by omega)
  have hrl : ((put y0.length 2 ++ (y0 ++ (dotB y1 ++ vecB y2 16))).take m).length ≤ 10000 := by simp; omega
  simp only [hhead, Option.bind_some, clone_eq k _ (show ((put y0.length 2 ++ (y0 ++ (dotB y1 ++ vecB y2 16))).take m).length ≤ 140737488355328 by omega), blob_eq k (by omega) true true _ (show ((put y0.length 2 ++ (y0 ++ (dotB y1 ++ vecB y2 16))).take m).length ≤ 1000000 by omega), hw1, hw2]
  rw [show (⟨(put y0.length 2 ++ (y0 ++ (dotB y1 ++ vecB y2 16))).take m, true, true⟩ : wire_Reader) = okR ((put y0.length 2 ++ (y0 ++ (dotB y1 ++ vecB y2 16))).take m) from rfl, hb]
  have hff : wire_Reader_Failed'2 k fR = some true := rfl
  have hfo : wire_Reader_Failed'2 k (okR []) = some false := rfl
  have hef : wire_Reader_End k fR = some 4 := by rw [end_eq]; decide
  have heo : wire_Reader_End k (okR []) = some 0 := by rw [end_eq]; decide
  by_cases c1 : 2 + y0.length ≤ m
  · rw [if_pos c1]
    have d1 : (m : Int) ≥ 2 + (y0.length : Int) := by omega
    simp only [d1, decide_true, dot_cut k hk y1 hd, Option.bind_some]
    by_cases c2 : 9 ≤ m - 2 - y0.length
    · rw [if_pos c2]
      have d2 : (m : Int) ≥ 11 + (y0.length : Int) := by omega
      simp only [d2, decide_true, vec_cut k hk y2, Option.bind_some]
      by_cases c3 : 128 ≤ m - 2 - y0.length - 9
      · have d3 : (m : Int) = ((139 + y0.length : Nat) : Int) := by omega
        rw [if_pos c3]
        simp [hfo, heo, d3, eqDot, eqVc, law01_num]
      · have d3 : ¬ (m : Int) = ((139 + y0.length : Nat) : Int) := by omega
        have d4 : ((m : Int) == ((139 + y0.length : Nat) : Int)) = false := by rw [beq_eq_false_iff_ne]; exact d3
        rw [if_neg c3]
        simp only [d4]
        simp [hff, hef, eqDot, eqVc, law01_num]
    · rw [if_neg c2]
      have d2 : ¬ (m : Int) ≥ 11 + (y0.length : Int) := by omega
      have d4 : ((m : Int) == ((139 + y0.length : Nat) : Int)) = false := by rw [beq_eq_false_iff_ne]; omega
      simp only [d2, decide_false, vec_f k hk, Option.bind_some, d4]
      simp [hff, hef, eqDot, eqVc, law01_num]
  · rw [if_neg c1]
    have d1 : ¬ (m : Int) ≥ 2 + (y0.length : Int) := by omega
    have d2 : ¬ (m : Int) ≥ 11 + (y0.length : Int) := by omega
    have d4 : ((m : Int) == ((139 + y0.length : Nat) : Int)) = false := by rw [beq_eq_false_iff_ne]; omega
    simp only [d1, d2, decide_false, dot_f k hk, vec_f k hk, Option.bind_some, d4]
    simp [hff, hef, eqDot, eqVc, law01_num]
end Go.Proofs.Ytkbkdfcakpbojaa
