/- The plain law WireBack. -/
import Derived.Test.YtkbkdfcakpbojaaF
namespace Go.Proofs.Ytkbkdfcakpbojaa
open Go Fw
set_option linter.unusedVariables false
set_option linter.unusedSimpArgs false

theorem eqDotB {a b : api_Dot} : eq_api_Dot a b = decide (a = b) := by
  rw [Bool.eq_iff_iff, eq_api_Dot_iff, decide_eq_true_eq]
theorem eqVcB {a b : Vector UInt64 16} : eqV (fun x y => x == y) a b = decide (a = b) := by
  rw [Bool.eq_iff_iff, eqV_iff (fun _ _ => beq_iff_eq), decide_eq_true_eq]
theorem takeR_all (p q : List UInt8) : takeR (okR (p ++ q)) (p.length : Int) = (p, true, okR q) := by
  have := seg p q (p ++ q).length
  rw [List.take_length, if_pos (by simp)] at this
  rw [this]
  simp
theorem numR_all (p q : List UInt8) (size : Int) (h0 : 1 ≤ size) (h8 : size ≤ 8) (hp : (p.length : Int) = size) : numR (okR (p ++ q)) size = (getU p, okR q) := by
  have := numR_seg p q (p ++ q).length size h0 h8 hp
  rw [List.take_length, if_pos (by simp)] at this
  rw [this]
  simp
theorem vec_ok (k : Nat) (hk : 17 ≤ k) (v : Vector UInt64 16) (q : List UInt8) : wire_Reader_Vector'2 k (okR (vecB v 16 ++ q)) = some (v, okR q) := by
  have hs := takeR_all (vecB v 16) q
  rw [vecB_len v 16 (Nat.le_refl _)] at hs
  have := vec_loop k hk v
  simp only [wire_Reader_Vector'2, take2_eq]
  rw [show takeR (okR (vecB v 16 ++ q)) 128 = (vecB v 16, true, okR q) from hs]
  simp only [Option.bind_some, clone_eq k (vecB v 16) (by rw [vecB_len v 16 (Nat.le_refl _)]; omega)]
  rw [show (⟨vecB v 16, true, true⟩ : wire_Reader) = okR (vecB v 16) from rfl, this]
  rfl
theorem pure_WireBack (y0 : UInt64) (y1 : api_Dot) (y2 : (Vector UInt64 16)) (y3 : (List UInt8)) (f0 : True) (f1 : ((IntKind.min .i64 ≤ y1.Region ∧ y1.Region ≤ IntKind.max .i64) ∧ (True ∧ True))) (f2 : (∀ (i : Nat) (h : i < 16), True)) (f3 : (List.length y3 * 1 ≤ 140737488351232 ∧ ∀ z0 ∈ y3, True)) : ∃ k, law01_WireBack k y0 y1 y2 y3 = some true := by
  obtain ⟨k, hk⟩ : ∃ k, 40000 ≤ k := ⟨40000, Nat.le_refl _⟩
  refine ⟨k, ?_⟩
  have hkn := known_eq k (by omega)
  simp only [law01_WireBack, hkn, lt1, Option.bind_some, Bool.not_true, Bool.false_eq_true, if_false]
  by_cases h1 : (y3.length : Int) > 9000
  · simp only [h1, decide_true, if_true, Option.bind_some]
  by_cases h2 : y1.Region < 0
  · simp only [h1, h2, decide_true, decide_false, Bool.false_eq_true, if_true, if_false, Option.bind_some]
  by_cases h3 : y1.Region > 255
  · simp only [h1, h2, h3, decide_true, decide_false, Bool.false_eq_true, if_true, if_false, Option.bind_some]
  have hd : 0 ≤ y1.Region ∧ y1.Region ≤ 255 := by omega
  have hl3 : y3.length ≤ 65535 := by omega
  have hvl := vecB_len y2 16 (Nat.le_refl _)
  have hdl := dotB_len y1
  have hp0 : (put y0.toNat 8).length = 8 := put_length _ _
  have hpb : (put y3.length 2 ++ y3).length = 2 + y3.length := by rw [List.length_append, put_length]
  have hwd : wire_Dot k y1 = some (dotB y1, 0) := by rw [wireDot_eq k (by omega) y1, if_pos hd]; rfl
  have hwb : wire_Blob k y3 = some (put y3.length 2 ++ y3, 0) := by rw [wireBlob_eq k (by omega) y3 (by omega), if_pos hl3]
  have hj := join_eq k [put y0.toNat 8, put y3.length 2 ++ y3, dotB y1, vecB y2 16, y3] (by simp; omega) (by simp [sumL, put_length, hdl, hvl]; omega) (by simp)
  have hfl : [put y0.toNat 8, put y3.length 2 ++ y3, dotB y1, vecB y2 16, y3].flatten = put y0.toNat 8 ++ (put y3.length 2 ++ (y3 ++ (dotB y1 ++ (vecB y2 16 ++ y3)))) := by simp
  rw [hfl] at hj
  have hlen : (put y0.toNat 8 ++ (put y3.length 2 ++ (y3 ++ (dotB y1 ++ (vecB y2 16 ++ y3))))).length = 147 + 2 * y3.length := by
    simp only [List.length_append, put_length, hdl, hvl]; omega
  have hw0 : w64 ((0 : Int) + 0) = 0 := w64_id (by decide) (by decide)
  simp only [h1, h2, h3, decide_false, Bool.false_eq_true, if_false, Option.bind_some, put8 k (by omega), hwd, hwb, wireVec_eq k (by omega), hj, clone_eq k _ (show (put y0.toNat 8 ++ (put y3.length 2 ++ (y3 ++ (dotB y1 ++ (vecB y2 16 ++ y3))))).length ≤ 140737488355328 by omega), law01_num, hw0, bne_self_eq_false]
  have hn1 : numR (okR (put y0.toNat 8 ++ (put y3.length 2 ++ (y3 ++ (dotB y1 ++ (vecB y2 16 ++ y3)))))) 8 = (y0, okR (put y3.length 2 ++ (y3 ++ (dotB y1 ++ (vecB y2 16 ++ y3))))) := by
    rw [numR_all _ _ 8 (by decide) (by decide) (by rw [hp0]; rfl), getU_put8]
  rw [num1_eq k (by omega) 8 true true _ (by omega)]
  rw [show (⟨put y0.toNat 8 ++ (put y3.length 2 ++ (y3 ++ (dotB y1 ++ (vecB y2 16 ++ y3)))), true, true⟩ : wire_Reader) = okR (put y0.toNat 8 ++ (put y3.length 2 ++ (y3 ++ (dotB y1 ++ (vecB y2 16 ++ y3))))) from rfl, hn1]
  have hb1 := blobR_cut y3 (dotB y1 ++ (vecB y2 16 ++ y3)) (put y3.length 2 ++ (y3 ++ (dotB y1 ++ (vecB y2 16 ++ y3)))).length hl3
  have hlen2 : (put y3.length 2 ++ (y3 ++ (dotB y1 ++ (vecB y2 16 ++ y3)))).length = 139 + 2 * y3.length := by
    simp only [List.length_append, put_length, hdl, hvl]; omega
  rw [List.take_length, hlen2, if_pos (by omega), List.take_of_length_le (by simp only [List.length_append, hdl, hvl]; omega)] at hb1
  have hb2 : wire_Reader_Blob'2 k (okR (put y3.length 2 ++ (y3 ++ (dotB y1 ++ (vecB y2 16 ++ y3))))) = some (y3, okR (dotB y1 ++ (vecB y2 16 ++ y3))) := by
    have := blob_eq k (by omega) true true (put y3.length 2 ++ (y3 ++ (dotB y1 ++ (vecB y2 16 ++ y3)))) (by omega)
    rw [show (⟨put y3.length 2 ++ (y3 ++ (dotB y1 ++ (vecB y2 16 ++ y3))), true, true⟩ : wire_Reader) = okR (put y3.length 2 ++ (y3 ++ (dotB y1 ++ (vecB y2 16 ++ y3)))) from rfl, hb1] at this
    rw [← this]
    have hn := num2_eq k (by omega) 2 (okR (put y3.length 2 ++ (y3 ++ (dotB y1 ++ (vecB y2 16 ++ y3))))) (by show (put y3.length 2 ++ (y3 ++ (dotB y1 ++ (vecB y2 16 ++ y3)))).length ≤ _; omega)
    have hn' := num1_eq k (by omega) 2 true true (put y3.length 2 ++ (y3 ++ (dotB y1 ++ (vecB y2 16 ++ y3)))) (by omega)
    rw [show (⟨put y3.length 2 ++ (y3 ++ (dotB y1 ++ (vecB y2 16 ++ y3))), true, true⟩ : wire_Reader) = okR (put y3.length 2 ++ (y3 ++ (dotB y1 ++ (vecB y2 16 ++ y3)))) from rfl] at hn'
    simp only [wire_Reader_Blob'2, wire_Reader_Blob, hn, hn', Option.bind_some]
  have hdt := dot_cut k (by omega) y1 hd (vecB y2 16 ++ y3) (dotB y1 ++ (vecB y2 16 ++ y3)).length
  have hlen3 : (dotB y1 ++ (vecB y2 16 ++ y3)).length = 137 + y3.length := by simp only [List.length_append, hdl, hvl]; omega
  rw [List.take_length, hlen3, if_pos (by omega), List.take_of_length_le (by simp only [List.length_append, hvl]; omega)] at hdt
  have hvc := vec_ok k (by omega) y2 y3
  have hby : wire_Reader_Bytes k (y3.length : Int) (okR y3) = some (y3, okR []) := by
    rw [bytes_eq, show bytesR (okR y3) (y3.length : Int) = (y3, okR []) from ?_]
    have := takeR_all y3 []
    rw [List.append_nil] at this
    simp only [bytesR, this]
  have heo : wire_Reader_End k (okR []) = some 0 := by rw [end_eq]; decide
  have hnu : wire_Reader_Number'2 k 1 (okR []) = some (0, fR) := by
    rw [num2_eq k (by omega) 1 (okR []) (by show (0 : Nat) ≤ _; omega)]
    rfl
  have hff : wire_Reader_Failed'2 k fR = some true := rfl
  have hhx := wireHex_eq k y3 (by omega) (by omega)
  have hux := wireUnhex_eq k (hexL y3) (by rw [hexL_len]; omega) (by rw [hexL_len]; omega)
  rw [pairs_hexL, if_pos (by rw [hexL_len]; omega)] at hux
  simp only [Option.bind_some, beq_self_eq_true, Bool.not_true, Bool.false_eq_true, if_false, hb2, bne_self_eq_false, hdt, eqDotB, eqVcB, decide_true, hvc, hby, heo, hhx, hux, if_true, hnu, hff]
end Go.Proofs.Ytkbkdfcakpbojaa
