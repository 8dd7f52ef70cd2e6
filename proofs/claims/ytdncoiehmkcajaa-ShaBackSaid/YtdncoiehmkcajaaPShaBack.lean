/- The plain law ShaBack. -/
import Derived.Test.YtdncoiehmkcajaaX
import Derived.Test.YtdncoiehmkcajaaPShaSums
namespace Go.Proofs.Ytdncoiehmkcajaa
open Go Fw
set_option linter.unusedVariables false
set_option linter.unusedSimpArgs false

theorem key_fill (s : List UInt8) (h : s.length ≤ 64) : key (s ++ List.replicate (64 - s.length) 0) = key s := by
  have h1 : (s ++ List.replicate (64 - s.length) (0 : UInt8)).length = 64 := by simp; omega
  unfold key key0
  rw [if_neg (by omega), if_neg (by omega), h1]
  simp
theorem COD_fill (s m : List UInt8) (h : s.length ≤ 64) : COD (s ++ List.replicate (64 - s.length) 0) m = COD s m := by
  unfold COD outerK innerK
  rw [key_fill s h]
theorem pure_ShaBack (y0 : (Vector UInt8 32)) (y1 : (List UInt8)) (y2 : (List UInt8)) (y3 : Int) (f0 : (∀ (i : Nat) (h : i < 32), True)) (f1 : (List.length y1 * 1 ≤ 140737488351232 ∧ ∀ z0 ∈ y1, True)) (f2 : (List.length y2 * 1 ≤ 140737488351232 ∧ ∀ z0 ∈ y2, True)) (f3 : (IntKind.min .i64 ≤ y3 ∧ y3 ≤ IntKind.max .i64)) : ∃ k, law03_ShaBack k y0 y1 y2 y3 = some true := by
  obtain ⟨k, hk⟩ : ∃ k : Nat, k = 4000 := ⟨_, rfl⟩
  refine ⟨k, ?_⟩
  have h1 := text_eq k (by omega) y0
  have h2 := shaOf_eq hk (hexL y0.toList)
  rw [if_pos (by rw [hexL_len]; simp), pairs_hex] at h2
  simp only [ofV_toList] at h2
  have hn : ∀ e, law03_num k e = some () := fun e => rfl
  have hb0 : ((0 : Int) != 0) = false := rfl
  by_cases hc : y1.length > 64 ∨ y2.length > 3000 ∨ y3 < 0 ∨ y3 > y2.length
  · have hcb : (bif (bif (bif decide ((y1.length : Int) > 64) then true else decide ((y2.length : Int) > 3000)) then true else decide (y3 < 0)) then true else decide (y3 > (y2.length : Int))) = true := by
      rcases hc with h | h | h | h
      · simp [show (y1.length : Int) > 64 by omega]
      · simp [show (y2.length : Int) > 3000 by omega]
      · simp [h]
      · simp [show (y2.length : Int) < y3 by omega]
    simp only [law03_ShaBack, known_ok hk, Option.bind_some, lt1, Bool.not_true, Bool.false_eq_true, if_false, h1, h2, hn, hb0, eqV8_refl, cond_false, hcb, if_true]
  · obtain ⟨at_, rfl⟩ : ∃ n : Nat, y3 = n := ⟨y3.toNat, by omega⟩
    have c1 : ¬ (y1.length : Int) > 64 := by omega
    have c2 : ¬ (y2.length : Int) > 3000 := by omega
    have c3 : ¬ (at_ : Int) < 0 := by omega
    have c4 : ¬ (at_ : Int) > (y2.length : Int) := by omega
    have e1 : subL y2 0 (at_ : Int) = some (y2.take at_) := by rw [subL_ok (by omega) (by omega) (by omega)]; simp
    have e2 : subL y2 (at_ : Int) (y2.length : Int) = some (y2.drop at_) := by
      rw [subL_ok (by omega) (by omega) (by omega)]
      simp only [Int.toNat_natCast]
      rw [List.take_of_length_le (by simp)]
    have e3 := shaSumK hk [y2.take at_, y2.drop at_] (by simp) (by simp; omega)
    have e4 := shaSumK hk [y2] (by simp) (by simp; omega)
    have e5 : mkL 1 (64 : Int) (0 : UInt8) = some (List.replicate 64 0) := mkL_ok (by decide) (by decide) (by decide)
    have e6 := shaCode hk y1 [y2.take at_, [], y2.drop at_] (by omega) (by simp) (by simp; omega)
    have e7 := shaCode hk (cpL (List.replicate 64 (0 : UInt8)) y1) [y2] (by simp [cpL]; omega) (by simp) (by simp; omega)
    have e8 : cpL (List.replicate 64 (0 : UInt8)) y1 = y1 ++ List.replicate (64 - y1.length) 0 := by
      unfold cpL
      rw [List.length_replicate, List.take_of_length_le (by omega), List.drop_replicate]
    simp only [List.flatten_cons, List.flatten_nil, List.append_nil, List.nil_append, List.take_append_drop] at e3 e4 e6 e7
    rw [e8, COD_fill y1 y2 (by omega)] at e7
    rw [← e8] at e7
    simp only [law03_ShaBack, known_ok hk, Option.bind_some, lt1, Bool.not_true, Bool.false_eq_true, if_false, h1, h2, hn, hb0, eqV8_refl, cond_false, dec_f c1, dec_f c2, dec_f c3, dec_f c4, e5, e1, e2, e3, e4, e6, e7, if_true]
end Go.Proofs.Ytdncoiehmkcajaa
