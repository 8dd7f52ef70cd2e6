/- The plain law ShaTexts. -/
import Derived.Test.YtdncoiehmkcajaaX
import Derived.Test.YtdncoiehmkcajaaPShaSums
namespace Go.Proofs.Ytdncoiehmkcajaa
open Go Fw
set_option linter.unusedVariables false
set_option linter.unusedSimpArgs false

set_option maxRecDepth 100000 in
set_option maxHeartbeats 4000000 in
theorem refStarts : (List.range 8).map (fun (i : Nat) => Option.bind (ref03_prime 4000 (i : Int)) fun p => ref03_root 4000 p 2) = (hN.map fun x => some (UInt32.ofNat x)) := by
  unfold ref03_prime ref03_root
  simp only [ref03_prime.b1, ref03_prime.b2, ref03_root.b1, ref03_power, math_bits_Mul64, w64_fun]
  decide +kernel
set_option maxRecDepth 100000 in
set_option maxHeartbeats 4000000 in
theorem refConstants : (List.range 64).map (fun (i : Nat) => Option.bind (ref03_prime 4000 (i : Int)) fun p => ref03_root 4000 p 3) = (kN.map fun x => some (UInt32.ofNat x)) := by
  unfold ref03_prime ref03_root
  simp only [ref03_prime.b1, ref03_prime.b2, ref03_root.b1, ref03_power, math_bits_Mul64, w64_fun]
  decide +kernel
theorem start_same {k : Nat} (hk : k = 4000) (i : Int) : ∃ x, sha_Start k i = some x ∧ ref03_Start k i = some x := by
  subst hk
  by_cases h : i < 0 ∨ i > 7
  · have hb : (bif decide (i < 0) then true else decide (i > 7)) = true := by rcases h with h | h <;> simp [h]
    exact ⟨0, by simp only [sha_Start, lt1, hb, Option.bind_some, if_true], by simp only [ref03_Start, lt1, hb, Option.bind_some, if_true]⟩
  · obtain ⟨n, rfl⟩ : ∃ n : Nat, i = n := ⟨i.toNat, by omega⟩
    have hn : n < 8 := by omega
    refine ⟨_, Start_ok n hn, ?_⟩
    have h1 := congrArg (fun l => l[n]?) refStarts
    have h2 : hN[n]? = some (hN.getD n 0) := by rw [List.getD_eq_getElem?_getD, List.getElem?_eq_getElem (show n < hN.length from hn)]; rfl
    simp only [List.getElem?_map, List.getElem?_range hn, Option.map_some, h2, Option.some.injEq] at h1
    unfold ref03_Start
    simp only [lt1, dec_f (show ¬ (n : Int) < 0 by omega), dec_f (show ¬ (n : Int) > 7 by omega), cond_false, Option.bind_some, Bool.false_eq_true, if_false]
    refine Eq.trans ?_ h1
    congr 1
    funext p
    cases ref03_root 4000 p 2 <;> rfl
theorem constant_same {k : Nat} (hk : k = 4000) (i : Int) : ∃ x, sha_Constant k i = some x ∧ ref03_Constant k i = some x := by
  subst hk
  by_cases h : i < 0 ∨ i > 63
  · have hb : (bif decide (i < 0) then true else decide (i > 63)) = true := by rcases h with h | h <;> simp [h]
    exact ⟨0, by simp only [sha_Constant, lt1, hb, Option.bind_some, if_true], by simp only [ref03_Constant, lt1, hb, Option.bind_some, if_true]⟩
  · obtain ⟨n, rfl⟩ : ∃ n : Nat, i = n := ⟨i.toNat, by omega⟩
    have hn : n < 64 := by omega
    refine ⟨_, Constant_ok n hn, ?_⟩
    have h1 := congrArg (fun l => l[n]?) refConstants
    have h2 : kN[n]? = some (kN.getD n 0) := by rw [List.getD_eq_getElem?_getD, List.getElem?_eq_getElem (show n < kN.length from hn)]; rfl
    simp only [List.getElem?_map, List.getElem?_range hn, Option.map_some, h2, Option.some.injEq] at h1
    unfold ref03_Constant
    simp only [lt1, dec_f (show ¬ (n : Int) < 0 by omega), dec_f (show ¬ (n : Int) > 63 by omega), cond_false, Option.bind_some, Bool.false_eq_true, if_false]
    refine Eq.trans ?_ h1
    congr 1
    funext p
    cases ref03_root 4000 p 3 <;> rfl
theorem pure_ShaTexts (y0 : (Vector UInt8 32)) (y1 : (Vector UInt8 32)) (y2 : (List UInt8)) (y3 : Int) (f0 : (∀ (i : Nat) (h : i < 32), True)) (f1 : (∀ (i : Nat) (h : i < 32), True)) (f2 : (List.length y2 ≤ 140737488351232)) (f3 : (IntKind.min .i64 ≤ y3 ∧ y3 ≤ IntKind.max .i64)) : ∃ k, law03_ShaTexts k y0 y1 y2 y3 = some true := by
  obtain ⟨k, hk⟩ : ∃ k : Nat, k = 4000 := ⟨_, rfl⟩
  refine ⟨k, ?_⟩
  by_cases hc : (y2.length : Int) > 300
  · simp only [law03_ShaTexts, lt1, dec_t hc, if_true, known_ok hk, Option.bind_some]
  have hn : ∀ e, law03_num k e = some () := fun e => rfl
  have h1 := text_eq k (by omega) y0
  have h2 := refHex_eq k y0.toList (by simp; omega) (by simp)
  have h3 : subL y0.toList 0 (32 : Int) = some y0.toList := subL_all y0
  have h4 := equal_eq k (by omega) y0 y1
  have h5 : eqV (fun x y => x == y) y0 y1 = decide (y0 = y1) := by rw [Bool.eq_iff_iff, eqV_iff (fun _ _ => beq_iff_eq), decide_eq_true_eq]
  have h6 := shaOf_eq hk y2
  have h7 := refOf_eq k y2 (by omega) (by omega)
  obtain ⟨x, h8, h9⟩ := start_same hk y3
  obtain ⟨z, h10, h11⟩ := constant_same hk y3
  have hof : ∃ v : Vector UInt8 32, ∃ e : Int, ∃ ok : Bool, sha_Of k y2 = some (v, e) ∧ ref03_Of k y2 = some (v, ok) ∧ (ok = true ∧ e = 0 ∨ ok = false ∧ e = 4) := by
    by_cases hl : y2.length = 64
    · rw [if_pos hl] at h6 h7
      cases hp : pairsO y2 with
      | none => rw [hp] at h6 h7; exact ⟨_, _, _, h6, h7, .inr ⟨rfl, rfl⟩⟩
      | some l => rw [hp] at h6 h7; exact ⟨_, _, _, h6, h7, .inl ⟨rfl, rfl⟩⟩
    · rw [if_neg hl] at h6 h7; exact ⟨_, _, _, h6, h7, .inr ⟨rfl, rfl⟩⟩
  obtain ⟨v, e, ok, h12, h13, h14⟩ := hof
  have hb0 : ((0 : Int) == 0) = true := rfl
  have hb4 : ((4 : Int) == 0) = false := rfl
  have hb5 : ((4 : Int) == 4) = true := rfl
  rcases h14 with ⟨rfl, rfl⟩ | ⟨rfl, rfl⟩
  · simp only [law03_ShaTexts, lt1, dec_f hc, Bool.false_eq_true, if_false, h12, h13, h1, h3, h2, beq_self_eq_true, if_true, h4, h5, Option.bind_some, cond_true, eqV8_refl, hn, hb0, Bool.not_true, Bool.and_false, h8, h9, h10, h11, known_ok hk, Bool.true_and]
  · simp only [law03_ShaTexts, lt1, dec_f hc, Bool.false_eq_true, if_false, h12, h13, h1, h3, h2, beq_self_eq_true, if_true, h4, h5, Option.bind_some, cond_true, cond_false, eqV8_refl, hn, hb4, hb5, Bool.not_true, Bool.not_false, Bool.and_false, Bool.and_true, h8, h9, h10, h11, known_ok hk, Bool.true_and]
end Go.Proofs.Ytdncoiehmkcajaa
