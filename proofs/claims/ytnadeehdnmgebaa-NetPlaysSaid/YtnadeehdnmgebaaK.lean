/- The chapter's rows; what is gone through; lines of flights. -/
import Derived.Test.YtnadeehdnmgebaaD
namespace Go.Proofs.Ytnadeehdnmgebaa
open Go Fw
set_option linter.unusedVariables false
set_option linter.unusedSimpArgs false

theorem w64_0 : w64 ((0 : Int) + 0) = 0 := w64_id (by decide) (by decide)
theorem known_eq (k : Nat) (hk : 30000 ≤ k) : law12_known'2 k = some true := by
  have hnum : ∀ v, law12_num k v = some () := fun _ => rfl
  have hnew : net_New k 3 = some (.inl ()) := by
    simp only [net_New, lt1, dec_f (show ¬ (3 : Int) < 1 by omega), dec_f (show ¬ (3 : Int) > 16 by omega), cond_false, Option.bind_some, Bool.false_eq_true, if_false]
  have f0 : allF [] 3 = [] := by decide
  obtain ⟨M1, a1, i1, f1⟩ := Send_F k (Inv.nil (E := 3) (by omega)) 2 1 [97] 0
  rw [f0] at a1 f1
  have g1 : sendF 3 2 1 [97] 0 [] = (0, [⟨2, 1, [97]⟩], 0) := by simp [sendF, badS, lineF, layF]
  rw [g1] at a1 f1
  obtain ⟨M2, a2, i2, f2⟩ := Send_F k i1 1 2 [98] 0
  have g2 : sendF 3 1 2 [98] 0 [⟨2, 1, [97]⟩] = (0, [⟨1, 2, [98]⟩, ⟨2, 1, [97]⟩], 0) := by simp [sendF, badS, lineF, layF, isL, ahead]
  rw [f1] at a2 f2
  simp only [g2] at a2 f2
  obtain ⟨M3, a3, i3, f3⟩ := Send_F k i2 1 3 [99] 0
  have g3 : sendF 3 1 3 [99] 0 [⟨1, 2, [98]⟩, ⟨2, 1, [97]⟩] = (0, [⟨1, 2, [98]⟩, ⟨1, 3, [99]⟩, ⟨2, 1, [97]⟩], 0) := by simp [sendF, badS, lineF, layF, isL, ahead]
  rw [f2] at a3 f3
  simp only [g3] at a3 f3
  have b1 := At_eq k (by omega) i3 0 0
  rw [f3] at b1
  obtain ⟨M4, a4, i4, f4⟩ := Take_F k (by omega) i3 0 2
  rw [f3] at a4 f4
  have g4 : atM [⟨1, 2, [98]⟩, ⟨1, 3, [99]⟩, ⟨2, 1, [97]⟩] 2 = (⟨2, 1, [97]⟩, 0) := rfl
  have g5 : atM [⟨1, 2, [98]⟩, ⟨1, 3, [99]⟩, ⟨2, 1, [97]⟩] 0 = (⟨1, 2, [98]⟩, 0) := rfl
  rw [g4] at a4 f4
  rw [g5] at b1
  have f4' : allF M4 3 = [⟨1, 2, [98]⟩, ⟨1, 3, [99]⟩] := f4
  have b2 := Len_F k i4 0
  obtain ⟨M5, a5, i5, f5⟩ := Double_F k (by omega) i4 0 0
  rw [f4'] at a5 f5 b2
  have g6 : dblF [⟨1, 2, [98]⟩, ⟨1, 3, [99]⟩] 0 = (0, [⟨1, 2, [98]⟩, ⟨1, 2, [98]⟩, ⟨1, 3, [99]⟩]) := by decide
  rw [g6] at a5 f5
  obtain ⟨M6, a6, i6, f6⟩ := Take_F k (by omega) i5 0 1
  rw [f5] at a6 f6
  have g7 : atM [⟨1, 2, [98]⟩, ⟨1, 2, [98]⟩, ⟨1, 3, [99]⟩] 1 = (⟨1, 2, [98]⟩, 0) := rfl
  rw [g7] at a6 f6
  have f6' : allF M6 3 = [⟨1, 2, [98]⟩, ⟨1, 3, [99]⟩] := f6
  obtain ⟨M7, a7, i7, f7⟩ := Drop_F k (by omega) i6 0 9
  rw [f6'] at a7
  have g8 : atM [⟨1, 2, [98]⟩, ⟨1, 3, [99]⟩] 9 = (zeroF, 6) := rfl
  rw [g8] at a7
  obtain ⟨M8, a8, i8, f8⟩ := Send_F k i7 1 1 [120] 0
  have g9 : ∀ F, sendF 3 1 1 [120] 0 F = (2, F, 0) := fun F => by simp [sendF, badS]
  rw [g9] at a8
  simp only [show ((3 : Nat) : Int) = 3 from rfl] at a1 a2 a3 b1 a4 b2 a5 a6 a7 a8
  have hl2 : ((([⟨1, 2, [98]⟩, ⟨1, 3, [99]⟩] : List api_Flight).length : Int) != 2) = false := by decide
  simp only [law12_known'2, hnew, lt1, Option.bind_some, hnum, a1, w64_0, a2, a3, bne_self_eq_false, Bool.false_eq_true, if_false, b1, a4, same_eq, decide_true, Bool.not_true, Bool.not_false, if_true, cond_false, cond_true, b2, hl2, a5, a6, beq_self_eq_true, a7, a8]
theorem much_eq (k : Nat) (hk : 100 ≤ k) (l : List law12_Act) : ∃ b, law12_much k l = some b ∧ (b = false → l.length ≤ 60 ∧ ∀ i (h : i < l.length), l[i].Bytes.length ≤ 20000) := by
  obtain ⟨t, h1, h2⟩ : ∃ t, loopO (fun s => law12_much.b1 k l s.1 s.2.1 s.2.2) k ((0 : Int), (0 : Int), (0 : Int)) = some t ∧ (t = .inr true ∨ ∃ n many : Int, t = .inl (n, many) ∧ (l.length ≤ 60 → ∀ i (h : i < l.length), min l[i].Bytes.length 20001 ≤ n)) := by
    refine loop_inv (body := fun s : Int × Int × Int => law12_much.b1 k l s.1 s.2.1 s.2.2) (I := fun s => 0 ≤ s.2.2 ∧ s.2.2 ≤ l.length ∧ s.2.2 ≤ 61 ∧ 0 ≤ s.1 ∧ s.1 ≤ 20001 * s.2.2 ∧ 0 ≤ s.2.1 ∧ s.2.1 ≤ s.2.2 ∧ ∀ i (h : i < l.length), (i : Int) < s.2.2 → ((min l[i].Bytes.length 20001 : Nat) : Int) ≤ s.1) (m := fun s => (61 - s.2.2).toNat) _ ?_ k _ ⟨Int.le_refl _, by show (0 : Int) ≤ _; omega, by show (0 : Int) ≤ 61; omega, Int.le_refl _, by show (0 : Int) ≤ 20001 * 0; omega, Int.le_refl _, Int.le_refl _, fun i h h2 => by simp only at h2; omega⟩ (by show (61 - (0 : Int)).toNat < k; omega)
    rintro ⟨n, many, i⟩ ⟨g0, g1, g2, g3, g4, g5, g6, g7⟩
    simp only at g0 g1 g2 g3 g4 g5 g6 g7
    obtain ⟨i, rfl⟩ : ∃ j : Nat, i = j := ⟨i.toNat, by omega⟩
    by_cases hlt : i < l.length
    · by_cases h60 : i ≤ 60
      · have hm : minI (l[i].Bytes.length : Int) 20001 = ((min l[i].Bytes.length 20001 : Nat) : Int) := by unfold minI; split <;> omega
        have hw : w64 (n + ((min l[i].Bytes.length 20001 : Nat) : Int)) = n + ((min l[i].Bytes.length 20001 : Nat) : Int) := w64_id (by omega) (by omega)
        have key : ∀ many' : Int, 0 ≤ many' → many' ≤ i + 1 → 0 ≤ ((i + 1 : Nat) : Int) ∧ ((i + 1 : Nat) : Int) ≤ l.length ∧ ((i + 1 : Nat) : Int) ≤ 61 ∧ 0 ≤ n + ((min l[i].Bytes.length 20001 : Nat) : Int) ∧ n + ((min l[i].Bytes.length 20001 : Nat) : Int) ≤ 20001 * ((i + 1 : Nat) : Int) ∧ 0 ≤ many' ∧ many' ≤ ((i + 1 : Nat) : Int) ∧ ∀ j (h : j < l.length), (j : Int) < ((i + 1 : Nat) : Int) → ((min l[j].Bytes.length 20001 : Nat) : Int) ≤ n + ((min l[i].Bytes.length 20001 : Nat) : Int) := by
          intro many' m0 m1
          refine ⟨by omega, by omega, by omega, by omega, by omega, m0, by omega, fun j hj hji => ?_⟩
          by_cases hj2 : j = i
          · subst hj2; omega
          · have := g7 j hj (by omega)
            omega
        simp only [law12_much.b1, lt1, dec_t (show (i : Int) < (l.length : Int) by omega), dec_t (show (i : Int) ≤ 60 by omega), cond_true, Option.bind_some, if_true, idxL_lt hlt, hm, hw, w64_succ (show i < 9223372036854775807 by omega)]
        by_cases h6 : l[i].Kind = 6
        · have e6 : (l[i].Kind == 6) = true := by simp [h6]
          have hw2 : w64 (many + 1) = many + 1 := w64_id (by omega) (by omega)
          simp only [e6, if_true, hw2, Option.bind_some, cond_true]
          by_cases h100 : (l[i].Bytes.length : Int) > 100
          · right
            simp only [h100, decide_true, if_true]
            exact ⟨_, rfl, .inl rfl⟩
          · left
            simp only [h100, decide_false, Bool.false_eq_true, if_false]
            exact ⟨_, rfl, key (many + 1) (by omega) (by omega), by show (61 - ((i + 1 : Nat) : Int)).toNat < (61 - (i : Int)).toNat; omega⟩
        · have e6 : (l[i].Kind == 6) = false := by simp [h6]
          left
          simp only [e6, Bool.false_eq_true, if_false, Option.bind_some, cond_false]
          exact ⟨_, rfl, key many (by omega) (by omega), by show (61 - ((i + 1 : Nat) : Int)).toNat < (61 - (i : Int)).toNat; omega⟩
      · right
        simp only [law12_much.b1, lt1, dec_t (show (i : Int) < (l.length : Int) by omega), dec_f (show ¬ (i : Int) ≤ 60 by omega), cond_true, Option.bind_some, Bool.false_eq_true, if_false]
        exact ⟨_, rfl, .inr ⟨n, many, rfl, fun h => by omega⟩⟩
    · right
      simp only [law12_much.b1, lt1, dec_f (show ¬ (i : Int) < (l.length : Int) by omega), cond_false, Option.bind_some, Bool.false_eq_true, if_false]
      exact ⟨_, rfl, .inr ⟨n, many, rfl, fun _ j hj => g7 j hj (by omega)⟩⟩
  rcases h2 with rfl | ⟨n, many, rfl, h3⟩
  · exact ⟨true, by simp only [law12_much, h1, Option.bind_some], fun h => by cases h⟩
  · refine ⟨_, (by simp only [law12_much, h1, Option.bind_some, lt1]; rfl), fun h => ?_⟩
    by_cases c1 : n > 20000
    · simp [c1] at h
    · by_cases c2 : (l.length : Int) > 60
      · simp [c2] at h
      · refine ⟨by omega, fun i hi => ?_⟩
        have := h3 (by omega) i hi
        omega
/-! ### lines -/
end Go.Proofs.Ytnadeehdnmgebaa
