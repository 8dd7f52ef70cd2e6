/- The chapter's rows; what is gone through; lines of flights. -/
import Derived.Test.YtnadeehdnmgebaaD
namespace Go.Proofs.Ytnadeehdnmgebaa
open Go Fw
set_option linter.unusedVariables false
set_option linter.unusedSimpArgs false

theorem w64_0 : w64 ((0 : Int) + 0) = 0 := w64_id (by decide) (by decide)
theorem known_eq (k : Nat) (hk : 30000 ≤ k) : law12_known'2 k = some true := by
  have hnum : ∀ v, law12_num k v = some () := fun _ => rfl
  have hnew : net_New k 3 = some (.inl ()) := by
    simp only [net_New, lt1, dec_f (show ¬ (3 : Int) < 1 by omega), dec_f (show ¬ (3 : Int) > 16 by omega), cond_false, Option.bind_some, Bool.false_eq_true, if_false]
  have f0 : allF [] 3 = [] := by decide
  obtain ⟨M1, a1, i1, f1⟩ := Send_F k (Inv.nil (E := 3) (by omega)) 2 1 [97] 0
  rw [f0] at a1 f1
  have g1 : sendF 3 2 1 [97] 0 [] = (0, [⟨2, 1, [97]⟩], 0) := by simp [sendF, badS, lineF, layF]
  rw [g1] at a1 f1
  obtain ⟨M2, a2, i2, f2⟩ := Send_F k i1 1 2 [98] 0
  have g2 : sendF 3 1 2 [98] 0 [⟨2, 1, [97]⟩] = (0, [⟨1, 2, [98]⟩, ⟨2, 1, [97]⟩], 0) := by simp [sendF, badS, lineF, layF, isL, ahead]
  rw [f1] at a2 f2
  simp only [g2] at a2 f2
  obtain ⟨M3, a3, i3, f3⟩ := Send_F k i2 1 3 [99] 0
  have g3 : sendF 3 1 3 [99] 0 [⟨1, 2, [98]⟩, ⟨2, 1, [97]⟩] = (0, [⟨1, 2, [98]⟩, ⟨1, 3, [99]⟩, ⟨2, 1, [97]⟩], 0) := by simp [sendF, badS, lineF, layF, isL, ahead]
  rw [f2] at a3 f3
  simp only [g3] at a3 f3
  have b1 := At_eq k (by omega) i3 0 0
  rw [f3] at b1
  obtain ⟨M4, a4, i4, f4⟩ := Take_F k (by omega) i3 0 2
  rw [f3] at a4 f4
  have g4 : atM [⟨1, 2, [98]⟩, ⟨1, 3, [99]⟩, ⟨2, 1, [97]⟩] 2 = (⟨2, 1, [97]⟩, 0) := rfl
  have g5 : atM [⟨1, 2, [98]⟩, ⟨1, 3, [99]⟩, ⟨2, 1, [97]⟩] 0 = (⟨1, 2, [98]⟩, 0) := rfl
  rw [g4] at a4 f4
  rw [g5] at b1
  have f4' : allF M4 3 = [⟨1, 2, [98]⟩, ⟨1, 3, [99]⟩] := f4
  have b2 := Len_F k i4 0
  obtain ⟨M5, a5, i5, f5⟩ := Double_F k (by omega) i4 0 0
  rw [f4'] at a5 f5 b2
  have g6 : dblF [⟨1, 2, [98]⟩, ⟨1, 3, [99]⟩] 0 = (0, [⟨1, 2, [98]⟩, ⟨1, 2, [98]⟩, ⟨1, 3, [99]⟩]) := by decide
  rw [g6] at a5 f5
  obtain ⟨M6, a6, i6, f6⟩ := Take_F k (by omega) i5 0 1
  rw [f5] at a6 f6
  have g7 : atM [⟨1, 2, [98]⟩, ⟨1, 2, [98]⟩, ⟨1, 3, [99]⟩] 1 = (⟨1, 2, [98]⟩, 0) := rfl
  rw [g7] at a6 f6
  have f6' : allF M6 3 = [⟨1, 2, [98]⟩, ⟨1, 3, [99]⟩] := f6
  obtain ⟨M7, a7, i7, f7⟩ := Drop_F k (by omega) i6 0 9
  rw [f6'] at a7
  have g8 : atM [⟨1, 2, [98]⟩, ⟨1, 3, [99]⟩] 9 = (zeroF, 6) := rfl
  rw [g8] at a7
  obtain ⟨M8, a8, i8, f8⟩ := Send_F k i7 1 1 [120] 0
  have g9 : ∀ F, sendF 3 1 1 [120] 0 F = (2, F, 0) := fun F => by simp [sendF, badS]
  rw [g9] at a8
  simp only [show ((3 : Nat) : Int) = 3 from rfl] at a1 a2 a3 b1 a4 b2 a5 a6 a7 a8
  have hl2 : ((([⟨1, 2, [98]⟩, ⟨1, 3, [99]⟩] : List api_Flight).length : Int) != 2) = false := by decide
  simp only [law12_known'2, hnew, lt1, Option.bind_some, hnum, a1, w64_0, a2, a3, bne_self_eq_false, Bool.false_eq_true, if_false, b1, a4, same_eq, decide_true, Bool.not_true, Bool.not_false, if_true, cond_false, cond_true, b2, hl2, a5, a6, beq_self_eq_true, a7, a8]
/-! ### lines -/
end Go.Proofs.Ytnadeehdnmgebaa
