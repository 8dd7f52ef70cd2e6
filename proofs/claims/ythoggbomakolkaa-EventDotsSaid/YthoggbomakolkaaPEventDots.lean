/- The plain law EventDots. -/
import Derived.Test.YthoggbomakolkaaB
namespace Go.Proofs.Ythoggbomakolkaa
open Go Fw
set_option linter.unusedVariables false
set_option linter.unusedSimpArgs false

theorem eqDot {a b : api_Dot} : eq_api_Dot a b = decide (a = b) := by
  rw [Bool.eq_iff_iff, eq_api_Dot_iff, decide_eq_true_eq]
theorem pure_EventDots (y0 : api_Dot) (y1 : api_Dot) (y2 : api_Dot) (y3 : (Vector UInt64 16)) (y4 : (Vector UInt64 16)) (y5 : (Vector UInt64 16)) (f0 : ((IntKind.min .i64 ≤ y0.Region ∧ y0.Region ≤ IntKind.max .i64) ∧ (True ∧ True))) (f1 : ((IntKind.min .i64 ≤ y1.Region ∧ y1.Region ≤ IntKind.max .i64) ∧ (True ∧ True))) (f2 : ((IntKind.min .i64 ≤ y2.Region ∧ y2.Region ≤ IntKind.max .i64) ∧ (True ∧ True))) (f3 : (∀ (i : Nat) (h : i < 16), True)) (f4 : (∀ (i : Nat) (h : i < 16), True)) (f5 : (∀ (i : Nat) (h : i < 16), True)) : ∃ k, law09_EventDots k y0 y1 y2 y3 y4 y5 = some true := by
  refine ⟨1026, ?_⟩
  have hk : (1026 : Nat) ≤ 1026 := Nat.le_refl _
  unfold law09_EventDots
  simp only [less_eq 1026 (by omega), join_eq 1026 (by omega), under_eq, known_eq 1026 hk, eqDot, eqVc, lt1, Option.bind_some, jn_comm y4 y3, jn_left, jn_assoc, decide_true, Bool.not_true, Bool.not_false, Bool.true_and, Bool.and_true, if_true, Bool.false_eq_true, if_false, ite_true, cond_true, cond_false]
  have hu : (decide (mayDot y0 ∧ y0.Count.toNat ≤ at_ (jn y3 y4) y0.Region)) = (decide (mayDot y0 ∧ y0.Count.toNat ≤ at_ y3 y0.Region) || decide (mayDot y0 ∧ y0.Count.toNat ≤ at_ y4 y0.Region)) := by
    rw [Bool.eq_iff_iff, Bool.or_eq_true, decide_eq_true_eq, decide_eq_true_eq, decide_eq_true_eq]
    by_cases h : mayDot y0
    · have h1 := h.1
      have h2 := h.2.1
      have h3 : (y0.Region - 1).toNat < 16 := by omega
      simp only [h, true_and, at_lt h3, jn_toNat]
      omega
    · simp [h]
  rw [hu]
  generalize hp : decide (mayDot y0 ∧ y0.Count.toNat ≤ at_ y3 y0.Region) = p
  generalize hq : decide (mayDot y0 ∧ y0.Count.toNat ≤ at_ y4 y0.Region) = q
  have h1 : ¬ (less y0 y1 ∧ less y1 y0) := fun h => less_irr h.1 h.2
  have h2 : (less y0 y1 ∨ less y1 y0) ↔ ¬ y0 = y1 := by
    constructor
    · rintro h rfl
      exact h.elim (fun h => less_irr h h) (fun h => less_irr h h)
    · intro h
      by_cases a : less y0 y1
      · exact .inl a
      · by_cases b : less y1 y0
        · exact .inr b
        · exact absurd (less_tri a b) h
  have h3 : less y0 y1 → less y1 y2 → less y0 y2 := less_trans
  by_cases a : less y0 y1 <;> by_cases b : less y1 y0 <;> by_cases c : less y1 y2 <;> by_cases d : less y0 y2 <;> by_cases e : y0 = y1 <;> cases p <;> cases q <;> simp_all
end Go.Proofs.Ythoggbomakolkaa
