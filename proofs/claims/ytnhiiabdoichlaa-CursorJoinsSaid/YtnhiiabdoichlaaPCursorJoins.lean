/- The plain law CursorJoins. -/
import Derived.Test.YtnhiiabdoichlaaD
namespace Go.Proofs.Ytnhiiabdoichlaa
open Go Fw
set_option linter.unusedVariables false
set_option linter.unusedSimpArgs false

theorem pure_CursorJoins (y0 : (Vector UInt64 16)) (y1 : (Vector UInt64 16)) (y2 : (Vector UInt64 16)) (f0 : (∀ (i : Nat) (h : i < 16), True)) (f1 : (∀ (i : Nat) (h : i < 16), True)) (f2 : (∀ (i : Nat) (h : i < 16), True)) : ∃ k, law10_CursorJoins k y0 y1 y2 = some true := by
  obtain ⟨k, hk⟩ : ∃ k : Nat, k = 4000 := ⟨_, rfl⟩
  refine ⟨k, ?_⟩
  have cv := fun a b => covers_eq k (show 17 ≤ k by omega) a b
  have h1 := join_eq k (by omega) y0 y1
  have h2 := join_eq k (by omega) y1 y0
  rw [jn_comm y1 y0] at h2
  have c1 : jn (jn y0 y1) y0 = jn y0 y1 := jn_left y0 y1
  have c2 : jn (jn y0 y1) y1 = jn y0 y1 := by rw [jn_comm y0 y1]; exact jn_left y1 y0
  have c3 : jn y2 y0 = y2 → jn y2 y1 = y2 → jn y2 (jn y0 y1) = y2 := fun h h' => by rw [← jn_assoc, h, h']
  have c4 : jn y0 y0 = y0 := vc_ext fun i h => by rw [jn_toNat]; omega
  have c5 : jn y0 y1 = y0 → jn y1 y0 = y1 → y0 = y1 := fun h h' => by rw [← h, jn_comm, h']
  have c6 : jn y0 y1 = y0 → jn y1 y2 = y1 → jn y0 y2 = y0 := fun h h' => by
    conv => lhs; rw [← h]
    rw [jn_assoc, h', h]
  have e1 : decide (jn (jn y0 y1) y0 = jn y0 y1) = true := decide_eq_true c1
  have e2 : decide (jn (jn y0 y1) y1 = jn y0 y1) = true := decide_eq_true c2
  have e4 : decide (jn y0 y0 = y0) = true := decide_eq_true c4
  have kn := known_ok hk
  clear hk
  by_cases p1 : jn y2 y0 = y2 <;> by_cases p2 : jn y2 y1 = y2 <;> by_cases p3 : jn y0 y1 = y0 <;> by_cases p4 : jn y1 y0 = y1 <;> by_cases p5 : jn y1 y2 = y1 <;>
    simp_all [law10_CursorJoins, lt1, eqVc]
end Go.Proofs.Ytnhiiabdoichlaa
