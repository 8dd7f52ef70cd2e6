/- Frames that are the same. -/
import Derived.Test.YtklnihlchhhhlaaGreatE
namespace Go.Proofs.YtklnihlchhhhlaaGreat
open Go Fw
set_option linter.unusedVariables false
set_option linter.unusedSimpArgs false

/-- Whether a frame's lists are short. -/
def shortF (k : Nat) (f : api_Frame) : Prop := (f.Items.length < k ∧ f.Items.length ≤ 1000000) ∧ (f.Extra.length < k ∧ f.Extra.length ≤ 1000000) ∧ (f.Live.length < k ∧ f.Live.length ≤ 1000000) ∧ (f.Leaves.length < k ∧ f.Leaves.length ≤ 1000000) ∧ (f.Buckets.length < k ∧ f.Buckets.length ≤ 1000000) ∧ (f.Event.Payload.length < k ∧ f.Event.Payload.length ≤ 1000000) ∧ (f.Event.To.length < k ∧ f.Event.To.length ≤ 1000000)
theorem and_some (p q : Prop) [Decidable p] [Decidable q] : (if decide p = true then some (decide q) else some false) = some (decide (p ∧ q)) := by by_cases h : p <;> simp [h]
theorem and_bif (p q : Prop) [Decidable p] [Decidable q] : (bif decide p then decide q else false) = decide (p ∧ q) := by by_cases h : p <;> simp [h]
theorem frameSame_eq (k : Nat) (a b : api_Frame) (h : shortF k a) : frame_Same k a b = some (decide (a = b)) := by
  obtain ⟨h1, h2, h3, h4, h5, h6, h7⟩ := h
  simp only [frame_Same, lt1, dVec, dVec2, beq_dec, eqItems k _ _ h1.1 h1.2, eqDots k _ _ h2.1 h2.2, eqDots k _ _ h3.1 h3.2, eqHashes k _ _ h4.1 h4.2, eqInts k _ _ h5.1 h5.2, eventSame_eq k _ _ h6.1 h7.1 h6.2 h7.2, Option.bind_some]
  clear h1 h2 h3 h4 h5 h6 h7
  obtain ⟨a1, a2, a3, a4, a5, a6, a7, a8, a9, a10, a11, a12, a13⟩ := a
  obtain ⟨b1, b2, b3, b4, b5, b6, b7, b8, b9, b10, b11, b12, b13⟩ := b
  simp only [and_some, and_bif, Option.bind_some, api_Frame.mk.injEq]
  exact congrArg some (decide_eq_decide.2 (by simp only [and_comm, and_left_comm, and_assoc]))
theorem refSame_eq (k : Nat) (a b : api_Frame) (h : shortF k a) : ref11_Same k a b = some (decide (a = b)) := by
  obtain ⟨h1, h2, h3, h4, h5, h6, h7⟩ := h
  simp only [ref11_Same, lt1, dVec, dVec2, beq_dec, ne_len, refItemsSame k _ _ h1.1 h1.2, refDotsSame k _ _ h2.1 h2.2, refDotsSame k _ _ h3.1 h3.2, refEventSame_eq k _ _ h7.1 h7.2, Option.bind_some]
  by_cases hl : a.Leaves.length = b.Leaves.length
  case neg =>
    have : ¬ a = b := fun h => hl (by rw [h])
    simp [hl, this]
  by_cases hb : a.Buckets.length = b.Buckets.length
  case neg =>
    have : ¬ a = b := fun h => hb (by rw [h])
    simp [hl, hb, this]
  have e1 := eq_loop a.Leaves b.Leaves (body := fun s => ref11_Same.b1 k a b s) hl (fun i g1 g2 => by
      simp only [ref11_Same.b1, lt1, dec_t (show (i : Int) < (a.Leaves.length : Int) by omega), if_true, idxL_lt g1, idxL_lt g2, Option.bind_some, dVec, dVec2, beq_dec, sw, w64_succ (show i < 9223372036854775807 by omega)]
      by_cases h : a.Leaves[i] = b.Leaves[i] <;> simp [h]) (by simp only [ref11_Same.b1, lt1, dec_f (show ¬ (a.Leaves.length : Int) < (a.Leaves.length : Int) by omega), Bool.false_eq_true, if_false]) h4.1
  have e2 := eq_loop a.Buckets b.Buckets (body := fun s => ref11_Same.b2 k a b s) hb (fun i g1 g2 => by
      simp only [ref11_Same.b2, lt1, dec_t (show (i : Int) < (a.Buckets.length : Int) by omega), if_true, idxL_lt g1, idxL_lt g2, Option.bind_some, dBne, sw, w64_succ (show i < 9223372036854775807 by omega)]
      by_cases h : a.Buckets[i] = b.Buckets[i] <;> simp [h]) (by simp only [ref11_Same.b2, lt1, dec_f (show ¬ (a.Buckets.length : Int) < (a.Buckets.length : Int) by omega), Bool.false_eq_true, if_false]) h5.1
  simp only [decide_eq_true hl, decide_eq_true hb, Bool.not_true, Bool.false_eq_true, if_false, Option.bind_some, e1, e2]
  by_cases hL : a.Leaves = b.Leaves
  case neg =>
    have : ¬ a = b := fun h => hL (by rw [h])
    simp [hL, this]
  by_cases hB : a.Buckets = b.Buckets
  case neg =>
    have : ¬ a = b := fun h => hB (by rw [h])
    simp [hL, hB, this]
  clear h1 h2 h3 h4 h5 h6 h7 e1 e2 hl hb
  obtain ⟨a1, a2, a3, a4, a5, a6, a7, a8, a9, a10, a11, a12, a13⟩ := a
  obtain ⟨b1, b2, b3, b4, b5, b6, b7, b8, b9, b10, b11, b12, b13⟩ := b
  simp only [api_Frame.mk.injEq]
  simp only at hL hB
  subst hL hB
  simp only [and_some, and_bif, Option.bind_some, true_and]
  exact congrArg some (decide_eq_decide.2 (by simp only [and_comm, and_left_comm, and_assoc]))
end Go.Proofs.YtklnihlchhhhlaaGreat
