/- The plain law FrameLooks. -/
import Derived.Test.YtklnihlchhhhlaaGreatY
import Derived.Test.YtklnihlchhhhlaaGreatJ
import Derived.Test.YtklnihlchhhhlaaGreatU
namespace Go.Proofs.YtklnihlchhhhlaaGreat
open Go Fw
set_option linter.unusedVariables false
set_option linter.unusedSimpArgs false

def allMay (l : List api_Item) : Bool := decide (∀ i ∈ l, mayItem i)
theorem allMay_snoc (l : List api_Item) (i : api_Item) : allMay (l ++ [i]) = (bif allMay l then decide (mayItem i) else false) := by
  simp only [allMay]
  rw [and_bif, decide_eq_decide]
  simp only [List.mem_append, List.mem_singleton]
  exact ⟨fun h => ⟨fun x hx => h x (.inl hx), h _ (.inr rfl)⟩, fun h x hx => hx.elim (h.1 x) fun hx => hx ▸ h.2⟩
theorem looks_loop (k : Nat) (l : List api_Item) (hk : l.length < k) (hl : l.length ≤ 10000) : loopO (fun s => law11_FrameLooks'4.b1 k l s.1 s.2) k (true, (0 : Int)) = some (.inl (decide (∀ i ∈ l, mayItem i))) := by
  refine loop_nat l.length (fun i => allMay (l.take i)) _ ?_ ?_ hk (by simp [allMay])
  · intro i hi
    show law11_FrameLooks'4.b1 k l (allMay (l.take i)) (i : Int) = _
    have e := allMay_snoc (l.take i) l[i]
    rw [← List.take_succ_eq_append_getElem hi] at e
    simp only [law11_FrameLooks'4.b1, lt1, dec_t (show (i : Int) < (l.length : Int) by omega), if_true, idxL_lt hi, Option.bind_some, mayItem_eq, refMayItem_eq, bne_self_eq_false, Bool.false_eq_true, if_false, w64_succ (show i < 9223372036854775807 by omega), e]
    cases allMay (l.take i)
    · simp only [Bool.false_eq_true, if_false, Option.bind_some, cond_false]
    · simp only [if_true, Option.bind_some, refMayItem_eq]
  · show law11_FrameLooks'4.b1 k l (allMay (l.take l.length)) (l.length : Int) = _
    rw [List.take_length]
    simp only [law11_FrameLooks'4.b1, lt1, dec_f (show ¬ (l.length : Int) < (l.length : Int) by omega), Bool.false_eq_true, if_false]
    rfl
theorem name_eq (k : Nat) (n : Int) : ∃ x, frame_Name k n = some x ∧ ref11_Name k n = some x := by
  simp only [frame_Name, ref11_Name, lt1, Option.bind_some, List.length_cons, List.length_nil]
  by_cases h1 : n < 1
  · exact ⟨[], by rw [dec_t h1]; rfl, by rw [dec_t h1]; rfl⟩
  · by_cases h2 : n > 7
    · exact ⟨[], by rw [dec_f h1, dec_t (show n ≥ ((0 + 1 + 1 + 1 + 1 + 1 + 1 + 1 + 1 : Nat) : Int) by omega)]; rfl, by rw [dec_f h1, dec_t h2]; rfl⟩
    · rw [dec_f h1, dec_f (show ¬ n ≥ ((0 + 1 + 1 + 1 + 1 + 1 + 1 + 1 + 1 : Nat) : Int) by omega), dec_f h2]
      obtain ⟨m, rfl⟩ : ∃ m : Nat, n = m := ⟨n.toNat, by omega⟩
      have hm : m < 8 := by omega
      simp only [cond_false, Bool.false_eq_true, if_false]
      rw [idxL_lt (by exact hm)]
      exact ⟨_, rfl, rfl⟩
theorem looks_main (k : Nat) (hk : 30000 ≤ k) (a b : api_Frame) (l : List api_Item) : law11_FrameLooks'4 k a b l = some true := by
  have hkn := known_ok k (by omega)
  obtain ⟨ma, h1, h1'⟩ := much_eq k (by omega) a
  obtain ⟨mb, h2, h2'⟩ := much_eq k (by omega) b
  obtain ⟨ml, h3, h3'⟩ := long_eq k (by omega) l
  simp only [law11_FrameLooks'4, h1, h2, h3, Option.bind_some, lt1]
  cases ma
  case true => simp [hkn]
  cases mb
  case true => simp [hkn, h2]
  cases ml
  case true => simp [hkn, h2, h3]
  have ha := h1' rfl
  have hl := h3' rfl
  obtain ⟨x, n1, n2⟩ := name_eq k a.Kind
  have sa := sizes_short (show 6000 ≤ k by omega) ha
  simp only [Bool.not_false, if_true, h2, h3, Option.bind_some, cond_false, Bool.false_eq_true, if_false, looks_loop k l (by omega) (by omega), ItemBytes_eq k l (by omega) (by omega) (by omega), frameSame_eq k a b sa, refSame_eq k a b sa, frameSame_eq k a a sa, n1, n2, hkn, beq_self_eq_true, cond_true]
  by_cases hm : ∀ i ∈ l, mayItem i
  · rw [if_pos (show l.length ≤ 65535 ∧ ∀ i ∈ l, mayItem i from ⟨by omega, hm⟩)]
    simp only [decide_eq_true hm, if_true, refItems_eq k l (by omega) (by omega) hm, Option.bind_some, bne_self_eq_false, Bool.not_true, Bool.false_eq_true, if_false]
    simp
  · rw [if_neg (show ¬ (l.length ≤ 65535 ∧ ∀ i ∈ l, mayItem i) from fun h => hm h.2)]
    simp only [decide_eq_false hm, Bool.false_eq_true, if_false, Bool.not_false, if_true, Option.bind_some]
    simp
theorem pure_FrameLooks (y0 : api_Frame) (y1 : api_Frame) (y2 : (List api_Item)) (f0 : ((IntKind.min .i64 ≤ y0.Kind ∧ y0.Kind ≤ IntKind.max .i64) ∧ ((IntKind.min .i64 ≤ y0.From ∧ y0.From ≤ IntKind.max .i64) ∧ ((IntKind.min .i64 ≤ y0.To ∧ y0.To ≤ IntKind.max .i64) ∧ ((List.length y0.Items * 56 ≤ 140737488351232 ∧ ∀ z0 ∈ y0.Items, (((IntKind.min .i64 ≤ z0.Dot.Region ∧ z0.Dot.Region ≤ IntKind.max .i64) ∧ (True ∧ True)) ∧ (((List.length z0.Key.Topic ≤ 140737488351232) ∧ ((List.length z0.Key.Device ≤ 140737488351232) ∧ True)) ∧ (True ∧ True)))) ∧ ((((IntKind.min .i64 ≤ y0.Event.ID.Region ∧ y0.Event.ID.Region ≤ IntKind.max .i64) ∧ (True ∧ True)) ∧ ((List.length y0.Event.Topic ≤ 140737488351232) ∧ ((List.length y0.Event.Payload * 1 ≤ 140737488351232 ∧ ∀ z0 ∈ y0.Event.Payload, True) ∧ ((∀ (i : Nat) (h : i < 16), True) ∧ ((List.length y0.Event.To * 32 ≤ 140737488351232 ∧ ∀ z0 ∈ y0.Event.To, (((IntKind.min .i64 ≤ z0.Dot.Region ∧ z0.Dot.Region ≤ IntKind.max .i64) ∧ (True ∧ True)) ∧ ((List.length z0.Device ≤ 140737488351232) ∧ True))) ∧ True))))) ∧ ((∀ (i : Nat) (h : i < 16), True) ∧ ((∀ (i : Nat) (h : i < 16), True) ∧ ((List.length y0.Extra * 16 ≤ 140737488351232 ∧ ∀ z0 ∈ y0.Extra, ((IntKind.min .i64 ≤ z0.Region ∧ z0.Region ≤ IntKind.max .i64) ∧ (True ∧ True))) ∧ ((List.length y0.Live * 16 ≤ 140737488351232 ∧ ∀ z0 ∈ y0.Live, ((IntKind.min .i64 ≤ z0.Region ∧ z0.Region ≤ IntKind.max .i64) ∧ (True ∧ True))) ∧ ((∀ (i : Nat) (h : i < 32), True) ∧ ((List.length y0.Leaves * 32 ≤ 140737488351232 ∧ ∀ z0 ∈ y0.Leaves, (∀ (i : Nat) (h : i < 32), True)) ∧ ((List.length y0.Buckets * 8 ≤ 140737488351232 ∧ ∀ z0 ∈ y0.Buckets, (IntKind.min .i64 ≤ z0 ∧ z0 ≤ IntKind.max .i64)) ∧ (True ∧ True)))))))))))))) (f1 : ((IntKind.min .i64 ≤ y1.Kind ∧ y1.Kind ≤ IntKind.max .i64) ∧ ((IntKind.min .i64 ≤ y1.From ∧ y1.From ≤ IntKind.max .i64) ∧ ((IntKind.min .i64 ≤ y1.To ∧ y1.To ≤ IntKind.max .i64) ∧ ((List.length y1.Items * 56 ≤ 140737488351232 ∧ ∀ z0 ∈ y1.Items, (((IntKind.min .i64 ≤ z0.Dot.Region ∧ z0.Dot.Region ≤ IntKind.max .i64) ∧ (True ∧ True)) ∧ (((List.length z0.Key.Topic ≤ 140737488351232) ∧ ((List.length z0.Key.Device ≤ 140737488351232) ∧ True)) ∧ (True ∧ True)))) ∧ ((((IntKind.min .i64 ≤ y1.Event.ID.Region ∧ y1.Event.ID.Region ≤ IntKind.max .i64) ∧ (True ∧ True)) ∧ ((List.length y1.Event.Topic ≤ 140737488351232) ∧ ((List.length y1.Event.Payload * 1 ≤ 140737488351232 ∧ ∀ z0 ∈ y1.Event.Payload, True) ∧ ((∀ (i : Nat) (h : i < 16), True) ∧ ((List.length y1.Event.To * 32 ≤ 140737488351232 ∧ ∀ z0 ∈ y1.Event.To, (((IntKind.min .i64 ≤ z0.Dot.Region ∧ z0.Dot.Region ≤ IntKind.max .i64) ∧ (True ∧ True)) ∧ ((List.length z0.Device ≤ 140737488351232) ∧ True))) ∧ True))))) ∧ ((∀ (i : Nat) (h : i < 16), True) ∧ ((∀ (i : Nat) (h : i < 16), True) ∧ ((List.length y1.Extra * 16 ≤ 140737488351232 ∧ ∀ z0 ∈ y1.Extra, ((IntKind.min .i64 ≤ z0.Region ∧ z0.Region ≤ IntKind.max .i64) ∧ (True ∧ True))) ∧ ((List.length y1.Live * 16 ≤ 140737488351232 ∧ ∀ z0 ∈ y1.Live, ((IntKind.min .i64 ≤ z0.Region ∧ z0.Region ≤ IntKind.max .i64) ∧ (True ∧ True))) ∧ ((∀ (i : Nat) (h : i < 32), True) ∧ ((List.length y1.Leaves * 32 ≤ 140737488351232 ∧ ∀ z0 ∈ y1.Leaves, (∀ (i : Nat) (h : i < 32), True)) ∧ ((List.length y1.Buckets * 8 ≤ 140737488351232 ∧ ∀ z0 ∈ y1.Buckets, (IntKind.min .i64 ≤ z0 ∧ z0 ≤ IntKind.max .i64)) ∧ (True ∧ True)))))))))))))) (f2 : (List.length y2 * 56 ≤ 140737488351232 ∧ ∀ z0 ∈ y2, (((IntKind.min .i64 ≤ z0.Dot.Region ∧ z0.Dot.Region ≤ IntKind.max .i64) ∧ (True ∧ True)) ∧ (((List.length z0.Key.Topic ≤ 140737488351232) ∧ ((List.length z0.Key.Device ≤ 140737488351232) ∧ True)) ∧ (True ∧ True))))) : ∃ k, law11_FrameLooks'4 k y0 y1 y2 = some true := by
  exact ⟨30000, looks_main 30000 (by omega) y0 y1 y2⟩
end Go.Proofs.YtklnihlchhhhlaaGreat
