/- Lists, events and frames that are the same. -/
import Derived.Test.YtklnihlchhhhlaaGreatO
namespace Go.Proofs.YtklnihlchhhhlaaGreat
open Go Fw
set_option linter.unusedVariables false
set_option linter.unusedSimpArgs false

theorem dEq {α : Type} [DecidableEq α] (f : α → α → Bool) (hf : ∀ x y, f x y = true ↔ x = y) (x y : α) : f x y = decide (x = y) := by
  rw [Bool.eq_iff_iff, hf, decide_eq_true_iff]
theorem dItem (x y : api_Item) : eq_api_Item x y = decide (x = y) := dEq _ (fun _ _ => eq_api_Item_iff) x y
theorem dDot (x y : api_Dot) : eq_api_Dot x y = decide (x = y) := dEq _ (fun _ _ => eq_api_Dot_iff) x y
theorem dDest (x y : api_Dest) : eq_api_Dest x y = decide (x = y) := dEq _ (fun _ _ => eq_api_Dest_iff) x y
theorem dVec {α : Type} [BEq α] [LawfulBEq α] [DecidableEq α] {n : Nat} (x y : Vector α n) : eqV (fun x y => x == y) x y = decide (x = y) := dEq _ (fun _ _ => eqV_iff fun _ _ => beq_iff_eq) x y
theorem dVec2 {α : Type} [DecidableEq α] {n : Nat} (x y : Vector α n) : eqV (fun x y => decide (x = y)) x y = decide (x = y) := dEq _ (fun _ _ => eqV_iff fun _ _ => decide_eq_true_iff) x y
theorem dBne {α : Type} [DecidableEq α] (x y : α) : (x != y) = !decide (x = y) := by simp only [bne, beq_dec]
theorem eq_loop {α : Type} [DecidableEq α] (a b : List α) {body : Int → Option (Int ⊕ (Unit ⊕ Bool))} (hl : a.length = b.length) (hs : ∀ i (h : i < a.length) (h2 : i < b.length), body (i : Int) = some (if a[i] = b[i] then .inl ((i + 1 : Nat) : Int) else .inr (.inr false))) (he : body (a.length : Int) = some (.inr (.inl ()))) {k : Nat} (hk : a.length < k) : loopO body k (0 : Int) = some (if a = b then .inl () else .inr false) := by
  rw [loop_all (b := false) a.length (fun i => a[i]? = b[i]?) ?_ he hk]
  · have : (∀ i, i < a.length → a[i]? = b[i]?) ↔ a = b := by
      constructor
      · intro h
        refine List.ext_getElem? fun i => ?_
        by_cases hi : i < a.length
        · exact h i hi
        · rw [List.getElem?_eq_none (by omega), List.getElem?_eq_none (by omega)]
      · rintro rfl i _; rfl
    by_cases h : a = b
    · rw [if_pos (this.2 h), if_pos h]
    · rw [if_neg (fun hh => h (this.1 hh)), if_neg h]
  · intro i hi
    rw [hs i hi (by omega)]
    have : (a[i]? = b[i]?) ↔ a[i] = b[i] := by rw [List.getElem?_eq_getElem hi, List.getElem?_eq_getElem (by omega)]; simp
    by_cases h : a[i] = b[i]'(by omega)
    · rw [if_pos h, if_pos (this.2 h)]
    · rw [if_neg h, if_neg (fun hh => h (this.1 hh))]
theorem ne_len {α β : Type} (a : List α) (b : List β) : ((a.length : Int) != (b.length : Int)) = !decide (a.length = b.length) := by
  rw [dBne]; by_cases h : a.length = b.length
  · simp [h]
  · have : ¬ (a.length : Int) = (b.length : Int) := by omega
    simp [h, this]
theorem sw {b : Prop} [Decidable b] {α : Type} (x y : α) : (if (!decide b) = true then x else y) = if b then y else x := by by_cases h : b <;> simp [h]
theorem eqItems (k : Nat) (a b : List (api_Item)) (hk : a.length < k) (hm : a.length ≤ 1000000) : slices_Equalapi_Item_api_Item k a b = some (decide (a = b)) := by
  simp only [slices_Equalapi_Item_api_Item, lt1, ne_len]
  by_cases hl : a.length = b.length
  · have h := eq_loop a b (body := fun s => slices_Equalapi_Item_api_Item.b1 k a b s) hl (fun i h1 h2 => by
      simp only [slices_Equalapi_Item_api_Item.b1, lt1, dec_t (show (i : Int) < (a.length : Int) by omega), if_true, idxL_lt h1, idxL_lt h2, Option.bind_some, dItem, dDot, dDest, dVec, dVec2, dBne, beq_dec, sw, w64_succ (show i < 9223372036854775807 by omega)]
      by_cases h : a[i] = b[i] <;> simp [h]) (by simp only [slices_Equalapi_Item_api_Item.b1, lt1, dec_f (show ¬ (a.length : Int) < (a.length : Int) by omega), Bool.false_eq_true, if_false]) hk
    simp only [decide_eq_true hl, Bool.not_true, Bool.false_eq_true, if_false, h, Option.bind_some]
    by_cases hab : a = b <;> simp [hab]
  · have : ¬ a = b := fun h => hl (by rw [h])
    simp [hl, this]
theorem eqDots (k : Nat) (a b : List (api_Dot)) (hk : a.length < k) (hm : a.length ≤ 1000000) : slices_Equalapi_Dot_api_Dot k a b = some (decide (a = b)) := by
  simp only [slices_Equalapi_Dot_api_Dot, lt1, ne_len]
  by_cases hl : a.length = b.length
  · have h := eq_loop a b (body := fun s => slices_Equalapi_Dot_api_Dot.b1 k a b s) hl (fun i h1 h2 => by
      simp only [slices_Equalapi_Dot_api_Dot.b1, lt1, dec_t (show (i : Int) < (a.length : Int) by omega), if_true, idxL_lt h1, idxL_lt h2, Option.bind_some, dItem, dDot, dDest, dVec, dVec2, dBne, beq_dec, sw, w64_succ (show i < 9223372036854775807 by omega)]
      by_cases h : a[i] = b[i] <;> simp [h]) (by simp only [slices_Equalapi_Dot_api_Dot.b1, lt1, dec_f (show ¬ (a.length : Int) < (a.length : Int) by omega), Bool.false_eq_true, if_false]) hk
    simp only [decide_eq_true hl, Bool.not_true, Bool.false_eq_true, if_false, h, Option.bind_some]
    by_cases hab : a = b <;> simp [hab]
  · have : ¬ a = b := fun h => hl (by rw [h])
    simp [hl, this]
theorem eqHashes (k : Nat) (a b : List (Vector UInt8 32)) (hk : a.length < k) (hm : a.length ≤ 1000000) : slices_Equalapi_Hash_api_Hash k a b = some (decide (a = b)) := by
  simp only [slices_Equalapi_Hash_api_Hash, lt1, ne_len]
  by_cases hl : a.length = b.length
  · have h := eq_loop a b (body := fun s => slices_Equalapi_Hash_api_Hash.b1 k a b s) hl (fun i h1 h2 => by
      simp only [slices_Equalapi_Hash_api_Hash.b1, lt1, dec_t (show (i : Int) < (a.length : Int) by omega), if_true, idxL_lt h1, idxL_lt h2, Option.bind_some, dItem, dDot, dDest, dVec, dVec2, dBne, beq_dec, sw, w64_succ (show i < 9223372036854775807 by omega)]
      by_cases h : a[i] = b[i] <;> simp [h]) (by simp only [slices_Equalapi_Hash_api_Hash.b1, lt1, dec_f (show ¬ (a.length : Int) < (a.length : Int) by omega), Bool.false_eq_true, if_false]) hk
    simp only [decide_eq_true hl, Bool.not_true, Bool.false_eq_true, if_false, h, Option.bind_some]
    by_cases hab : a = b <;> simp [hab]
  · have : ¬ a = b := fun h => hl (by rw [h])
    simp [hl, this]
theorem eqInts (k : Nat) (a b : List (Int)) (hk : a.length < k) (hm : a.length ≤ 1000000) : slices_Equalint_int k a b = some (decide (a = b)) := by
  simp only [slices_Equalint_int, lt1, ne_len]
  by_cases hl : a.length = b.length
  · have h := eq_loop a b (body := fun s => slices_Equalint_int.b1 k a b s) hl (fun i h1 h2 => by
      simp only [slices_Equalint_int.b1, lt1, dec_t (show (i : Int) < (a.length : Int) by omega), if_true, idxL_lt h1, idxL_lt h2, Option.bind_some, dItem, dDot, dDest, dVec, dVec2, dBne, beq_dec, sw, w64_succ (show i < 9223372036854775807 by omega)]
      by_cases h : a[i] = b[i] <;> simp [h]) (by simp only [slices_Equalint_int.b1, lt1, dec_f (show ¬ (a.length : Int) < (a.length : Int) by omega), Bool.false_eq_true, if_false]) hk
    simp only [decide_eq_true hl, Bool.not_true, Bool.false_eq_true, if_false, h, Option.bind_some]
    by_cases hab : a = b <;> simp [hab]
  · have : ¬ a = b := fun h => hl (by rw [h])
    simp [hl, this]
theorem eqBytes (k : Nat) (a b : List (UInt8)) (hk : a.length < k) (hm : a.length ≤ 1000000) : slices_Equalbyte_byte k a b = some (decide (a = b)) := by
  simp only [slices_Equalbyte_byte, lt1, ne_len]
  by_cases hl : a.length = b.length
  · have h := eq_loop a b (body := fun s => slices_Equalbyte_byte.b1 k a b s) hl (fun i h1 h2 => by
      simp only [slices_Equalbyte_byte.b1, lt1, dec_t (show (i : Int) < (a.length : Int) by omega), if_true, idxL_lt h1, idxL_lt h2, Option.bind_some, dItem, dDot, dDest, dVec, dVec2, dBne, beq_dec, sw, w64_succ (show i < 9223372036854775807 by omega)]
      by_cases h : a[i] = b[i] <;> simp [h]) (by simp only [slices_Equalbyte_byte.b1, lt1, dec_f (show ¬ (a.length : Int) < (a.length : Int) by omega), Bool.false_eq_true, if_false]) hk
    simp only [decide_eq_true hl, Bool.not_true, Bool.false_eq_true, if_false, h, Option.bind_some]
    by_cases hab : a = b <;> simp [hab]
  · have : ¬ a = b := fun h => hl (by rw [h])
    simp [hl, this]
theorem eqDests (k : Nat) (a b : List (api_Dest)) (hk : a.length < k) (hm : a.length ≤ 1000000) : slices_Equalapi_Dest_api_Dest k a b = some (decide (a = b)) := by
  simp only [slices_Equalapi_Dest_api_Dest, lt1, ne_len]
  by_cases hl : a.length = b.length
  · have h := eq_loop a b (body := fun s => slices_Equalapi_Dest_api_Dest.b1 k a b s) hl (fun i h1 h2 => by
      simp only [slices_Equalapi_Dest_api_Dest.b1, lt1, dec_t (show (i : Int) < (a.length : Int) by omega), if_true, idxL_lt h1, idxL_lt h2, Option.bind_some, dItem, dDot, dDest, dVec, dVec2, dBne, beq_dec, sw, w64_succ (show i < 9223372036854775807 by omega)]
      by_cases h : a[i] = b[i] <;> simp [h]) (by simp only [slices_Equalapi_Dest_api_Dest.b1, lt1, dec_f (show ¬ (a.length : Int) < (a.length : Int) by omega), Bool.false_eq_true, if_false]) hk
    simp only [decide_eq_true hl, Bool.not_true, Bool.false_eq_true, if_false, h, Option.bind_some]
    by_cases hab : a = b <;> simp [hab]
  · have : ¬ a = b := fun h => hl (by rw [h])
    simp [hl, this]
theorem refItemsSame (k : Nat) (a b : List (api_Item)) (hk : a.length < k) (hm : a.length ≤ 1000000) : ref11_sameItems k a b = some (decide (a = b)) := by
  simp only [ref11_sameItems, lt1, ne_len]
  by_cases hl : a.length = b.length
  · have h := eq_loop a b (body := fun s => ref11_sameItems.b1 k a b s) hl (fun i h1 h2 => by
      simp only [ref11_sameItems.b1, lt1, dec_t (show (i : Int) < (a.length : Int) by omega), if_true, idxL_lt h1, idxL_lt h2, Option.bind_some, dItem, dDot, dDest, dVec, dVec2, dBne, beq_dec, sw, w64_succ (show i < 9223372036854775807 by omega)]
      by_cases h : a[i] = b[i] <;> simp [h]) (by simp only [ref11_sameItems.b1, lt1, dec_f (show ¬ (a.length : Int) < (a.length : Int) by omega), Bool.false_eq_true, if_false]) hk
    simp only [decide_eq_true hl, Bool.not_true, Bool.false_eq_true, if_false, h, Option.bind_some]
    by_cases hab : a = b <;> simp [hab]
  · have : ¬ a = b := fun h => hl (by rw [h])
    simp [hl, this]
theorem refDotsSame (k : Nat) (a b : List (api_Dot)) (hk : a.length < k) (hm : a.length ≤ 1000000) : ref11_sameDots k a b = some (decide (a = b)) := by
  simp only [ref11_sameDots, lt1, ne_len]
  by_cases hl : a.length = b.length
  · have h := eq_loop a b (body := fun s => ref11_sameDots.b1 k a b s) hl (fun i h1 h2 => by
      simp only [ref11_sameDots.b1, lt1, dec_t (show (i : Int) < (a.length : Int) by omega), if_true, idxL_lt h1, idxL_lt h2, Option.bind_some, dItem, dDot, dDest, dVec, dVec2, dBne, beq_dec, sw, w64_succ (show i < 9223372036854775807 by omega)]
      by_cases h : a[i] = b[i] <;> simp [h]) (by simp only [ref11_sameDots.b1, lt1, dec_f (show ¬ (a.length : Int) < (a.length : Int) by omega), Bool.false_eq_true, if_false]) hk
    simp only [decide_eq_true hl, Bool.not_true, Bool.false_eq_true, if_false, h, Option.bind_some]
    by_cases hab : a = b <;> simp [hab]
  · have : ¬ a = b := fun h => hl (by rw [h])
    simp [hl, this]
theorem eventSame_eq (k : Nat) (a b : api_Event) (h1 : a.Payload.length < k) (h2 : a.To.length < k) (h3 : a.Payload.length ≤ 1000000) (h4 : a.To.length ≤ 1000000) : event_Same k a b = some (decide (a = b)) := by
  simp only [event_Same, lt1, dDot, dVec, dVec2, beq_dec, eqBytes k _ _ h1 h3, eqDests k _ _ h2 h4, Option.bind_some]
  obtain ⟨a1, a2, a3, a4, a5⟩ := a
  obtain ⟨b1, b2, b3, b4, b5⟩ := b
  simp only [api_Event.mk.injEq]
  by_cases e1 : a1 = b1 <;> by_cases e2 : a2 = b2 <;> by_cases e3 : a3 = b3 <;> by_cases e4 : a4 = b4 <;> simp [e1, e2, e3, e4]
theorem refEventSame_eq (k : Nat) (a b : api_Event) (h2 : a.To.length < k) (h4 : a.To.length ≤ 1000000) : ref09_Same k a b = some (decide (a = b)) := by
  simp only [ref09_Same, lt1, dDot, dVec, dVec2, dBne, ne_len, Option.bind_some]
  obtain ⟨a1, a2, a3, a4, a5⟩ := a
  obtain ⟨b1, b2, b3, b4, b5⟩ := b
  simp only [api_Event.mk.injEq]
  by_cases e1 : a1 = b1 <;> by_cases e2 : a2 = b2 <;> by_cases e3 : a3 = b3 <;> by_cases e4 : a4 = b4 <;> try (simp [e1, e2, e3, e4]; done)
  by_cases hl : a5.length = b5.length
  · have h := eq_loop a5 b5 (body := fun s => ref09_Same.b1 k ⟨a1, a2, a3, a4, a5⟩ ⟨b1, b2, b3, b4, b5⟩ s) hl (fun i h1 h2 => by
      simp only [ref09_Same.b1, lt1, dec_t (show (i : Int) < (a5.length : Int) by omega), if_true, idxL_lt h1, idxL_lt h2, Option.bind_some, dDest, sw, w64_succ (show i < 9223372036854775807 by simp only at h4; omega)]
      by_cases h : a5[i] = b5[i] <;> simp [h]) (by simp only [ref09_Same.b1, lt1, dec_f (show ¬ (a5.length : Int) < (a5.length : Int) by omega), Bool.false_eq_true, if_false]) h2
    simp only [e1, e2, e3, e4, hl, decide_true, Bool.not_true, Bool.false_eq_true, if_false, true_and, Option.bind_some]
    subst e1 e2 e3 e4
    simp only [h, Option.bind_some]
    by_cases hab : a5 = b5 <;> simp [hab]
  · have : ¬ a5 = b5 := fun h => hl (by rw [h])
    have hl' : ¬ (a5.length : Int) = (b5.length : Int) := by omega
    simp [e1, e2, e3, e4, hl, hl', this]
end Go.Proofs.YtklnihlchhhhlaaGreat
