/- What ItemBytes computes. -/
import Derived.Test.YtklnihlchhhhlaaGreatA
namespace Go.Proofs.YtklnihlchhhhlaaGreat
open Go Fw
set_option linter.unusedVariables false
set_option linter.unusedSimpArgs false

theorem ctxMay_eq (k : Nat) (d : api_Dot) : ctx_May k d = some (decide (mayDot d)) := by
  simp only [ctx_May, lt1, mayDot, UInt64.le_iff_toNat_le, show (1 : UInt64).toNat = 1 from rfl, show (4611686018427387904 : UInt64).toNat = 4611686018427387904 from rfl, ge_iff_le]
  by_cases h1 : 1 ≤ d.Region <;> by_cases h2 : d.Region ≤ 16 <;> by_cases h3 : 1 ≤ d.Count.toNat <;> simp [h1, h2, h3]
theorem mayName_eq (k : Nat) (s : List UInt8) : event_MayName k s = some (decide (mayName s)) := by
  simp only [event_MayName, lt1, mayName, Option.bind_some, Option.some.injEq]
  by_cases h1 : 1 ≤ s.length
  · by_cases h2 : s.length ≤ 32
    · rw [dec_t (show (s.length : Int) ≥ 1 by omega), dec_t (show (s.length : Int) ≤ 32 by omega)]; simp [h1, h2]
    · rw [dec_t (show (s.length : Int) ≥ 1 by omega), dec_f (show ¬ (s.length : Int) ≤ 32 by omega)]; simp [h1, h2]
  · rw [dec_f (show ¬ (s.length : Int) ≥ 1 by omega)]; simp [h1]
theorem mayItem_eq (k : Nat) (i : api_Item) : frame_MayItem k i = some (decide (mayItem i)) := by
  simp only [frame_MayItem, ctxMay_eq, mayName_eq, lt1, Option.bind_some]
  by_cases hg : i.Gone = true
  · by_cases h1 : mayDot i.Dot
    · by_cases h2 : i.Key = ⟨[], []⟩
      · have e := (eq_api_Key_iff (x := i.Key) (y := ⟨[], []⟩)).2 h2
        have hm : mayItem i := ⟨h1, by rw [if_pos hg]; exact h2⟩
        rw [if_pos hg, e, decide_eq_true hm, decide_eq_true h1]; rfl
      · have e : eq_api_Key i.Key ⟨[], []⟩ = false := by
          rw [← Bool.not_eq_true, eq_api_Key_iff]; exact h2
        have hm : ¬ mayItem i := fun h => by have := h.2; rw [if_pos hg] at this; exact h2 this
        rw [if_pos hg, e, decide_eq_false hm, decide_eq_true h1]; rfl
    · have hm : ¬ mayItem i := fun h => h1 h.1
      rw [if_pos hg, decide_eq_false hm, decide_eq_false h1]; rfl
  · rw [if_neg hg]
    by_cases h1 : mayDot i.Dot
    · by_cases h2 : mayName i.Key.Topic
      · by_cases h3 : mayName i.Key.Device
        · have hm : mayItem i := ⟨h1, by rw [if_neg hg]; exact ⟨h2, h3⟩⟩
          rw [decide_eq_true hm, decide_eq_true h1, decide_eq_true h2, decide_eq_true h3]; rfl
        · have hm : ¬ mayItem i := fun h => by have := h.2; rw [if_neg hg] at this; exact h3 this.2
          rw [decide_eq_false hm, decide_eq_true h1, decide_eq_true h2, decide_eq_false h3]; rfl
      · have hm : ¬ mayItem i := fun h => by have := h.2; rw [if_neg hg] at this; exact h2 this.1
        rw [decide_eq_false hm, decide_eq_true h1, decide_eq_false h2]; rfl
    · have hm : ¬ mayItem i := fun h => h1 h.1
      rw [decide_eq_false hm, decide_eq_false h1]; rfl
theorem contains_eq (k : Nat) (l : List api_Item) (hk : l.length < k) (hl : l.length ≤ 1000000) : slices_ContainsFuncapi_Item_api_Item'2 k l = some (!decide (∀ i ∈ l, mayItem i)) := by
  have hlp := loop_inv (body := fun s : Int => slices_IndexFuncapi_Item_api_Item'2.b1 k l s) (I := fun s => 0 ≤ s ∧ s ≤ (l.length : Int) ∧ ∀ j (h : j < l.length), (j : Int) < s → mayItem l[j]) (m := fun s => ((l.length : Int) - s).toNat)
    (fun r => (r = .inl () ∧ ∀ i ∈ l, mayItem i) ∨ ∃ n : Nat, r = .inr (n : Int) ∧ ¬ ∀ i ∈ l, mayItem i) ?_ k (0 : Int) ⟨Int.le_refl _, by omega, fun j h h0 => by omega⟩ (by omega)
  · obtain ⟨r, h1, h2⟩ := hlp
    rcases h2 with ⟨rfl, h2⟩ | ⟨n, rfl, h2⟩
    · simp only [slices_ContainsFuncapi_Item_api_Item'2, slices_IndexFuncapi_Item_api_Item'2, h1, Option.bind_some, lt1, decide_eq_true h2]; rfl
    · simp only [slices_ContainsFuncapi_Item_api_Item'2, slices_IndexFuncapi_Item_api_Item'2, h1, Option.bind_some, lt1, decide_eq_false h2, dec_t (show (n : Int) ≥ 0 by omega)]; rfl
  · rintro s ⟨h0, h1, h2⟩
    obtain ⟨i, rfl⟩ : ∃ i : Nat, s = i := ⟨s.toNat, by omega⟩
    by_cases hlt : i < l.length
    · by_cases hm : mayItem l[i]
      · left
        simp only [slices_IndexFuncapi_Item_api_Item'2.b1, frame_ItemBytes_1, mayItem_eq, lt1, dec_t (show (i : Int) < (l.length : Int) by omega), if_true, idxL_lt hlt, Option.bind_some, decide_eq_true hm, Bool.not_true, Bool.false_eq_true, if_false, w64_succ (show i < 9223372036854775807 by omega)]
        refine ⟨_, rfl, ⟨by omega, by omega, fun j hj hji => ?_⟩, by omega⟩
        by_cases hji' : j = i
        · subst hji'; exact hm
        · exact h2 j hj (by omega)
      · right
        simp only [slices_IndexFuncapi_Item_api_Item'2.b1, frame_ItemBytes_1, mayItem_eq, lt1, dec_t (show (i : Int) < (l.length : Int) by omega), if_true, idxL_lt hlt, Option.bind_some, decide_eq_false hm, Bool.not_false]
        exact ⟨_, rfl, .inr ⟨i, rfl, fun h => hm (h _ (List.getElem_mem hlt))⟩⟩
    · right
      simp only [slices_IndexFuncapi_Item_api_Item'2.b1, lt1, dec_f (show ¬ (i : Int) < (l.length : Int) by omega), Bool.false_eq_true, if_false]
      refine ⟨_, rfl, .inl ⟨rfl, fun x hx => ?_⟩⟩
      obtain ⟨j, hj, rfl⟩ := List.getElem_of_mem hx
      exact h2 j hj (by omega)
theorem ofI_toNat {m : Nat} (h : m < 18446744073709551616) : (UN.ofI (m : Int) : UInt64).toNat = m := by
  show (UInt64.ofNat ((m : Int) % ((2 ^ 64 : Nat) : Int)).toNat).toNat = _
  have : ((m : Int) % ((2 ^ 64 : Nat) : Int)).toNat = m := by omega
  rw [this]
  exact UInt64.toNat_ofNat_of_lt' h
theorem wPut2 (k : Nat) (hk : 9 ≤ k) {n : Nat} (h : n ≤ 65535) : wire_Put k (UN.ofI (n : Int) : UInt64) 2 = some (put n 2, 0) := by
  have e : (UN.ofI (n : Int) : UInt64).toNat = n := ofI_toNat (by omega)
  have hr : room (UN.ofI (n : Int) : UInt64) 2 := ⟨by omega, by omega, by rw [e]; exact Nat.lt_of_le_of_lt h (by decide)⟩
  rw [wirePut_eq k hk _ 2 (by omega) (by omega), if_pos hr, e]; rfl
theorem ItemBytes_eq (k : Nat) (l : List api_Item) (hk : l.length < k) (hk9 : 9 ≤ k) (hl : l.length ≤ 1000000) : frame_ItemBytes k l = some (if l.length ≤ 65535 ∧ ∀ i ∈ l, mayItem i then itemsB l else []) := by
  simp only [frame_ItemBytes, lt1]
  by_cases h1 : l.length ≤ 65535
  · have hc := contains_eq k l hk hl
    simp only [dec_f (show ¬ (l.length : Int) > 65535 by omega), Bool.not_false, if_true, hc, Option.bind_some, cond_false]
    by_cases h2 : ∀ i ∈ l, mayItem i
    · have hlp : loopO (fun s => frame_writer_items'4.b1 k l s.1 s.2) k (put l.length 2, (0 : Int)) = some (itemsB l) := by
        refine loop_g (f := fun i => (put l.length 2 ++ (l.take i).flatMap itemB, ((i : Nat) : Int))) l.length _ (by simp) ?_ ?_ hk
        · intro i hi
          have h3 := items_len (l.take i) fun x hx => h2 x (List.mem_of_mem_take hx)
          have h4 : (l.take i).length ≤ 65535 := by rw [List.length_take]; omega
          show frame_writer_items'4.b1 k l (put l.length 2 ++ (l.take i).flatMap itemB) (i : Int) = _
          rw [items_step k hk9 l i hi (h2 _ (List.getElem_mem hi)) h1 _ (by rw [List.length_append, put_length]; omega)]
          rw [List.take_succ_eq_append_getElem hi, List.flatMap_append]
          simp
        · show frame_writer_items'4.b1 k l (put l.length 2 ++ (l.take l.length).flatMap itemB) (l.length : Int) = _
          rw [List.take_length]
          simp only [frame_writer_items'4.b1, lt1, dec_f (show ¬ (l.length : Int) < (l.length : Int) by omega), Bool.false_eq_true, if_false]
          rfl
      have hp := wPut2 k hk9 h1
      have ha : apL 1 ([] : List UInt8) (put l.length 2) = some (put l.length 2) := by rw [ap1 (by rw [put_length]; simp)]; rfl
      simp only [decide_eq_true h2, Bool.not_true, Bool.false_eq_true, if_false, frame_writer_items'4, lt1, hp, Option.bind_some, frame_writer_put'4, ha, hlp]
      rw [if_pos ⟨h1, h2⟩]
    · simp only [decide_eq_false h2, Bool.not_false, if_true]
      rw [if_neg fun h => h2 h.2]
  · simp only [dec_t (show (l.length : Int) > 65535 by omega), Bool.not_true, Bool.false_eq_true, if_false, Option.bind_some, cond_true, if_true]
    rw [if_neg fun h => h1 h.1]
end Go.Proofs.YtklnihlchhhhlaaGreat
