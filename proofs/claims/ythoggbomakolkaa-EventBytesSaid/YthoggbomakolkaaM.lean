/- Which events may be: the program and the reference say so alike. -/
import Derived.Test.YthoggbomakolkaaR
namespace Go.Proofs.Ythoggbomakolkaa
open Go Fw
set_option linter.unusedVariables false
set_option linter.unusedSimpArgs false

def destAt (to : List api_Dest) (i : Nat) (h : i < to.length) : Prop := mayDot to[i].Dot ∧ mayName to[i].Device ∧ (i = 0 ∨ less (to[i-1]'(by omega)).Dot to[i].Dot)
instance (to : List api_Dest) (i : Nat) (h : i < to.length) : Decidable (destAt to i h) := inferInstanceAs (Decidable (_ ∧ _ ∧ _))
def okTo (to : List api_Dest) : Prop := ∀ i (h : i < to.length), destAt to i h
instance (to : List api_Dest) : Decidable (okTo to) := inferInstanceAs (Decidable (∀ i (h : i < to.length), destAt to i h))
def may (e : api_Event) : Prop := core e ∧ okTo e.To
instance (e : api_Event) : Decidable (may e) := inferInstanceAs (Decidable (_ ∧ _))
theorem mayLoop (k : Nat) (e : api_Event) (hk : 3 ≤ k) (hl : e.To.length < k) (hl2 : e.To.length ≤ 1000000) : loopO (fun s => event_May.b1 k e s.1 s.2) k (true, (0 : Int)) = some (decide (okTo e.To)) := by
  have := loop_inv (body := fun s => event_May.b1 k e s.1 s.2) (I := fun s => s.1 = true ∧ 0 ≤ s.2 ∧ s.2 ≤ e.To.length ∧ ∀ i (h : i < e.To.length), (i : Int) < s.2 → destAt e.To i h) (m := fun s => (e.To.length - s.2).toNat) (fun t => t = decide (okTo e.To)) ?_ k (true, (0 : Int)) ⟨rfl, Int.le_refl _, by show (0 : Int) ≤ _; omega, fun i h h2 => by simp only at h2; omega⟩ (by show ((e.To.length : Int) - 0).toNat < k; omega)
  · obtain ⟨t, h1, rfl⟩ := this
    exact h1
  · rintro ⟨x, s⟩ ⟨hx, h0, h1, h2⟩
    simp only at hx h0 h1 h2
    subst hx
    by_cases hlt : s < e.To.length
    · obtain ⟨i, rfl⟩ : ∃ i : Nat, s = i := ⟨s.toNat, by omega⟩
      have hi : i < e.To.length := by omega
      have hw : w64 ((i : Int) + 1) = ((i + 1 : Nat) : Int) := w64_succ (by omega)
      have hval : (Option.bind (event_MayDot k e.To[i].Dot) fun v_23 =>
          if v_23 = true then
            Option.bind (event_MayName k e.To[i].Device) fun v_24 =>
            lt1 (((i : Int) == (0 : Int))) fun v_25 =>
            if v_24 = true then
              if v_25 = true then some true
              else
                lt1 (w64 ((i : Int) - (1 : Int))) fun v_26 =>
                Option.bind (idxL e.To v_26) fun v_27 =>
                Option.bind (event_Less k v_27.Dot e.To[i].Dot) fun v_28 => some v_28
            else some false
          else some false) = some (decide (destAt e.To i hi)) := by
        simp only [mayDot_eq, mayName_eq, lt1, Option.bind_some, destAt]
        by_cases hd : mayDot e.To[i].Dot
        · by_cases hn : mayName e.To[i].Device
          · by_cases h00 : i = 0
            · subst h00
              simp [hd, hn]
            · obtain ⟨i, rfl⟩ : ∃ j, i = j + 1 := ⟨i - 1, by omega⟩
              have hp : w64 (((i + 1 : Nat) : Int) - 1) = (i : Int) := by rw [w64_id (by omega) (by omega)]; omega
              have h01 : (((i + 1 : Nat) : Int) == 0) = false := by simp; omega
              simp only [hd, hn, h01, hp, idxL_lt (show i < e.To.length by omega), less_eq k hk, decide_true, if_true, Bool.false_eq_true, if_false, Option.bind_some]
              simp
          · simp [hd, hn]
        · simp [hd]
      simp only [event_May.b1, lt1, dec_t hlt, if_true, idxL_lt hi, Option.bind_some]
      simp only [lt1] at hval
      rw [hval]
      by_cases hP : destAt e.To i hi
      · left
        simp only [hP, decide_true, Bool.not_true, Bool.false_eq_true, if_false, hw, Option.bind_some]
        refine ⟨_, rfl, ⟨rfl, by show (0 : Int) ≤ ((i + 1 : Nat) : Int); omega, by show ((i + 1 : Nat) : Int) ≤ _; omega, fun j hj hlt' => ?_⟩, by show ((e.To.length : Int) - ((i + 1 : Nat) : Int)).toNat < _; omega⟩
        simp only at hlt'
        by_cases hji : j = i
        · subst hji; exact hP
        · exact h2 j hj (by omega)
      · right
        simp only [hP, decide_false, Bool.not_false, if_true, Option.bind_some]
        exact ⟨_, rfl, (decide_eq_false (fun h => hP (h i hi))).symm⟩
    · right
      simp only [event_May.b1, lt1, dec_f hlt, Bool.false_eq_true, if_false]
      exact ⟨_, rfl, (decide_eq_true (fun i h => h2 i h (by omega))).symm⟩
theorem May_eq (k : Nat) (hk : 1026 ≤ k) (e : api_Event) : event_May k e = some (decide (may e)) := by
  obtain ⟨mv, hmv, hmv'⟩ := mayVector_eq k (by omega) e.Past
  unfold event_May
  simp only [mayDot_eq, hmv, lt1, Option.bind_some, may, core]
  by_cases h1 : mayDot e.ID
  · have h1a := h1.1
    have h1b := h1.2.1
    have h1c := h1.2.2.1
    have h16 : (e.ID.Region - 1).toNat < 16 := by omega
    simp only [h1, decide_true, Bool.not_true, Bool.false_eq_true, if_false]
    by_cases h2 : small e.Past
    · have : mv = true := hmv'.2 h2
      subst this
      simp only [Bool.not_true, Bool.false_eq_true, if_false, w64_pred h1a h1b, inV_ok (show 0 ≤ e.ID.Region - 1 by omega) h16, Option.bind_some, getV, eq_toNat, pred_toNat h1c, ← at_lt h16]
      by_cases h3 : at_ e.Past e.ID.Region = e.ID.Count.toNat - 1
      · simp only [h3, decide_true, Bool.not_true, Bool.false_eq_true, if_false, mayName_eq, Option.bind_some]
        by_cases h4 : mayName e.Topic
        · simp only [h4, decide_true, Bool.not_true, Bool.false_eq_true, if_false]
          by_cases h5 : e.Payload.length ≤ 512
          · simp only [dec_f (show ¬ (e.Payload.length : Int) > 512 by omega), Bool.false_eq_true, if_false, Option.bind_some]
            by_cases h6 : e.To.length ≤ 1024
            · simp only [dec_f (show ¬ (e.To.length : Int) > 1024 by omega), Bool.false_eq_true, if_false, mayLoop k e (by omega) (by omega) (by omega), Option.bind_some]
              simp [h2, h5, h6]
            · simp only [dec_t (show (e.To.length : Int) > 1024 by omega), if_true]
              simp [h6]
          · simp only [dec_t (show (e.Payload.length : Int) > 512 by omega), if_true, Option.bind_some]
            simp [h5]
        · simp [h4]
      · simp [h3]
    · have : mv = false := by cases mv; rfl; exact absurd (hmv'.1 rfl) h2
      subst this
      simp [h2]
  · simp [h1]
/-- The same, with the payload as a view. -/
theorem May2_eq (k : Nat) (hk : 1026 ≤ k) (e : api_Event) (o n : Nat) (x : List UInt8) (hn : n = e.Payload.length) : event_May'2 k e.ID e.Topic o n e.Past e.To x = some (decide (may e)) := by
  subst hn
  rw [← May_eq k hk]
  rfl
theorem refMayDot_eq (k : Nat) (d : api_Dot) : ref09_MayDot k d = some (decide (mayDot d)) := by rw [← mayDot_eq k d]; rfl
theorem refMayName_eq (k : Nat) (s : List UInt8) : ref09_MayName k s = some (decide (mayName s)) := by
  simp only [ref09_MayName, lt1, Option.bind_some, Option.some.injEq, mayName]
  by_cases h1 : 1 ≤ s.length <;> by_cases h2 : s.length ≤ 32 <;> simp [h1, h2] <;> omega
theorem refLess_eq (k : Nat) (a b : api_Dot) : ref09_Less k a b = some (decide (less a b)) := by
  simp only [ref09_Less, lt1, Option.bind_some, less, UInt64.lt_iff_toNat_lt]
  by_cases h1 : a.Region < b.Region
  · simp [h1]
  · by_cases h2 : a.Region = b.Region
    · simp [h2]
    · simp [h1, h2]
theorem refMayVector_eq (k : Nat) (hk : 17 ≤ k) (v : Vc) : ref09_MayVector k v = some (decide (small v)) := by
  have hlp : ∃ t, loopO (fun s => ref09_MayVector.b1 k v s) k (0 : Int) = some t ∧ ((t = .inr false ∧ ¬ small v) ∨ (t = .inl () ∧ small v)) := by
    refine loop_inv (I := fun s => 0 ≤ s ∧ s ≤ 16 ∧ ∀ (i : Nat) (h : i < 16), (i : Int) < s → v[i].toNat ≤ 4611686018427387904) (m := fun s => (16 - s).toNat) _ ?_ k 0 ⟨by omega, by omega, fun i _ h => by omega⟩ (by show (16 - (0 : Int)).toNat < k; omega)
    intro s ⟨h0, h1, h2⟩
    by_cases hlt : s < 16
    · obtain ⟨i, rfl⟩ : ∃ i : Nat, s = i := ⟨s.toNat, by omega⟩
      have hi : i < 16 := by omega
      have h3 : inV 16 (i : Int) = some ⟨i, hi⟩ := inV_ok (by omega) (by simpa using hi)
      simp only [ref09_MayVector.b1, lt1, dec_t (show (i : Int) < 16 by omega), if_true, h3, Option.bind_some, w64_succ (show i < 9223372036854775807 by omega)]
      by_cases hb : 4611686018427387904 < v[i].toNat
      · right
        have : decide ((4611686018427387904 : UInt64) < getV v ⟨i, hi⟩) = true := decide_eq_true (by rw [UInt64.lt_iff_toNat_lt]; exact hb)
        simp only [this, if_true]
        exact ⟨_, rfl, .inl ⟨rfl, fun h => by have := h i hi; omega⟩⟩
      · left
        have : decide ((4611686018427387904 : UInt64) < getV v ⟨i, hi⟩) = false := decide_eq_false (by rw [UInt64.lt_iff_toNat_lt]; exact hb)
        simp only [this, Bool.false_eq_true, if_false]
        refine ⟨_, rfl, ⟨by omega, by omega, fun j hj hlt => ?_⟩, by omega⟩
        by_cases hji : j = i
        · subst hji; omega
        · exact h2 j hj (by omega)
    · right
      simp only [ref09_MayVector.b1, lt1, dec_f (show ¬ s < (16 : Int) by omega), Bool.false_eq_true, if_false]
      exact ⟨_, rfl, .inr ⟨rfl, fun i hi => h2 i hi (by omega)⟩⟩
  obtain ⟨t, h1, h2⟩ := hlp
  simp only [ref09_MayVector, h1, Option.bind_some]
  rcases h2 with ⟨rfl, h4⟩ | ⟨rfl, h4⟩ <;> simp [h4]
theorem succ_eq (v c : UInt64) (h : 1 ≤ c.toNat) : (v + 1 == c) = decide (v.toNat = c.toNat - 1) := by
  rw [Bool.eq_iff_iff, beq_iff_eq, decide_eq_true_eq, ← UInt64.toNat_inj, UInt64.toNat_add]
  have h1 := v.toNat_lt
  have h2 := c.toNat_lt
  have h3 : (1 : UInt64).toNat = 1 := rfl
  rw [h3]
  omega
theorem refMayLoop (k : Nat) (e : api_Event) (hl : e.To.length < k) (hl2 : e.To.length ≤ 1000000) : ∃ t, loopO (fun s => ref09_May.b1 k e s) k (0 : Int) = some t ∧ ((t = .inr false ∧ ¬ okTo e.To) ∨ (t = .inl () ∧ okTo e.To)) := by
  refine loop_inv (body := fun s => ref09_May.b1 k e s) (I := fun s => 0 ≤ s ∧ s ≤ e.To.length ∧ ∀ i (h : i < e.To.length), (i : Int) < s → destAt e.To i h) (m := fun s => (e.To.length - s).toNat) _ ?_ k (0 : Int) ⟨Int.le_refl _, by show (0 : Int) ≤ _; omega, fun i h h2 => by omega⟩ (by show ((e.To.length : Int) - 0).toNat < k; omega)
  rintro s ⟨h0, h1, h2⟩
  by_cases hlt : s < e.To.length
  · obtain ⟨i, rfl⟩ : ∃ i : Nat, s = i := ⟨s.toNat, by omega⟩
    have hi : i < e.To.length := by omega
    have hw : w64 ((i : Int) + 1) = ((i + 1 : Nat) : Int) := w64_succ (by omega)
    simp only [ref09_May.b1, lt1, dec_t hlt, if_true, idxL_lt hi, Option.bind_some, refMayDot_eq, refMayName_eq, refLess_eq, hw]
    have key : ∀ y : Bool, (y = true ↔ ¬ destAt e.To i hi) → (∃ s', (if y = true then some (Sum.inr (Sum.inr false)) else some (Sum.inl ((i + 1 : Nat) : Int)) : Option (Int ⊕ (Unit ⊕ Bool))) = some (.inl s') ∧ (0 ≤ s' ∧ s' ≤ e.To.length ∧ ∀ j (h : j < e.To.length), (j : Int) < s' → destAt e.To j h) ∧ ((e.To.length : Int) - s').toNat < ((e.To.length : Int) - (i : Int)).toNat) ∨ ∃ t, (if y = true then some (Sum.inr (Sum.inr false)) else some (Sum.inl ((i + 1 : Nat) : Int)) : Option (Int ⊕ (Unit ⊕ Bool))) = some (.inr t) ∧ ((t = .inr false ∧ ¬ okTo e.To) ∨ (t = .inl () ∧ okTo e.To)) := by
      intro y hy
      by_cases hP : destAt e.To i hi
      · have : ¬ y = true := fun h => hy.1 h hP
        left
        rw [if_neg this]
        refine ⟨_, rfl, ⟨by omega, by omega, fun j hj hlt' => ?_⟩, by omega⟩
        by_cases hji : j = i
        · subst hji; exact hP
        · exact h2 j hj (by omega)
      · right
        rw [if_pos (hy.2 hP)]
        exact ⟨_, rfl, .inl ⟨rfl, fun h => hP (h i hi)⟩⟩
    unfold destAt at key
    by_cases hd : mayDot e.To[i].Dot
    · by_cases hn : mayName e.To[i].Device
      · by_cases h00 : i = 0
        · subst h00
          simp only [hd, hn, decide_true, Bool.not_true, Bool.false_eq_true, if_false, dec_f (show ¬ ((0 : Nat) : Int) > 0 by omega), Option.bind_some]
          exact key false (by simp [hd, hn])
        · obtain ⟨i, rfl⟩ : ∃ j, i = j + 1 := ⟨i - 1, by omega⟩
          have hp : w64 (((i + 1 : Nat) : Int) - 1) = (i : Int) := by rw [w64_id (by omega) (by omega)]; omega
          simp only [hd, hn, decide_true, Bool.not_true, Bool.false_eq_true, if_false, dec_t (show ((i + 1 : Nat) : Int) > 0 by omega), if_true, hp, idxL_lt (show i < e.To.length by omega), Option.bind_some, refLess_eq]
          exact key _ (by simp [hd, hn])
      · simp only [hd, hn, decide_true, decide_false, Bool.not_true, Bool.not_false, Bool.false_eq_true, if_true, if_false, Option.bind_some]
        exact key true (by simp [hn])
    · simp only [hd, decide_false, Bool.not_false, if_true, Option.bind_some]
      exact key true (by simp [hd])
  · right
    simp only [ref09_May.b1, lt1, dec_f hlt, Bool.false_eq_true, if_false]
    exact ⟨_, rfl, .inr ⟨rfl, fun i h => h2 i h (by omega)⟩⟩
theorem refMay_eq (k : Nat) (hk : 1026 ≤ k) (e : api_Event) : ref09_May k e = some (decide (may e)) := by
  unfold ref09_May
  simp only [refMayDot_eq, refMayVector_eq k (by omega), lt1, Option.bind_some, may, core]
  by_cases h1 : mayDot e.ID
  · have h1a := h1.1
    have h1b := h1.2.1
    have h1c := h1.2.2.1
    have h16 : (e.ID.Region - 1).toNat < 16 := by omega
    simp only [h1, decide_true, Bool.not_true, Bool.false_eq_true, if_false]
    by_cases h2 : small e.Past
    · simp only [h2, decide_true, Bool.not_true, Bool.false_eq_true, if_false, w64_pred h1a h1b, inV_ok (show 0 ≤ e.ID.Region - 1 by omega) h16, Option.bind_some, getV, succ_eq _ _ h1c, ← at_lt h16]
      by_cases h3 : at_ e.Past e.ID.Region = e.ID.Count.toNat - 1
      · simp only [h3, decide_true, Bool.not_true, Bool.false_eq_true, if_false, refMayName_eq, Option.bind_some]
        by_cases h4 : mayName e.Topic
        · simp only [h4, decide_true, Bool.not_true, Bool.false_eq_true, if_false]
          by_cases h5 : e.Payload.length ≤ 512
          · simp only [dec_f (show ¬ (e.Payload.length : Int) > 512 by omega), Bool.false_eq_true, if_false, Option.bind_some]
            by_cases h6 : e.To.length ≤ 1024
            · obtain ⟨t, h7, h8⟩ := refMayLoop k e (by omega) (by omega)
              simp only [dec_f (show ¬ (e.To.length : Int) > 1024 by omega), Bool.false_eq_true, if_false, h7, Option.bind_some]
              rcases h8 with ⟨rfl, h9⟩ | ⟨rfl, h9⟩ <;> simp [h2, h5, h6, h9]
            · simp only [dec_t (show (e.To.length : Int) > 1024 by omega), if_true]
              simp [h6]
          · simp only [dec_t (show (e.Payload.length : Int) > 512 by omega), if_true, Option.bind_some]
            simp [h5]
        · simp [h4]
      · simp [h3]
    · simp [h2]
  · simp [h1]
end Go.Proofs.Ythoggbomakolkaa
