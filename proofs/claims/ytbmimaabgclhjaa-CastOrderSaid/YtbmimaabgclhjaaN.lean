/- Which events may be, in the form of conditioned pointers. -/
import Derived.Test.YtbmimaabgclhjaaB
namespace Go.Proofs.Ytbmimaabgclhjaa
open Go Fw
set_option linter.unusedVariables false
set_option linter.unusedSimpArgs false

theorem w64_back (i : Nat) (h : i < 9223372036854775807) : w64 (((i + 1 : Nat) : Int) - 1) = (i : Int) := by rw [w64_id (by omega) (by omega)]; omega
theorem mayVectorD (k : Nat) (hk : 17 ≤ k) (v : Vc) : event_mayVector k v = some (decide (small v)) := by
  obtain ⟨b, h1, h2⟩ := mayVector_eq k hk v
  rw [h1]
  cases b
  · rw [decide_eq_false (fun h => by simpa using h2.2 h)]
  · rw [decide_eq_true (h2.1 rfl)]
theorem loop_allT {body : Bool × Int → Option (Bool × Int ⊕ Bool)} (n : Nat) (P : Nat → Prop) [DecidablePred P] (hs : ∀ i, i < n → body (true, (i : Int)) = some (if P i then .inl (true, ((i + 1 : Nat) : Int)) else .inr false)) (he : body (true, (n : Int)) = some (.inr true)) {k : Nat} (hk : n < k) :
    loopO body k (true, (0 : Int)) = some (decide (∀ i, i < n → P i)) := by
  have h := loop_inv (body := body) (I := fun s => s.1 = true ∧ 0 ≤ s.2 ∧ s.2 ≤ n ∧ ∀ i : Nat, (i : Int) < s.2 → P i) (m := fun s => ((n : Int) - s.2).toNat) (fun t => t = decide (∀ i, i < n → P i)) ?_ k (true, (0 : Int)) ⟨rfl, Int.le_refl _, by show (0 : Int) ≤ _; omega, fun i h => by have h : (i : Int) < 0 := h; omega⟩ (by show ((n : Int) - 0).toNat < k; omega)
  · obtain ⟨t, h1, rfl⟩ := h
    exact h1
  · rintro ⟨x, s⟩ ⟨hx, h0, h1, h2⟩
    simp only at hx h0 h1 h2
    subst hx
    obtain ⟨i, rfl⟩ : ∃ i : Nat, s = i := ⟨s.toNat, by omega⟩
    by_cases hlt : i < n
    · rw [hs i hlt]
      by_cases hP : P i
      · left
        refine ⟨_, by rw [if_pos hP], ⟨rfl, by show (0 : Int) ≤ ((i + 1 : Nat) : Int); omega, by show ((i + 1 : Nat) : Int) ≤ _; omega, fun j hj => ?_⟩, by show ((n : Int) - ((i + 1 : Nat) : Int)).toNat < _; omega⟩
        have hj : (j : Int) < ((i + 1 : Nat) : Int) := hj
        by_cases hji : j = i
        · subst hji; exact hP
        · exact h2 j (by omega)
      · right
        exact ⟨_, by rw [if_neg hP], (decide_eq_false (fun h => hP (h i hlt))).symm⟩
    · have : i = n := by omega
      subst this
      right
      exact ⟨_, he, (decide_eq_true (fun j hj => h2 j (by omega))).symm⟩
def tg (l : List api_Dest) (i : Nat) : api_Dest := l[i]?.getD ⟨⟨0, 0⟩, []⟩
theorem idxT {l : List api_Dest} {i : Nat} (h : i < l.length) : idxL l (i : Int) = some (tg l i) := by
  rw [idxL_lt h, tg, List.getElem?_eq_getElem h]; rfl
def toP (l : List api_Dest) (i : Nat) : Prop := mayDot (tg l i).Dot ∧ mayName (tg l i).Device ∧ (i = 0 ∨ less (tg l (i - 1)).Dot (tg l i).Dot)
instance (l : List api_Dest) : DecidablePred (toP l) := fun i => inferInstanceAs (Decidable (_ ∧ _ ∧ _))
def may (e : api_Event) : Prop := core e ∧ ∀ i, i < e.To.length → toP e.To i
instance (e : api_Event) : Decidable (may e) := by unfold may core; exact inferInstance
theorem mayB1 (k : Nat) (hk : 3 ≤ k) (e : api_Event) (i : Nat) (hi : i < e.To.length) (hl : e.To.length ≤ 1000000) : event_May.b1 k e true (i : Int) = some (if toP e.To i then .inl (true, ((i + 1 : Nat) : Int)) else .inr false) := by
  simp only [event_May.b1, lt1, dec_t (show (i : Int) < (e.To.length : Int) by omega), if_true, idxT hi, Option.bind_some, mayDot_eq, w64_succ (show i < 9223372036854775807 by omega)]
  by_cases hd : mayDot (tg e.To i).Dot
  case neg => simp [hd, toP]
  simp only [decide_eq_true hd, if_true, mayName_eq, Option.bind_some, cond_true]
  by_cases hn : mayName (tg e.To i).Device
  case neg => simp [hn, toP]
  by_cases h0 : i = 0
  · subst h0
    simp [hd, hn, toP]
  · obtain ⟨j, rfl⟩ : ∃ j, i = j + 1 := ⟨i - 1, by omega⟩
    have e0 : ((((j + 1 : Nat) : Int)) == 0) = false := by simp; omega
    simp only [decide_eq_true hn, e0, w64_back j (by omega), Bool.not_false, Bool.and_true, if_true, idxT (show j < e.To.length by omega), less_eq k hk, Option.bind_some, cond_true, cond_false]
    by_cases hL : less (tg e.To j).Dot (tg e.To (j + 1)).Dot <;> simp [hL, hd, hn, toP]
theorem eventMay_eq (k : Nat) (hk : 100000 ≤ k) (e : api_Event) (hl : e.To.length ≤ 70000) : event_May k e = some (decide (may e)) := by
  have hlp := loop_allT (body := fun s => event_May.b1 k e s.1 s.2) (k := k) e.To.length (toP e.To) (fun i hi => mayB1 k (by omega) e i hi (by omega)) (by simp only [event_May.b1, lt1, dec_f (show ¬ (e.To.length : Int) < (e.To.length : Int) by omega), Bool.false_eq_true, if_false]) (by omega)
  simp only [event_May, mayDot_eq, lt1, Option.bind_some, may, core]
  by_cases h1 : mayDot e.ID
  case neg => simp [h1]
  have h1a := h1.1
  have h1b := h1.2.1
  have h1c := h1.2.2.1
  have h16 : (e.ID.Region - 1).toNat < 16 := by omega
  simp only [decide_eq_true h1, Bool.not_true, Bool.not_false, if_true, mayVectorD k (by omega), Option.bind_some, cond_false]
  by_cases h2 : small e.Past
  case neg => simp [h2]
  simp only [decide_eq_true h2, Bool.not_true, Bool.false_eq_true, if_false, w64_pred h1a h1b, inV_ok (show 0 ≤ e.ID.Region - 1 by omega) h16, Option.bind_some, getV, eq_toNat, pred_toNat h1c, ← at_lt h16]
  by_cases h3 : at_ e.Past e.ID.Region = e.ID.Count.toNat - 1
  case neg => simp [h3]
  simp only [decide_eq_true h3, Bool.not_true, Bool.false_eq_true, if_false, mayName_eq, Option.bind_some]
  by_cases h4 : mayName e.Topic
  case neg => simp [h4]
  by_cases h5 : e.Payload.length ≤ 512
  case neg => rw [dec_t (show (e.Payload.length : Int) > 512 by omega)]; simp [h5]
  by_cases h6 : e.To.length ≤ 1024
  case neg => rw [dec_t (show (e.To.length : Int) > 1024 by omega)]; simp [h6]
  rw [dec_f (show ¬ (e.Payload.length : Int) > 512 by omega), dec_f (show ¬ (e.To.length : Int) > 1024 by omega)]
  simp only [decide_eq_true h4, Bool.not_true, cond_false, Bool.false_eq_true, if_false, hlp, Option.bind_some]
  simp [h1, h2, h3, h4, h5, h6]
end Go.Proofs.Ytbmimaabgclhjaa
