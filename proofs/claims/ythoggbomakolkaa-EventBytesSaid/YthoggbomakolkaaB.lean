/- Events: what is allowed, what is ready, what comes before what. -/
import Derived.Test.YthoggbomakolkaaA
namespace Go.Proofs.Ythoggbomakolkaa
open Go Fw
set_option linter.unusedVariables false
set_option linter.unusedSimpArgs false

def core (e : api_Event) : Prop := mayDot e.ID ∧ small e.Past ∧ at_ e.Past e.ID.Region = e.ID.Count.toNat - 1 ∧ mayName e.Topic ∧ e.Payload.length ≤ 512 ∧ e.To.length ≤ 1024
theorem pred_toNat {c : UInt64} (h : 1 ≤ c.toNat) : (c - 1).toNat = c.toNat - 1 := by
  rw [UInt64.toNat_sub_of_le _ _ (by rw [UInt64.le_iff_toNat_le]; exact h)]; rfl
theorem eq_toNat {a b : UInt64} : (a == b) = decide (a.toNat = b.toNat) := by
  rw [Bool.eq_iff_iff, beq_iff_eq, decide_eq_true_eq, UInt64.toNat_inj]
theorem May_spec (k : Nat) (hk : 17 ≤ k) (e : api_Event) (hl : e.To.length < k ∨ 1024 < e.To.length ∧ e.To.length * 32 ≤ 140737488351232) (hk2 : 1026 ≤ k) : ∃ b, event_May k e = some b ∧ (b = true → core e) ∧ (e.To = [] → core e → b = true) := by
  obtain ⟨mv, hmv, hmv'⟩ := mayVector_eq k hk e.Past
  have hlp : e.To.length ≤ 1024 → ∃ t, loopO (fun s => event_May.b1 k e s.1 s.2) k (true, (0 : Int)) = some t ∧ (e.To = [] → t = true) := by
    intro hle
    by_cases hnil : e.To = []
    · refine ⟨true, ?_, fun _ => rfl⟩
      obtain ⟨k, rfl⟩ : ∃ j, k = j + 1 := ⟨k - 1, by omega⟩
      apply loopO_out
      simp [event_May.b1, lt1, hnil]
    · have := loop_inv (body := fun s => event_May.b1 k e s.1 s.2) (I := fun s => 0 ≤ s.2 ∧ s.2 ≤ e.To.length) (m := fun s => (e.To.length - s.2).toNat) (fun _ => True) ?_ k (true, (0 : Int)) ⟨Int.le_refl _, by show (0 : Int) ≤ _; omega⟩ (by show ((e.To.length : Int) - 0).toNat < k; omega)
      · obtain ⟨t, h1, _⟩ := this
        exact ⟨t, h1, fun h => absurd h hnil⟩
      · rintro ⟨x, s⟩ ⟨h0, h1⟩
        simp only at h0 h1
        by_cases hlt : s < e.To.length
        · obtain ⟨i, rfl⟩ : ∃ i : Nat, s = i := ⟨s.toNat, by omega⟩
          have hi : i < e.To.length := by omega
          have hw : w64 ((i : Int) + 1) = ((i + 1 : Nat) : Int) := w64_succ (by omega)
          have hres : ∀ y : Bool, (∃ s', (lt1 (!y) fun v_30 => if v_30 = true then some (.inr y) else lt1 (w64 ((i : Int) + 1)) fun v_31 => some (.inl (y, v_31)) : Option ((Bool × Int) ⊕ Bool)) = some (.inl s') ∧ (0 ≤ s'.2 ∧ s'.2 ≤ e.To.length) ∧ ((e.To.length : Int) - s'.2).toNat < ((e.To.length : Int) - i).toNat) ∨ ∃ t, (lt1 (!y) fun v_30 => if v_30 = true then some (.inr y) else lt1 (w64 ((i : Int) + 1)) fun v_31 => some (.inl (y, v_31)) : Option ((Bool × Int) ⊕ Bool)) = some (.inr t) ∧ True := by
            intro y
            cases y
            · right; exact ⟨_, rfl, trivial⟩
            · left
              simp only [lt1, Bool.not_true, Bool.false_eq_true, if_false, hw]
              exact ⟨_, rfl, ⟨by show (0 : Int) ≤ ((i + 1 : Nat) : Int); omega, by show ((i + 1 : Nat) : Int) ≤ _; omega⟩, by show ((e.To.length : Int) - ((i + 1 : Nat) : Int)).toNat < _; omega⟩
          simp only [event_May.b1, lt1, dec_t hlt, if_true, idxL_lt hi, Option.bind_some, mayDot_eq, mayName_eq]
          by_cases hd : mayDot e.To[i].Dot
          · by_cases hn : mayName e.To[i].Device
            · by_cases h00 : (i : Int) = 0
              · simp only [hd, hn, h00, decide_true, if_true, beq_self_eq_true, Option.bind_some]
                have := hres true
                rw [h00] at this
                exact this
              · obtain ⟨i, rfl⟩ : ∃ j, i = j + 1 := ⟨i - 1, by omega⟩
                have hp : w64 (((i + 1 : Nat) : Int) - 1) = (i : Int) := by rw [w64_id (by omega) (by omega)]; omega
                have h01 : (((i + 1 : Nat) : Int) == 0) = false := by simp; omega
                simp only [hd, hn, h01, decide_true, if_true, Bool.false_eq_true, if_false, hp, idxL_lt (show i < e.To.length by omega), Option.bind_some, less_eq k (by omega)]
                exact hres _
            · simp only [hd, hn, decide_true, decide_false, Bool.false_eq_true, if_true, if_false, Option.bind_some]
              exact hres false
          · simp only [hd, decide_false, Bool.false_eq_true, if_false, Option.bind_some]
            exact hres false
        · right
          simp only [event_May.b1, lt1, dec_f hlt, Bool.false_eq_true, if_false]
          exact ⟨_, rfl, trivial⟩
  unfold event_May
  simp only [mayDot_eq, hmv, lt1, Option.bind_some]
  by_cases h1 : mayDot e.ID
  · have h1a := h1.1
    have h1b := h1.2.1
    have h1c := h1.2.2.1
    have h16 : (e.ID.Region - 1).toNat < 16 := by omega
    simp only [h1, decide_true, Bool.not_true, Bool.false_eq_true, if_false]
    by_cases h2 : small e.Past
    · have : mv = true := hmv'.2 h2
      subst this
      simp only [Bool.not_true, Bool.false_eq_true, if_false, w64_pred h1a h1b, inV_ok (show 0 ≤ e.ID.Region - 1 by omega) h16, Option.bind_some, getV, eq_toNat, pred_toNat h1c, ← at_lt h16]
      by_cases h3 : at_ e.Past e.ID.Region = e.ID.Count.toNat - 1
      · simp only [h3, decide_true, Bool.not_true, Bool.false_eq_true, if_false, mayName_eq, Option.bind_some]
        by_cases h4 : mayName e.Topic
        · simp only [h4, decide_true, Bool.not_true, Bool.false_eq_true, if_false]
          by_cases h5 : e.Payload.length ≤ 512
          · simp only [dec_f (show ¬ (e.Payload.length : Int) > 512 by omega), Bool.false_eq_true, if_false, Option.bind_some]
            by_cases h6 : e.To.length ≤ 1024
            · obtain ⟨t, h7, h8⟩ := hlp h6
              simp only [dec_f (show ¬ (e.To.length : Int) > 1024 by omega), Bool.false_eq_true, if_false, h7, Option.bind_some]
              exact ⟨t, rfl, fun _ => ⟨h1, h2, h3, h4, h5, h6⟩, fun h _ => h8 h⟩
            · simp only [dec_t (show (e.To.length : Int) > 1024 by omega), if_true]
              exact ⟨_, rfl, fun h => (by cases h), fun h => by simp [h] at h6⟩
          · simp only [dec_t (show (e.Payload.length : Int) > 512 by omega), if_true, Option.bind_some]
            exact ⟨_, rfl, fun h => (by cases h), fun _ h => absurd h.2.2.2.2.1 h5⟩
        · simp only [h4, decide_false, Bool.not_false, if_true, Option.bind_some]
          exact ⟨_, rfl, fun h => (by cases h), fun _ h => absurd h.2.2.2.1 h4⟩
      · simp only [h3, decide_false, Bool.not_false, if_true, Option.bind_some]
        exact ⟨_, rfl, fun h => (by cases h), fun _ h => absurd h.2.2.1 h3⟩
    · have : mv = false := by cases mv; rfl; exact absurd (hmv'.1 rfl) h2
      subst this
      simp only [Bool.not_false, if_true, Option.bind_some]
      exact ⟨_, rfl, fun h => (by cases h), fun _ h => absurd h.2.1 h2⟩
  · simp only [h1, decide_false, Bool.not_false, if_true, Option.bind_some]
    exact ⟨_, rfl, fun h => (by cases h), fun _ h => absurd h.1 h1⟩
instance (v : Vc) : Decidable (small v) := inferInstanceAs (Decidable (∀ i (h : i < 16), v[i].toNat ≤ 4611686018427387904))
instance (e : api_Event) : Decidable (core e) := inferInstanceAs (Decidable (_ ∧ _))
theorem May_nil (k : Nat) (hk : 1026 ≤ k) (e : api_Event) (h : e.To = []) : event_May k e = some (decide (core e)) := by
  obtain ⟨b, h1, h2, h3⟩ := May_spec k (by omega) e (.inl (by simp [h]; omega)) hk
  rw [h1]
  congr 1
  rw [Bool.eq_iff_iff, decide_eq_true_eq]
  exact ⟨h2, h3 h⟩
def ready (e : api_Event) (v : Vc) : Prop := core e ∧ jn v e.Past = v ∧ at_ v e.ID.Region = e.ID.Count.toNat - 1
instance (e : api_Event) (v : Vc) : Decidable (ready e v) := inferInstanceAs (Decidable (_ ∧ _))
theorem Ready_nil (k : Nat) (hk : 1026 ≤ k) (e : api_Event) (v : Vc) (h : e.To = []) : event_Ready k e v = some (decide (ready e v)) := by
  simp only [event_Ready, May_nil k hk e h, join_eq k (by omega), eqVc, lt1, Option.bind_some, ready]
  by_cases h1 : core e
  · have h1a := h1.1.1
    have h1b := h1.1.2.1
    have h1c := h1.1.2.2.1
    have h16 : (e.ID.Region - 1).toNat < 16 := by omega
    by_cases h2 : jn v e.Past = v
    · simp only [h1, h2, decide_true, if_true, true_and, w64_pred h1a h1b, inV_ok (show 0 ≤ e.ID.Region - 1 by omega) h16, Option.bind_some, getV, eq_toNat, pred_toNat h1c, ← at_lt h16]
    · simp [h1, h2]
  · simp [h1]
theorem known_eq (k : Nat) (hk : 1026 ≤ k) : law09_known k = some true := by
  have hR : ∀ d t p v u, event_Ready k (api_Event.mk d t p v []) u = some (decide (ready (api_Event.mk d t p v []) u)) := fun d t p v u => Ready_nil k hk _ u rfl
  have hM : ∀ d t p v, event_May k (api_Event.mk d t p v []) = some (decide (core (api_Event.mk d t p v []))) := fun d t p v => May_nil k hk _ rfl
  simp only [law09_known, hR, hM, under_eq, lt1, Option.bind_some]
  decide +kernel
end Go.Proofs.Ythoggbomakolkaa
