/- The plain law EventOrder. -/
import Derived.Test.YthoggbomakolkaaB
namespace Go.Proofs.Ythoggbomakolkaa
open Go Fw
set_option linter.unusedVariables false
set_option linter.unusedSimpArgs false

theorem much_eq (k : Nat) (hk : 4000 ≤ k) (e : api_Event) (hd : ∀ z ∈ e.To, z.Device.length ≤ 140737488351232) : ∃ b, ref09_Much k e = some b ∧ (b = false → e.To.length ≤ 3000) := by
  have hlp : e.To.length ≤ 3000 → ∃ t, loopO (fun s => ref09_Much.b1 k e s.1 s.2) k ((0 : Int), (0 : Int)) = some t ∧ (t = .inl () ∨ t = .inr true) := by
    intro hle
    refine loop_inv (I := fun s : Int × Int => 0 ≤ s.1 ∧ s.1 ≤ 200000 ∧ 0 ≤ s.2 ∧ s.2 ≤ (e.To.length : Int)) (m := fun s => ((e.To.length : Int) - s.2).toNat) _ ?_ k _ ⟨by show (0 : Int) ≤ 0; omega, by show (0 : Int) ≤ _; omega, by show (0 : Int) ≤ 0; omega, by show (0 : Int) ≤ _; omega⟩ (by show ((e.To.length : Int) - (0 : Int)).toNat < k; omega)
    rintro ⟨n, s⟩ ⟨h0, h1, h2, h3⟩
    simp only at h0 h1 h2 h3
    by_cases hlt : s < e.To.length
    · obtain ⟨i, rfl⟩ : ∃ i : Nat, s = i := ⟨s.toNat, by omega⟩
      have hi : i < e.To.length := by omega
      have hm0 : 0 ≤ minI (e.To[i].Device.length : Int) 200001 ∧ minI (e.To[i].Device.length : Int) 200001 ≤ 200001 := by
        unfold minI; split <;> omega
      generalize hmm : minI (e.To[i].Device.length : Int) 200001 = mm at hm0
      simp only [ref09_Much.b1, lt1, dec_t hlt, if_true, idxL_lt hi, Option.bind_some, hmm, w64_id (show -9223372036854775808 ≤ n + mm by omega) (by omega), w64_succ (show i < 9223372036854775807 by omega)]
      by_cases hb : n + mm > 200000
      · right
        simp only [hb, decide_true, if_true]
        exact ⟨_, rfl, .inr rfl⟩
      · left
        simp only [hb, decide_false, Bool.false_eq_true, if_false]
        exact ⟨_, rfl, ⟨by show 0 ≤ n + mm; omega, by show n + mm ≤ 200000; omega, by show (0 : Int) ≤ ((i + 1 : Nat) : Int); omega, by show ((i + 1 : Nat) : Int) ≤ _; omega⟩, by show ((e.To.length : Int) - ((i + 1 : Nat) : Int)).toNat < ((e.To.length : Int) - (i : Int)).toNat; omega⟩
    · right
      simp only [ref09_Much.b1, lt1, dec_f hlt, Bool.false_eq_true, if_false]
      exact ⟨_, rfl, .inl rfl⟩
  simp only [ref09_Much, lt1]
  by_cases h1 : (e.Topic.length : Int) > 300
  · simp only [h1, decide_true, if_true, Option.bind_some]
    exact ⟨_, rfl, fun h => by cases h⟩
  · by_cases h2 : (e.Payload.length : Int) > 3000
    · simp only [h1, h2, decide_true, decide_false, Bool.false_eq_true, if_true, if_false, Option.bind_some]
      exact ⟨_, rfl, fun h => by cases h⟩
    · by_cases h3 : (e.To.length : Int) > 3000
      · simp only [h1, h2, h3, decide_true, decide_false, Bool.false_eq_true, if_true, if_false, Option.bind_some]
        exact ⟨_, rfl, fun h => by cases h⟩
      · obtain ⟨t, h4, h5⟩ := hlp (by omega)
        simp only [h1, h2, h3, decide_false, Bool.false_eq_true, if_false, Option.bind_some, h4]
        rcases h5 with rfl | rfl
        · exact ⟨_, rfl, fun _ => by omega⟩
        · exact ⟨_, rfl, fun h => by cases h⟩
/-- What comes before what. -/
noncomputable def mayE (k : Nat) (e : api_Event) : Bool := (event_May k e).getD false
theorem May_m (k : Nat) (hk : 4000 ≤ k) (e : api_Event) (h : e.To.length ≤ 3000) : event_May k e = some (mayE k e) ∧ (mayE k e = true → core e) := by
  obtain ⟨b, h1, h2, _⟩ := May_spec k (by omega) e (.inl (by omega)) (by omega)
  have : mayE k e = b := by unfold mayE; rw [h1]; rfl
  rw [this]
  exact ⟨h1, h2⟩
def und (v : Vc) (d : api_Dot) : Prop := mayDot d ∧ d.Count.toNat ≤ at_ v d.Region
instance (v : Vc) (d : api_Dot) : Decidable (und v d) := inferInstanceAs (Decidable (_ ∧ _))
noncomputable def bef (k : Nat) (a b : api_Event) : Bool := mayE k a && mayE k b && decide (und b.Past a.ID)
theorem Before_eq (k : Nat) (hk : 4000 ≤ k) (a b : api_Event) (ha : a.To.length ≤ 3000) (hb : b.To.length ≤ 3000) : event_Before k a b = some (bef k a b) := by
  simp only [event_Before, (May_m k hk a ha).1, (May_m k hk b hb).1, under_eq, lt1, Option.bind_some, bef, und]
  cases mayE k a <;> cases mayE k b <;> rfl
theorem und_mono {u v : Vc} {d : api_Dot} (h : und u d) (k : ∀ i (h : i < 16), u[i].toNat ≤ v[i].toNat) : und v d := by
  obtain ⟨h1, h2⟩ := h
  have h3 := h1.1
  have h4 := h1.2.1
  have h5 : (d.Region - 1).toNat < 16 := by omega
  refine ⟨h1, ?_⟩
  rw [at_lt h5] at h2 ⊢
  have := k _ h5
  omega
theorem pure_EventOrder (y0 : api_Event) (y1 : api_Event) (y2 : api_Event) (f0 : (((IntKind.min .i64 ≤ y0.ID.Region ∧ y0.ID.Region ≤ IntKind.max .i64) ∧ (True ∧ True)) ∧ ((List.length y0.Topic ≤ 140737488351232) ∧ ((List.length y0.Payload * 1 ≤ 140737488351232 ∧ ∀ z0 ∈ y0.Payload, True) ∧ ((∀ (i : Nat) (h : i < 16), True) ∧ ((List.length y0.To * 32 ≤ 140737488351232 ∧ ∀ z0 ∈ y0.To, (((IntKind.min .i64 ≤ z0.Dot.Region ∧ z0.Dot.Region ≤ IntKind.max .i64) ∧ (True ∧ True)) ∧ ((List.length z0.Device ≤ 140737488351232) ∧ True))) ∧ True)))))) (f1 : (((IntKind.min .i64 ≤ y1.ID.Region ∧ y1.ID.Region ≤ IntKind.max .i64) ∧ (True ∧ True)) ∧ ((List.length y1.Topic ≤ 140737488351232) ∧ ((List.length y1.Payload * 1 ≤ 140737488351232 ∧ ∀ z0 ∈ y1.Payload, True) ∧ ((∀ (i : Nat) (h : i < 16), True) ∧ ((List.length y1.To * 32 ≤ 140737488351232 ∧ ∀ z0 ∈ y1.To, (((IntKind.min .i64 ≤ z0.Dot.Region ∧ z0.Dot.Region ≤ IntKind.max .i64) ∧ (True ∧ True)) ∧ ((List.length z0.Device ≤ 140737488351232) ∧ True))) ∧ True)))))) (f2 : (((IntKind.min .i64 ≤ y2.ID.Region ∧ y2.ID.Region ≤ IntKind.max .i64) ∧ (True ∧ True)) ∧ ((List.length y2.Topic ≤ 140737488351232) ∧ ((List.length y2.Payload * 1 ≤ 140737488351232 ∧ ∀ z0 ∈ y2.Payload, True) ∧ ((∀ (i : Nat) (h : i < 16), True) ∧ ((List.length y2.To * 32 ≤ 140737488351232 ∧ ∀ z0 ∈ y2.To, (((IntKind.min .i64 ≤ z0.Dot.Region ∧ z0.Dot.Region ≤ IntKind.max .i64) ∧ (True ∧ True)) ∧ ((List.length z0.Device ≤ 140737488351232) ∧ True))) ∧ True)))))) : ∃ k, law09_EventOrder k y0 y1 y2 = some true := by
  obtain ⟨K, hk⟩ : ∃ K, 4000 ≤ K := ⟨4000, Nat.le_refl _⟩
  refine ⟨K, ?_⟩
  obtain ⟨m0, hm0, hm0'⟩ := much_eq K (by omega) y0 (fun z hz => (f0.2.2.2.2.1.2 z hz).2.1)
  obtain ⟨m1, hm1, hm1'⟩ := much_eq K (by omega) y1 (fun z hz => (f1.2.2.2.2.1.2 z hz).2.1)
  obtain ⟨m2, hm2, hm2'⟩ := much_eq K (by omega) y2 (fun z hz => (f2.2.2.2.2.1.2 z hz).2.1)
  have hkn := known_eq K (by omega)
  simp only [law09_EventOrder, hm0, hm1, hm2, hkn, lt1, Option.bind_some]
  cases m0
  · cases m1
    · cases m2
      · have l0 := hm0' rfl
        have l1 := hm1' rfl
        have l2 := hm2' rfl
        have hkk : 4000 ≤ K := by omega
        simp only [Before_eq K hkk y0 y1 l0 l1, Before_eq K hkk y1 y2 l1 l2, Before_eq K hkk y0 y2 l0 l2, Before_eq K hkk y1 y0 l1 l0, join_eq K (by omega), eqVc, lt1, Option.bind_some, Bool.not_false, if_true, ite_true, cond_false, cond_true, Bool.false_eq_true, if_false]
        have c1 : bef K y0 y1 = true → bef K y1 y2 = true → jn y2.Past y1.Past = y2.Past → bef K y0 y2 = true := by
          intro h1 h2 h3
          simp only [bef, Bool.and_eq_true, decide_eq_true_eq] at h1 h2 ⊢
          exact ⟨⟨h1.1.1, h2.1.2⟩, und_mono h1.2 ((jn_eq_iff _ _).1 h3)⟩
        have c2 : bef K y0 y1 = true → jn y0.Past y1.Past = y0.Past → jn y1.Past y0.Past ≠ y1.Past := by
          intro h1 h2 h3
          simp only [bef, Bool.and_eq_true, decide_eq_true_eq] at h1
          have e : y0.Past = y1.Past := by rw [← h2, jn_comm, h3]
          have hc := (May_m K hkk y0 l0).2 h1.1.1
          have h4 := h1.2.2
          rw [← e, hc.2.2.1] at h4
          have := hc.1.2.2.1
          omega
        have e1 : decide (jn y2.Past y1.Past = y2.Past) = true → jn y2.Past y1.Past = y2.Past := of_decide_eq_true
        have e2 : decide (jn y0.Past y1.Past = y0.Past) = true → jn y0.Past y1.Past = y0.Past := of_decide_eq_true
        have e3 : decide (jn y1.Past y0.Past = y1.Past) = true → jn y1.Past y0.Past = y1.Past := of_decide_eq_true
        have c1' : bef K y0 y1 = true → bef K y1 y2 = true → decide (jn y2.Past y1.Past = y2.Past) = true → bef K y0 y2 = true := fun a b c => c1 a b (e1 c)
        have c2' : bef K y0 y1 = true → decide (jn y0.Past y1.Past = y0.Past) = true → decide (jn y1.Past y0.Past = y1.Past) = false := fun a b => decide_eq_false (c2 a (e2 b))
        clear c1 c2 e1 e2 e3 hm0 hm1 hm2 hm0' hm1' hm2' f0 f1 f2
        generalize decide (jn y2.Past y1.Past = y2.Past) = p at *
        generalize decide (jn y0.Past y1.Past = y0.Past) = q at *
        generalize decide (jn y1.Past y0.Past = y1.Past) = r at *
        generalize bef K y0 y1 = a at *
        generalize bef K y1 y2 = b at *
        generalize bef K y0 y2 = c at *
        generalize bef K y1 y0 = d at *
        revert c1' c2'
        cases p <;> cases q <;> cases r <;> cases a <;> cases b <;> cases c <;> cases d <;> decide
      · rfl
    · rfl
  · rfl
end Go.Proofs.Ythoggbomakolkaa
