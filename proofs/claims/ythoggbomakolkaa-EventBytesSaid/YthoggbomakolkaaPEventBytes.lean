/- The plain law EventBytes. -/
import Derived.Test.YthoggbomakolkaaO
namespace Go.Proofs.Ythoggbomakolkaa
open Go Fw
set_option linter.unusedVariables false
set_option linter.unusedSimpArgs false

theorem much_ends (k : Nat) (hk : 3002 ≤ k) (e : api_Event) : ∃ v, ref09_Much k e = some v := by
  have hlp : e.To.length ≤ 3000 → ∃ t, loopO (fun s => ref09_Much.b1 k e s.1 s.2) k ((0 : Int), (0 : Int)) = some t := by
    intro hle
    have := loop_inv (body := fun s => ref09_Much.b1 k e s.1 s.2) (I := fun s => 0 ≤ s.2 ∧ s.2 ≤ e.To.length) (m := fun s => ((e.To.length : Int) - s.2).toNat) (fun _ => True) ?_ k ((0 : Int), (0 : Int)) ⟨Int.le_refl _, by show (0 : Int) ≤ _; omega⟩ (by show ((e.To.length : Int) - 0).toNat < k; omega)
    · obtain ⟨t, h1, _⟩ := this
      exact ⟨t, h1⟩
    · rintro ⟨x, s⟩ ⟨h0, h1⟩
      simp only at h0 h1
      by_cases hlt : s < e.To.length
      · obtain ⟨i, rfl⟩ : ∃ i : Nat, s = i := ⟨s.toNat, by omega⟩
        have hi : i < e.To.length := by omega
        simp only [ref09_Much.b1, lt1, dec_t hlt, if_true, idxL_lt hi, Option.bind_some, w64_succ (show i < 9223372036854775807 by omega)]
        by_cases hc : decide (w64 (x + minI (e.To[i].Device.length : Int) 200001) > 200000) = true
        · right
          rw [if_pos hc]
          exact ⟨_, rfl, trivial⟩
        · left
          rw [if_neg hc]
          exact ⟨_, rfl, ⟨by show (0 : Int) ≤ ((i + 1 : Nat) : Int); omega, by show ((i + 1 : Nat) : Int) ≤ _; omega⟩, by show ((e.To.length : Int) - ((i + 1 : Nat) : Int)).toNat < ((e.To.length : Int) - (i : Int)).toNat; omega⟩
      · right
        simp only [ref09_Much.b1, lt1, dec_f hlt, Bool.false_eq_true, if_false]
        exact ⟨_, rfl, trivial⟩
  simp only [ref09_Much, lt1]
  by_cases h1 : (e.Topic.length : Int) > 300
  · simp [h1]
  by_cases h2 : (e.Payload.length : Int) > 3000
  · simp [h1, h2]
  by_cases h3 : (e.To.length : Int) > 3000
  · simp [h1, h2, h3]
  obtain ⟨t, ht⟩ := hlp (by omega)
  simp only [h1, h2, h3, decide_false, Bool.false_eq_true, if_false, Option.bind_some, ht]
  cases t
  · exact ⟨_, rfl⟩
  · exact ⟨_, rfl⟩
theorem same_self (k : Nat) (z : api_Event) (o n : Nat) (x : List UInt8) (hv : viewL x o n = some z.Payload) (hl : z.To.length < k) (hl2 : z.To.length ≤ 1000000) : ref09_Same k z.ID z.Topic o n z.Past z.To z x = some true := by
  have h1 : eq_api_Dot z.ID z.ID = true := eq_api_Dot_iff.2 rfl
  have h2 : eqV (fun x y => x == y) z.Past z.Past = true := (eqV_iff (fun _ _ => beq_iff_eq)).2 rfl
  have hlp := loop_all (body := fun s => ref09_Same.b1 k z.To z s) z.To.length (fun _ => True) (b := false) (k := k) ?_ ?_ hl
  · simp only [ref09_Same, lt1, h1, h2, hv, Option.bind_some, bne_self_eq_false, Bool.not_true, Bool.false_eq_true, if_false, hlp, implies_true, if_true]
  · intro i hi
    have h3 : eq_api_Dest z.To[i] z.To[i] = true := eq_api_Dest_iff.2 rfl
    simp only [ref09_Same.b1, lt1, dec_t (show (i : Int) < (z.To.length : Int) by omega), if_true, idxL_lt hi, Option.bind_some, h3, Bool.not_true, Bool.false_eq_true, if_false, w64_succ (show i < 9223372036854775807 by omega)]
  · simp only [ref09_Same.b1, lt1, dec_f (show ¬ (z.To.length : Int) < (z.To.length : Int) by omega), Bool.false_eq_true, if_false]
theorem nines (k n o : Nat) (x : List UInt8) (hk : n < k) (h : o + n ≤ x.length) (hx : x.length ≤ 1000000) : ∃ t, loopO (fun s => law09_EventBytes'2.b1 k n o s.1 s.2) k (x, (0 : Int)) = some t := by
  have := loop_inv (body := fun s => law09_EventBytes'2.b1 k n o s.1 s.2) (I := fun s => 0 ≤ s.2 ∧ s.2 ≤ (n : Int) ∧ s.1.length = x.length) (m := fun s => ((n : Int) - s.2).toNat) (fun _ => True) ?_ k (x, (0 : Int)) ⟨Int.le_refl _, by show (0 : Int) ≤ _; omega, rfl⟩ (by show ((n : Int) - 0).toNat < k; omega)
  · obtain ⟨t, h1, _⟩ := this
    exact ⟨t, h1⟩
  · rintro ⟨y, s⟩ ⟨h0, h1, h2⟩
    simp only at h0 h1 h2
    by_cases hlt : s < (n : Int)
    · left
      obtain ⟨i, rfl⟩ : ∃ i : Nat, s = i := ⟨s.toNat, by omega⟩
      have e1 : inX o n (i : Int) = some (o + i) := by unfold inX; rw [if_pos ⟨by omega, by omega⟩]; simp
      have e3 : setO' y (o + i) 9 = some (y.set (o + i) 9) := by unfold setO'; rw [if_pos (by omega)]
      simp only [law09_EventBytes'2.b1, lt1, dec_t hlt, if_true, e1, e3, Option.bind_some, w64_succ (show i < 9223372036854775807 by omega)]
      exact ⟨_, rfl, ⟨by show (0 : Int) ≤ ((i + 1 : Nat) : Int); omega, by show ((i + 1 : Nat) : Int) ≤ _; omega, by show (y.set _ _).length = _; simp [h2]⟩, by show ((n : Int) - ((i + 1 : Nat) : Int)).toNat < ((n : Int) - (i : Int)).toNat; omega⟩
    · right
      simp only [law09_EventBytes'2.b1, lt1, dec_f hlt, Bool.false_eq_true, if_false]
      exact ⟨(), by simp⟩
theorem pure_EventBytes (y0 : api_Event) (y1 : (List UInt8)) (f0 : (((IntKind.min .i64 ≤ y0.ID.Region ∧ y0.ID.Region ≤ IntKind.max .i64) ∧ (True ∧ True)) ∧ ((List.length y0.Topic ≤ 140737488351232) ∧ ((List.length y0.Payload * 1 ≤ 140737488351232 ∧ ∀ z0 ∈ y0.Payload, True) ∧ ((∀ (i : Nat) (h : i < 16), True) ∧ ((List.length y0.To * 32 ≤ 140737488351232 ∧ ∀ z0 ∈ y0.To, (((IntKind.min .i64 ≤ z0.Dot.Region ∧ z0.Dot.Region ≤ IntKind.max .i64) ∧ (True ∧ True)) ∧ ((List.length z0.Device ≤ 140737488351232) ∧ True))) ∧ True)))))) (f1 : (List.length y1 * 1 ≤ 140737488351232 ∧ ∀ z0 ∈ y1, True)) : ∃ k, law09_EventBytes'2 k y0 y1 = some true := by
  obtain ⟨k, hk⟩ : ∃ k, k = 200000 := ⟨200000, rfl⟩
  refine ⟨k, ?_⟩
  have hkn := known_eq k (by omega)
  obtain ⟨mu, hmu⟩ := much_ends k (by omega) y0
  simp only [law09_EventBytes'2, hmu, hkn, lt1, Option.bind_some]
  by_cases hg : (bif mu then true else decide ((y1.length : Int) > 70000)) = true
  · simp only [hg, if_true]
  have hlen : y1.length ≤ 70000 := by
    cases mu
    · simp at hg; omega
    · simp at hg
  obtain ⟨z, ok, x, o, n, h1, h2, h3, h4, h5, hto⟩ := Of_eq k (by omega) y1 hlen
  have hs := same_self k z o n x h3 (by omega) (by omega)
  obtain ⟨t, ht⟩ := nines k n o x (by omega) h4 (by omega)
  have hnum : ∀ v, law09_num k v = some () := fun _ => rfl
  simp only [hg, Bool.false_eq_true, if_false, Bytes_eq k (by omega), May_eq k (by omega), refMay_eq k (by omega), Option.bind_some, bne_self_eq_false, h1, h2, hs, hnum, ht]
  by_cases hy : may y0
  · cases ok <;> simp [hy, refBytes2_eq k (by omega) y0 hy, ite_self]
  · cases ok <;> simp [hy, ite_self]
end Go.Proofs.Ythoggbomakolkaa
