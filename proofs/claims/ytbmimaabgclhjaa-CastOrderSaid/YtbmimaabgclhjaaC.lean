/- Casters: what each of their functions computes. -/
import Derived.Test.YtbmimaabgclhjaaN
import Derived.Test.YtbmimaabgclhjaaM
import Derived.Test.YtbmimaabgclhjaaG
namespace Go.Proofs.Ytbmimaabgclhjaa
open Go Fw
set_option linter.unusedVariables false
set_option linter.unusedSimpArgs false

/-- A loop with what holds at each round. -/
theorem loop_PQ {S τ : Type} {body : S → Option (S ⊕ τ)} (P : Nat → S → Prop) (Q : τ → Prop) (n : Nat) (hs : ∀ i s, i < n → P i s → (∃ s', body s = some (.inl s') ∧ P (i + 1) s') ∨ ∃ t, body s = some (.inr t) ∧ Q t) (he : ∀ s, P n s → ∃ t, body s = some (.inr t) ∧ Q t) {k : Nat} (hk : n < k) {s : S} (h0 : P 0 s) : ∃ t, loopO body k s = some t ∧ Q t := by
  have key : ∀ d i k s, i + d = n → d < k → P i s → ∃ t, loopO body k s = some t ∧ Q t := by
    intro d
    induction d with
    | zero =>
      intro i k s hi hk hP
      obtain ⟨k, rfl⟩ : ∃ j, k = j + 1 := ⟨k - 1, by omega⟩
      have : i = n := by omega
      subst this
      obtain ⟨t, h1, h2⟩ := he s hP
      exact ⟨t, loopO_out h1, h2⟩
    | succ d ih =>
      intro i k s hi hk hP
      obtain ⟨k, rfl⟩ : ∃ j, k = j + 1 := ⟨k - 1, by omega⟩
      rcases hs i s (by omega) hP with ⟨s', h1, h2⟩ | ⟨t, h1, h2⟩
      · rw [loopO_step h1]
        exact ih (i + 1) k s' (by omega) (by omega) h2
      · exact ⟨t, loopO_out h1, h2⟩
  exact key n 0 k s (by omega) hk h0
abbrev Hd := List (api_Dot × api_Event)
/-- An event's own place in a vector. -/
def pl (e : api_Event) : Nat := (e.ID.Region - 1).toNat
theorem may_dot {e : api_Event} (h : may e) : 1 ≤ e.ID.Region ∧ e.ID.Region ≤ 16 ∧ pl e < 16 := by
  obtain ⟨⟨⟨h1, h2, _⟩, _⟩, _⟩ := h
  exact ⟨h1, h2, by unfold pl; omega⟩
theorem may_to {e : api_Event} (h : may e) : e.To.length ≤ 1024 ∧ e.Payload.length ≤ 512 := by
  obtain ⟨⟨_, _, _, _, h1, h2⟩, _⟩ := h
  exact ⟨h2, h1⟩
theorem place_eq {e : api_Event} (h : may e) : w64 (e.ID.Region - 1) = e.ID.Region - 1 ∧ inV 16 (e.ID.Region - 1) = some ⟨pl e, (may_dot h).2.2⟩ := by
  obtain ⟨h1, h2, h3⟩ := may_dot h
  exact ⟨w64_id (by omega) (by omega), inV_ok (by omega) h3⟩
theorem cmay_eq {k : Nat} (hk : 100000 ≤ k) (e : api_Event) (hl : e.To.length ≤ 70000) (r : Int) (h1 : 1 ≤ r) (h2 : r ≤ 16) (o : Int) (v : Vc) (x : List api_Event) (y : List Vc) (z : Hd) : ∃ b, cast_Caster_may_pv_svvvoomm k e r o v x y z = some b ∧ (b = true → may e ∧ e.ID.Region ≤ r) := by
  have hm := eventMay_eq k hk e hl
  by_cases hmay : may e
  · rw [decide_eq_true hmay] at hm
    obtain ⟨p1, p2⟩ := place_eq hmay
    by_cases hr : e.ID.Region > r
    · exact ⟨false, by simp only [cast_Caster_may_pv_svvvoomm, hm, Option.bind_some, lt1, Bool.not_true, dec_t hr, cond_false, if_true], by simp⟩
    · cases hb : (!(getV e.Past ⟨pl e, (may_dot hmay).2.2⟩ == e.ID.Count - 1)) with
      | true => exact ⟨false, by simp only [cast_Caster_may_pv_svvvoomm, hm, Option.bind_some, lt1, Bool.not_true, dec_f hr, cond_false, Bool.false_eq_true, if_false, p1, p2, hb, if_true], by simp⟩
      | false =>
        have hsub : subL (Vector.toList e.Past) r 16 = some ((e.Past.toList.drop r.toNat).take (16 - r.toNat)) := subL_ok (by omega) h2 (by simp)
        generalize hl' : (e.Past.toList.drop r.toNat).take (16 - r.toNat) = l at hsub
        have hll : l.length ≤ 16 := by rw [← hl']; simp [List.length_take]
        have hL := loop_PQ (body := fun s => cast_Caster_may_pv_svvvoomm.b1 k l s) (k := k) (fun i (j : Int) => j = i) (fun t => t = .inl () ∨ t = .inr false) l.length (s := 0) (fun i t hi hP => ?_) (fun t hP => ?_) (by omega) rfl
        · obtain ⟨t, t1, t2⟩ := hL
          rcases t2 with rfl | rfl
          · exact ⟨true, by simp only [cast_Caster_may_pv_svvvoomm, hm, Option.bind_some, lt1, Bool.not_true, dec_f hr, cond_false, Bool.false_eq_true, if_false, p1, p2, hb, hsub, t1], fun _ => ⟨hmay, by omega⟩⟩
          · exact ⟨false, by simp only [cast_Caster_may_pv_svvvoomm, hm, Option.bind_some, lt1, Bool.not_true, dec_f hr, cond_false, Bool.false_eq_true, if_false, p1, p2, hb, hsub, t1], by simp⟩
        · subst hP
          cases hz : (!(l[i] == 0)) with
          | true => exact .inr ⟨.inr false, by simp only [cast_Caster_may_pv_svvvoomm.b1, lt1, dec_t (show (i : Int) < (l.length : Int) by omega), if_true, idxL_lt hi, Option.bind_some, hz], .inr rfl⟩
          | false => exact .inl ⟨_, by simp only [cast_Caster_may_pv_svvvoomm.b1, lt1, dec_t (show (i : Int) < (l.length : Int) by omega), if_true, idxL_lt hi, Option.bind_some, hz, Bool.false_eq_true, if_false, w64_succ (show i < 9223372036854775807 by omega)], rfl⟩
        · subst hP
          exact ⟨.inl (), by simp only [cast_Caster_may_pv_svvvoomm.b1, lt1, dec_f (show ¬ (l.length : Int) < (l.length : Int) by omega), Bool.false_eq_true, if_false], .inl rfl⟩
  · rw [decide_eq_false hmay] at hm
    exact ⟨false, by simp only [cast_Caster_may_pv_svvvoomm, hm, Option.bind_some, lt1, Bool.not_false, cond_true, if_true], by simp⟩
/-- It can be applied. -/
def canF (e : api_Event) (v : Vc) : Prop := ∃ h : pl e < 16, e.ID.Count = v[pl e] + 1 ∧ ∀ m (hm : m < 16), m ≠ pl e → e.Past[m] ≤ v[m]
theorem can_eq {k : Nat} (hk : 100 ≤ k) (e : api_Event) (he : may e) (r o : Int) (v : Vc) (x : List api_Event) (y : List Vc) (z : Hd) : ∃ b, cast_Caster_can_pv_svvvoomm'2 k e r o v x y z = some b ∧ (b = true → canF e v) := by
  obtain ⟨p1, p2⟩ := place_eq he
  have hp := (may_dot he).2.2
  by_cases hc : e.ID.Count = v[pl e] + 1
  · have hb : (!(e.ID.Count == getV v ⟨pl e, hp⟩ + 1)) = false := by rw [hc]; simp [getV]
    have hL := loop_PQ (body := fun s => cast_Caster_can_pv_svvvoomm'2.b1 k e v s) (k := k) (fun i (j : Int) => j = i ∧ ∀ m (hm : m < 16), m < i → m ≠ pl e → e.Past[m] ≤ v[m]) (fun t => (t = .inl () ∧ ∀ m (hm : m < 16), m ≠ pl e → e.Past[m] ≤ v[m]) ∨ t = .inr false) 16 (s := 0) (fun i t hi hP => ?_) (fun t hP => ?_) (by omega) ⟨rfl, fun m hm h => by omega⟩
    · obtain ⟨t, t1, t2⟩ := hL
      rcases t2 with ⟨rfl, t2⟩ | rfl
      · exact ⟨true, by simp only [cast_Caster_can_pv_svvvoomm'2, p1, p2, Option.bind_some, lt1, hb, Bool.false_eq_true, if_false, t1], fun _ => ⟨hp, hc, t2⟩⟩
      · exact ⟨false, by simp only [cast_Caster_can_pv_svvvoomm'2, p1, p2, Option.bind_some, lt1, hb, Bool.false_eq_true, if_false, t1], by simp⟩
    · obtain ⟨rfl, hP⟩ := hP
      have e1 : idxV e.Past (i : Int) = some e.Past[i] := by unfold idxV; rw [if_pos (by omega), Int.toNat_natCast, Vector.getElem?_eq_getElem hi]
      have e2 : inV 16 (i : Int) = some ⟨i, hi⟩ := inV_ok (by omega) (by simpa using hi)
      have hr := may_dot he
      by_cases hi' : i = pl e
      · have b0 : ((i : Int) != e.ID.Region - 1) = false := by
          have : (i : Int) = e.ID.Region - 1 := by unfold pl at hi'; omega
          rw [this]; simp
        exact .inl ⟨_, by simp only [cast_Caster_can_pv_svvvoomm'2.b1, lt1, dec_t (show (i : Int) < 16 by omega), if_true, e1, Option.bind_some, p1, b0, Bool.false_eq_true, if_false, w64_succ (show i < 9223372036854775807 by omega)], rfl, fun m hm hmi hne => hP m hm (by omega) hne⟩
      · have b0 : ((i : Int) != e.ID.Region - 1) = true := by
          have : (i : Int) ≠ e.ID.Region - 1 := by unfold pl at hi'; omega
          simpa using this
        by_cases hlt : v[i] < e.Past[i]
        · have b1 : decide (getV v ⟨i, hi⟩ < e.Past[i]) = true := decide_eq_true hlt
          exact .inr ⟨.inr false, by simp only [cast_Caster_can_pv_svvvoomm'2.b1, lt1, dec_t (show (i : Int) < 16 by omega), if_true, e1, e2, Option.bind_some, p1, b0, b1], .inr rfl⟩
        · have b1 : decide (getV v ⟨i, hi⟩ < e.Past[i]) = false := decide_eq_false hlt
          refine .inl ⟨_, by simp only [cast_Caster_can_pv_svvvoomm'2.b1, lt1, dec_t (show (i : Int) < 16 by omega), if_true, e1, e2, Option.bind_some, p1, b0, b1, Bool.false_eq_true, if_false, w64_succ (show i < 9223372036854775807 by omega)], rfl, fun m hm hmi hne => ?_⟩
          by_cases hmi' : m = i
          · subst hmi'; exact UInt64.not_lt.1 hlt
          · exact hP m hm (by omega) hne
    · obtain ⟨rfl, hP⟩ := hP
      exact ⟨.inl (), by simp only [cast_Caster_can_pv_svvvoomm'2.b1, lt1, dec_f (show ¬ ((16 : Nat) : Int) < 16 by decide), Bool.false_eq_true, if_false], .inl ⟨rfl, fun m hm hne => hP m hm hm hne⟩⟩
  · have hb : (!(e.ID.Count == getV v ⟨pl e, hp⟩ + 1)) = true := by simpa [getV] using hc
    exact ⟨false, by simp only [cast_Caster_can_pv_svvvoomm'2, p1, p2, Option.bind_some, lt1, hb, if_true], by simp⟩
/-- A vector with one more of an event's region. -/
def bump (v : Vc) (e : api_Event) : Vc := if h : pl e < 16 then v.set (pl e) (v[pl e] + 1) h else v
theorem apply_eq (k : Nat) (e : api_Event) (he : may e) (r o : Int) (v : Vc) (x : List api_Event) (y : List Vc) (z : Hd) (hx : x.length ≤ 1000000) (hy : y.length ≤ 1000000) : cast_Caster_apply_pv_svvvoomm'2 k e r o v x y z = some (bump v e, x ++ [e], y ++ [bump v e]) := by
  obtain ⟨p1, p2⟩ := place_eq he
  have hp := (may_dot he).2.2
  have hb : putV v ⟨pl e, hp⟩ (getV v ⟨pl e, hp⟩ + 1) = bump v e := by unfold bump putV getV; rw [dif_pos hp]
  simp only [cast_Caster_apply_pv_svvvoomm'2, p1, p2, Option.bind_some, lt1, apL_ok (show (x.length + [e].length) * 208 ≤ 140737488355328 by simp; omega), hb, apL_ok (show (y.length + [bump v e].length) * 128 ≤ 140737488355328 by simp; omega)]
theorem fresh_eq (k : Nat) (e : api_Event) (h1 : e.Payload.length ≤ 1000000) (h2 : e.To.length ≤ 1000000) : cast_fresh k e = some e := by
  simp only [cast_fresh, slices_Clonebyte_byte, slices_Cloneapi_Dest_api_Dest, apL_ok (show (([] : List UInt8).length + e.Payload.length) * 1 ≤ 140737488355328 by simp; omega), apL_ok (show (([] : List api_Dest).length + e.To.length) * 32 ≤ 140737488355328 by simp; omega), Option.bind_some, List.nil_append]
theorem all_eq {k : Nat} (l : List api_Event) (hk : l.length < k) (hl : l.length ≤ 1000000) (h : ∀ e ∈ l, e.Payload.length ≤ 1000000 ∧ e.To.length ≤ 1000000) : cast_all k l = some l := by
  have hloop : loopO (fun s => cast_all.b1 k l s.1 s.2) k (l, (0 : Int)) = some l := by
    refine loop_nat (f := fun _ => l) l.length l (fun i hi => ?_) ?_ hk rfl
    · have e1 : inO l (i : Int) = some i := by rw [inO_ok (by omega) (by omega)]; simp
      have e2 : l[i]? = some l[i] := List.getElem?_eq_getElem hi
      have e3 : setO' l i l[i] = some l := by unfold setO'; rw [if_pos hi, List.set_getElem_self]
      obtain ⟨g1, g2⟩ := h _ (List.getElem_mem hi)
      simp only [cast_all.b1, lt1, dec_t (show (i : Int) < (l.length : Int) by omega), if_true, e1, e2, Option.bind_some, fresh_eq k _ g1 g2, e3, w64_succ (show i < 9223372036854775807 by omega)]
    · simp only [cast_all.b1, lt1, dec_f (show ¬ (l.length : Int) < (l.length : Int) by omega), Bool.false_eq_true, if_false]
  simp only [cast_all, slices_Cloneapi_Event_api_Event, apL_ok (show (([] : List api_Event).length + l.length) * 208 ≤ 140737488355328 by simp; omega), Option.bind_some, List.nil_append, hloop]
end Go.Proofs.Ytbmimaabgclhjaa
