/- Casters: what stays. -/
import Derived.Test.YtbmimaabgclhjaaC
namespace Go.Proofs.Ytbmimaabgclhjaa
open Go Fw
set_option linter.unusedVariables false
set_option linter.unusedSimpArgs false

def zeroV : Vc := Vector.replicate 16 0
/-- An event is applied to a vector. -/
def good (v : Vc) (e : api_Event) : Prop := may e ∧ e.ID.Count = (bump v e)[pl e]?.getD 0 ∧ ∀ m (hm : m < 16), e.Past[m] ≤ (bump v e)[m]
inductive Runs : List api_Event → List Vc → Vc → Prop
  | nil : Runs [] [] zeroV
  | snoc {l : List api_Event} {b : List Vc} {v : Vc} {e : api_Event} (h : Runs l b v) (g : good v e) : Runs (l ++ [e]) (b ++ [bump v e]) (bump v e)
theorem Runs.len {l : List api_Event} {b : List Vc} {v : Vc} (h : Runs l b v) : l.length = b.length := by
  induction h with
  | nil => rfl
  | snoc h g ih => simp [ih]
theorem Runs.mays {l : List api_Event} {b : List Vc} {v : Vc} (h : Runs l b v) : ∀ e ∈ l, may e := by
  induction h with
  | nil => intro e h; simp at h
  | snoc h g ih =>
    intro e he
    rcases List.mem_append.1 he with he | he
    · exact ih e he
    · simp at he; subst he; exact g.1
theorem bump_at {v : Vc} {e : api_Event} (h : pl e < 16) : (bump v e)[pl e]?.getD 0 = v[pl e] + 1 := by
  unfold bump; rw [dif_pos h]; simp
theorem bump_get {v : Vc} {e : api_Event} (h : pl e < 16) (m : Nat) (hm : m < 16) : (bump v e)[m] = if m = pl e then v[m] + 1 else v[m] := by
  unfold bump
  simp only [dif_pos h, Vector.getElem_set]
  by_cases hmp : pl e = m
  · subst hmp; simp
  · rw [if_neg hmp, if_neg (fun h => hmp h.symm)]
theorem may_past {e : api_Event} (h : may e) : e.Past[pl e]'(may_dot h).2.2 = e.ID.Count - 1 ∧ 1 ≤ e.ID.Count.toNat ∧ small e.Past := by
  obtain ⟨⟨⟨h1, h2, h3, h4⟩, h5, h6, _⟩, _⟩ := h
  have hp : (e.ID.Region - 1).toNat < 16 := by omega
  rw [at_lt hp] at h6
  refine ⟨?_, h3, h5⟩
  apply UInt64.toNat_inj.1
  rw [pred_toNat h3]
  exact h6
theorem can_good {v : Vc} {e : api_Event} (he : may e) (hc : canF e v) : good v e := by
  obtain ⟨hp, h1, h2⟩ := hc
  obtain ⟨q1, q2, q3⟩ := may_past he
  refine ⟨he, by rw [bump_at hp]; exact h1, fun m hm => ?_⟩
  rw [bump_get hp]
  by_cases hmp : m = pl e
  · subst hmp
    rw [if_pos rfl, q1, ← h1]
    apply UInt64.le_iff_toNat_le.2
    rw [pred_toNat q2]
    omega
  · rw [if_neg hmp]; exact h2 m hm hmp
/-- A caster. -/
structure CS where
  v : Vc
  l : List api_Event
  b : List Vc
  x : Hd
structure CInv (n : Nat) (s : CS) : Prop where
  runs : Runs s.l s.b s.v
  held : ∀ p ∈ s.x, may p.2
  size : s.l.length + s.x.length ≤ n
theorem CInv.apply {n : Nat} {s : CS} (h : CInv n s) {e : api_Event} (g : good s.v e) (x' : Hd) (hx : ∀ p ∈ x', p ∈ s.x) (m : Nat) (hm : s.l.length + 1 + x'.length ≤ m) : CInv m ⟨bump s.v e, s.l ++ [e], s.b ++ [bump s.v e], x'⟩ :=
  ⟨.snoc h.runs g, fun p hp => h.held p (hx p hp), by simp; omega⟩
theorem pub_good {v : Vc} {e : api_Event} (he : may e) (hv : e.Past = v) (hc : e.ID.Count = v[pl e]'(may_dot he).2.2 + 1) : good v e := by
  have hp := (may_dot he).2.2
  obtain ⟨q1, q2, q3⟩ := may_past he
  refine ⟨he, by rw [bump_at hp]; exact hc, fun m hm => ?_⟩
  rw [bump_get hp]
  by_cases hmp : m = pl e
  · subst hmp
    rw [if_pos rfl, q1, ← hc]
    apply UInt64.le_iff_toNat_le.2
    rw [pred_toNat q2]
    omega
  · rw [if_neg hmp, hv]; exact UInt64.le_refl _
/-- The rounds behind an applied event. -/
theorem rounds_eq {k : Nat} (hk : 100000 ≤ k) (r o : Int) (h1 : 1 ≤ r) (h2 : r ≤ 16) (n : Nat) (hn : n ≤ 300) (n0 : Nat) (s : CS) (h : CInv n s) (hn0 : n0 ≤ s.l.length) : ∃ s' : CS, loopO (fun s => cast_Caster_Offer_pv_svvvoomm.b1 k r o s.1 s.2.1 s.2.2.1 s.2.2.2.1 s.2.2.2.2) k (s.v, s.l, s.b, s.x, (1 : Int)) = some (s'.v, s'.l, s'.b, s'.x) ∧ CInv n s' ∧ n0 ≤ s'.l.length := by
  have hL := loop_inv (body := fun s => cast_Caster_Offer_pv_svvvoomm.b1 k r o s.1 s.2.1 s.2.2.1 s.2.2.2.1 s.2.2.2.2) (fun (t : Vc × List api_Event × List Vc × Hd × Int) => CInv n ⟨t.1, t.2.1, t.2.2.1, t.2.2.2.1⟩ ∧ n0 ≤ t.2.1.length ∧ 1 ≤ t.2.2.2.2 ∧ t.2.2.2.2 ≤ 17) (fun t => t.2.2.2.1.length * 18 + (17 - t.2.2.2.2).toNat) (fun t => CInv n ⟨t.1, t.2.1, t.2.2.1, t.2.2.2⟩ ∧ n0 ≤ t.2.1.length) ?_ k (s.v, s.l, s.b, s.x, (1 : Int)) ⟨h, hn0, show (1 : Int) ≤ 1 by decide, show (1 : Int) ≤ 17 by decide⟩ (by have := h.size; show s.x.length * 18 + 16 < k; omega)
  · obtain ⟨t, t1, t2, t3⟩ := hL
    exact ⟨⟨t.1, t.2.1, t.2.2.1, t.2.2.2⟩, t1, t2, t3⟩
  · rintro ⟨v, l, b, x, i⟩ ⟨g1, g2, g3, g4⟩
    simp only at g1 g2 g3 g4
    by_cases hi : i ≤ r
    · left
      have w1 : w64 (i - 1) = i - 1 := w64_id (by omega) (by omega)
      have hin : (i - 1).toNat < 16 := by omega
      have e1 : inV 16 (i - 1) = some ⟨(i - 1).toNat, hin⟩ := inV_ok (by omega) hin
      have w2 : w64 (i + 1) = i + 1 := w64_id (by omega) (by omega)
      have w3 : w64 ((0 : Int) + 1) = 1 := w64_id (by decide) (by decide)
      have hmg : ∀ q : api_Dot, mgetO (some x) q = mget q x := fun _ => rfl
      generalize hq : (api_Dot.mk i (getV v ⟨(i - 1).toNat, hin⟩ + 1)) = q
      cases hg : mget q x with
      | none =>
        refine ⟨(v, l, b, x, i + 1), by simp only [cast_Caster_Offer_pv_svvvoomm.b1, lt1, dec_t hi, if_true, w1, e1, Option.bind_some, hq, mgetC, hmg, hg, Option.getD_none, Option.isSome_none, Bool.false_eq_true, if_false, w2], ⟨g1, g2, by show 1 ≤ i + 1; omega, by show i + 1 ≤ 17; omega⟩, ?_⟩
        show x.length * 18 + (17 - (i + 1)).toNat < x.length * 18 + (17 - i).toNat
        omega
      | some e =>
        have he : may e := g1.held (q, e) (mget_mem hg)
        obtain ⟨c, c1, c2⟩ := can_eq (k := k) (by omega) e he r o v l b x
        cases c with
        | false =>
          refine ⟨(v, l, b, x, i + 1), by simp only [cast_Caster_Offer_pv_svvvoomm.b1, lt1, dec_t hi, if_true, w1, e1, Option.bind_some, hq, mgetC, hmg, hg, Option.getD_some, Option.isSome_some, c1, Bool.false_eq_true, if_false, w2], ⟨g1, g2, by show 1 ≤ i + 1; omega, by show i + 1 ≤ 17; omega⟩, ?_⟩
          show x.length * 18 + (17 - (i + 1)).toNat < x.length * 18 + (17 - i).toNat
          omega
        | true =>
          have hd := len_del q x
          rw [hg] at hd
          simp only [Option.isSome_some, if_true] at hd
          have hx0 : 0 < x.length := by
            cases x with
            | nil => cases hg
            | cons _ _ => simp
          have hs := g1.size
          simp only at hs
          have hbl := g1.runs.len
          simp only at hbl
          have ha := apply_eq k e he r o v l b (mdel q x) (by omega) (by omega)
          refine ⟨(bump v e, l ++ [e], b ++ [bump v e], mdel q x, 1), by simp only [cast_Caster_Offer_pv_svvvoomm.b1, lt1, dec_t hi, if_true, w1, e1, Option.bind_some, hq, mgetC, hmg, hg, Option.getD_some, Option.isSome_some, c1, ha, w3], ⟨g1.apply (can_good he (c2 rfl)) (mdel q x) (fun p hp => mem_mdel hp) n (by simp only; omega), by simp only [List.length_append]; omega, show (1 : Int) ≤ 1 by decide, show (1 : Int) ≤ 17 by decide⟩, ?_⟩
          show (mdel q x).length * 18 + 16 < x.length * 18 + (17 - i).toNat
          omega
    · right
      exact ⟨(v, l, b, x), by simp only [cast_Caster_Offer_pv_svvvoomm.b1, lt1, dec_f hi, Bool.false_eq_true, if_false], g1, g2⟩
theorem offer_eq {k : Nat} (hk : 100000 ≤ k) (e : api_Event) (hl : e.To.length ≤ 70000) (r o : Int) (h1 : 1 ≤ r) (h2 : r ≤ 16) (n : Nat) (hn : n ≤ 200) (s : CS) (h : CInv n s) : ∃ a f, ∃ s' : CS, cast_Caster_Offer_pv_svvvoomm k e r o s.v s.l s.b s.x = some (a, f, s'.v, s'.l, s'.b, s'.x) ∧ CInv (n + 1) s' := by
  have hup : CInv (n + 1) s := ⟨h.runs, h.held, by have := h.size; omega⟩
  obtain ⟨b, b1, b2⟩ := cmay_eq hk e hl r h1 h2 o s.v s.l s.b s.x
  have hth : cast_Caster_there_p_svvvoomm k r o s.v s.l s.b s.x = some () := rfl
  cases b with
  | false => exact ⟨[], 2, s, by simp only [cast_Caster_Offer_pv_svvvoomm, hth, Option.bind_some, b1, lt1, Bool.not_false, if_true], hup⟩
  | true =>
    obtain ⟨he, _⟩ := b2 rfl
    obtain ⟨p1, p2⟩ := place_eq he
    have hmg : ∀ q : api_Dot, mgetO (some s.x) q = mget q s.x := fun _ => rfl
    have hgd : Option.getD (some s.x) [] = s.x := rfl
    cases hg : mget e.ID s.x with
    | some u => exact ⟨[], 0, s, by simp only [cast_Caster_Offer_pv_svvvoomm, hth, Option.bind_some, b1, lt1, Bool.not_true, Bool.false_eq_true, if_false, mgetC, hmg, hg, Option.isSome_some, if_true], hup⟩
    | none =>
      cases hle : decide (e.ID.Count ≤ getV s.v ⟨pl e, (may_dot he).2.2⟩) with
      | true => exact ⟨[], 0, s, by simp only [cast_Caster_Offer_pv_svvvoomm, hth, Option.bind_some, b1, lt1, Bool.not_true, Bool.false_eq_true, if_false, mgetC, hmg, hg, Option.isSome_none, p1, p2, hle, if_true], hup⟩
      | false =>
        obtain ⟨c, c1, c2⟩ := can_eq (k := k) (by omega) e he r o s.v s.l s.b s.x
        obtain ⟨t1, t2⟩ := may_to he
        have hfr := fresh_eq k e (by omega) (by omega)
        cases c with
        | false =>
          have hsz := h.size
          have hx : ¬ (s.x.length : Int) ≥ 256 := by omega
          have hlp := len_put e.ID e s.x
          rw [hg] at hlp
          simp only [Option.isSome_none, Bool.false_eq_true, if_false] at hlp
          exact ⟨[], 0, ⟨s.v, s.l, s.b, mput e.ID e s.x⟩, by simp only [cast_Caster_Offer_pv_svvvoomm, hth, Option.bind_some, b1, lt1, Bool.not_true, Bool.not_false, Bool.false_eq_true, if_false, mgetC, hmg, hg, Option.isSome_none, p1, p2, hle, c1, if_true, hgd, dec_f hx, hfr], ⟨h.runs, fun p hp => by
            rcases mem_mput hp with rfl | hp
            · exact he
            · exact h.held p hp, by simp only; omega⟩⟩
        | true =>
          have hsz := h.size
          have hbl := h.runs.len
          have ha := apply_eq k e he r o s.v s.l s.b s.x (by omega) (by omega)
          have hI : CInv (n + 1) ⟨bump s.v e, s.l ++ [e], s.b ++ [bump s.v e], s.x⟩ := h.apply (can_good he (c2 rfl)) s.x (fun _ h => h) (n + 1) (by omega)
          obtain ⟨s', r1, r2, r3⟩ := rounds_eq hk r o h1 h2 (n + 1) (by omega) s.l.length _ hI (by simp)
          simp only at r1
          have hs' := r2.size
          have hsub : subL s'.l (s.l.length : Int) (s'.l.length : Int) = some ((s'.l.drop s.l.length).take (s'.l.length - s.l.length)) := subL_ok (by omega) (by omega) (by omega)
          have hall := all_eq (k := k) ((s'.l.drop s.l.length).take (s'.l.length - s.l.length)) (by simp [List.length_take]; omega) (by simp [List.length_take]; omega) (fun f hf => by
            have hf := may_to (r2.runs.mays f (List.mem_of_mem_drop (List.mem_of_mem_take hf)))
            omega)
          exact ⟨_, 0, s', by simp only [cast_Caster_Offer_pv_svvvoomm, hth, Option.bind_some, b1, lt1, Bool.not_true, Bool.false_eq_true, if_false, mgetC, hmg, hg, Option.isSome_none, p1, p2, hle, c1, hfr, ha, r1, hsub, hall]; rfl, r2⟩
end Go.Proofs.Ytbmimaabgclhjaa
