/- The plain law CastOrder. -/
import Derived.Test.YtbmimaabgclhjaaK
namespace Go.Proofs.Ytbmimaabgclhjaa
open Go Fw
set_option linter.unusedVariables false
set_option linter.unusedSimpArgs false

def sv (v : Vc) : Vector UInt64 17 := Vector.ofFn fun j => if h : j.1 = 0 then 0 else v[j.1 - 1]'(by have := j.isLt; omega)
theorem sv_zero : sv zeroV = Vector.replicate 17 0 := by decide +kernel
theorem sv_get (v : Vc) (j : Nat) (h : j < 17) (h0 : 1 ≤ j) : (sv v)[j] = v[j - 1]'(by omega) := by
  unfold sv; rw [Vector.getElem_ofFn, dif_neg (show ¬ j = 0 by omega)]
theorem sv_bump (v : Vc) (e : api_Event) (he : may e) (h : e.ID.Region.toNat < 17) : (sv v).set e.ID.Region.toNat (v[pl e]'(may_dot he).2.2 + 1) h = sv (bump v e) := by
  obtain ⟨d1, d2, d3⟩ := may_dot he
  apply Vector.ext
  intro j hj
  rw [Vector.getElem_set]
  by_cases hje : e.ID.Region.toNat = j
  · rw [if_pos hje, sv_get _ j hj (by omega), bump_get d3, if_pos (by unfold pl; omega)]
    congr 2
    unfold pl; omega
  · rw [if_neg hje]
    by_cases h0 : j = 0
    · subst h0; unfold sv; simp
    · rw [sv_get _ j hj (by omega), sv_get _ j hj (by omega), bump_get d3, if_neg (by unfold pl; omega)]
theorem bump_le {v : Vc} {e : api_Event} (g : good v e) (m : Nat) (hm : m < 16) : v[m] ≤ (bump v e)[m] := by
  obtain ⟨he, hc, _⟩ := g
  have d3 := (may_dot he).2.2
  rw [bump_get d3]
  by_cases hmp : m = pl e
  · subst hmp
    rw [if_pos rfl]
    rw [bump_at d3] at hc
    obtain ⟨_, q2, _⟩ := may_past he
    rw [hc] at q2
    apply UInt64.le_iff_toNat_le.2
    rw [UInt64.toNat_add] at q2 ⊢
    have := v[pl e].toNat_lt
    simp at q2 ⊢
    omega
  · rw [if_neg hmp]; exact UInt64.le_refl _
theorem ahead_mono {l : List api_Event} {b : List Vc} {v : Vc} (h : Runs l b v) (m : Nat) (hm : m < 16) : ∀ d i, i + d ≤ l.length → (ahead b i)[m] ≤ (ahead b (i + d))[m]
  | 0, i, _ => UInt64.le_refl _
  | d + 1, i, hd => by
    obtain ⟨g1, g2⟩ := h.at (i + d) (by omega)
    have ha : ahead b (i + (d + 1)) = bump (ahead b (i + d)) l[i + d] := by
      show (if i + (d + 1) = 0 then zeroV else b[i + (d + 1) - 1]?.getD zeroV) = _
      rw [if_neg (by omega), show i + (d + 1) - 1 = i + d by omega, g1]; rfl
    rw [ha]
    exact UInt64.le_trans (ahead_mono h m hm d i (by omega)) (bump_le g2 m hm)
theorem order_round {k : Nat} (hk : 100000 ≤ k) (s : CS) (n : Nat) (hn : n ≤ 200) (h : CInv n s) (i : Nat) (hi : i < s.l.length) : law13_CastOrder.b2 k s.l (sv (ahead s.b i)) (i : Int) = some (.inl (sv (ahead s.b (i + 1)), ((i + 1 : Nat) : Int))) := by
  obtain ⟨g1, g2⟩ := h.runs.at i hi
  have hsz := h.size
  have g2' := g2
  obtain ⟨he, hc, hp⟩ := g2
  obtain ⟨d1, d2, d3⟩ := may_dot he
  obtain ⟨p1, p2⟩ := place_eq he
  have e1 : inO s.l (i : Int) = some i := by rw [inO_ok (by omega) (by omega)]; simp
  have e3 : s.l[i]? = some s.l[i] := List.getElem?_eq_getElem hi
  have hR : s.l[i].ID.Region.toNat < 17 := by omega
  have e4 : inV 17 s.l[i].ID.Region = some ⟨s.l[i].ID.Region.toNat, hR⟩ := inV_ok (by omega) hR
  have hg : getV (sv (ahead s.b i)) ⟨s.l[i].ID.Region.toNat, hR⟩ = (ahead s.b i)[pl s.l[i]] := by
    show (sv (ahead s.b i))[s.l[i].ID.Region.toNat] = _
    rw [sv_get _ _ hR (by omega)]
    congr 1
    unfold pl; omega
  rw [bump_at d3] at hc
  have hcb : (!(s.l[i].ID.Count == (ahead s.b i)[pl s.l[i]] + 1)) = false := by rw [hc]; simp
  have hput : putV (sv (ahead s.b i)) ⟨s.l[i].ID.Region.toNat, hR⟩ ((ahead s.b i)[pl s.l[i]] + 1) = sv (bump (ahead s.b i) s.l[i]) := sv_bump _ _ he hR
  have hah : ahead s.b (i + 1) = bump (ahead s.b i) s.l[i] := by
    show (if i + 1 = 0 then zeroV else s.b[i + 1 - 1]?.getD zeroV) = _
    rw [if_neg (by omega), Nat.add_sub_cancel, g1]; rfl
  have hL := loop_PQ (body := fun z => law13_CastOrder.b3 k (i : Int) s.l z) (k := k) (fun m (j : Int) => j = m) (fun t => t = .inl ()) i (s := 0) (fun m t hm hP => ?_) (fun t hP => ?_) (by omega) rfl
  · obtain ⟨t, q1, rfl⟩ := hL
    simp only [law13_CastOrder.b2, lt1, dec_t (show (i : Int) < (s.l.length : Int) by omega), if_true, e1, e3, Option.bind_some, dec_f (show ¬ s.l[i].ID.Region < 1 by omega), dec_f (show ¬ s.l[i].ID.Region > 16 by omega), cond_false, Bool.false_eq_true, if_false, e4, hg, hcb, hput, q1, w64_succ (show i < 9223372036854775807 by omega), hah]
  · subst hP
    have hml : m < s.l.length := by omega
    obtain ⟨k1, k2⟩ := h.runs.at m hml
    have m1 : inO s.l (m : Int) = some m := by rw [inO_ok (by omega) (by omega)]; simp
    have m3 : s.l[m]? = some s.l[m] := List.getElem?_eq_getElem hml
    have hlt : decide (s.l[i].ID.Count ≤ getV s.l[m].Past ⟨pl s.l[i], d3⟩) = false := by
      refine decide_eq_false (fun hle => ?_)
      have h1 : s.l[m].Past[pl s.l[i]] ≤ (bump (ahead s.b m) s.l[m])[pl s.l[i]] := k2.2.2 _ d3
      have hah' : ahead s.b (m + 1) = bump (ahead s.b m) s.l[m] := by
        show (if m + 1 = 0 then zeroV else s.b[m + 1 - 1]?.getD zeroV) = _
        rw [if_neg (by omega), Nat.add_sub_cancel, k1]; rfl
      have h2 := ahead_mono h.runs (pl s.l[i]) d3 (i - (m + 1)) (m + 1) (by omega)
      rw [show m + 1 + (i - (m + 1)) = i by omega] at h2
      rw [← hah'] at h1
      have h3 : s.l[i].ID.Count ≤ (ahead s.b i)[pl s.l[i]] := UInt64.le_trans hle (UInt64.le_trans h1 h2)
      obtain ⟨_, q2, _⟩ := may_past he
      rw [hc] at h3 q2
      have h3 := UInt64.le_iff_toNat_le.1 h3
      rw [UInt64.toNat_add] at h3 q2
      have := (ahead s.b i)[pl s.l[i]].toNat_lt
      simp at h3 q2
      omega
    have hbf : ref13_Before k s.l[i] s.l[m] = some false := by
      simp only [ref13_Before, lt1, dec_t (show s.l[i].ID.Region ≥ 1 by omega), dec_t d2, cond_true, p1, p2, if_true, Option.bind_some, hlt]
    exact .inl ⟨_, by simp only [law13_CastOrder.b3, lt1, dec_t (show (m : Int) < (i : Int) by omega), if_true, e1, e3, m1, m3, Option.bind_some, hbf, Bool.false_eq_true, if_false, w64_succ (show m < 9223372036854775807 by omega)], rfl⟩
  · subst hP
    exact ⟨.inl (), by simp only [law13_CastOrder.b3, lt1, dec_f (show ¬ (i : Int) < (i : Int) by omega), Bool.false_eq_true, if_false], rfl⟩
theorem pure_CastOrder (y0 : Int) (y1 : Int) (y2 : (List law13_Act)) (f0 : (IntKind.min .i64 ≤ y0 ∧ y0 ≤ IntKind.max .i64)) (f1 : (IntKind.min .i64 ≤ y1 ∧ y1 ≤ IntKind.max .i64)) (f2 : (List.length y2 * 216 ≤ 140737488351232 ∧ ∀ z0 ∈ y2, ((IntKind.min .i64 ≤ z0.Kind ∧ z0.Kind ≤ IntKind.max .i64) ∧ ((((IntKind.min .i64 ≤ z0.Event.ID.Region ∧ z0.Event.ID.Region ≤ IntKind.max .i64) ∧ (True ∧ True)) ∧ ((List.length z0.Event.Topic ≤ 140737488351232) ∧ ((List.length z0.Event.Payload * 1 ≤ 140737488351232 ∧ ∀ z1 ∈ z0.Event.Payload, True) ∧ ((∀ (i : Nat) (h : i < 16), True) ∧ ((List.length z0.Event.To * 32 ≤ 140737488351232 ∧ ∀ z1 ∈ z0.Event.To, (((IntKind.min .i64 ≤ z1.Dot.Region ∧ z1.Dot.Region ≤ IntKind.max .i64) ∧ (True ∧ True)) ∧ ((List.length z1.Device ≤ 140737488351232) ∧ True))) ∧ True))))) ∧ True)))) : ∃ k, law13_CastOrder k y0 y1 y2 = some true := by
  refine ⟨(199900 + y2.length) + 100, ?_⟩
  have hkn := known13 (199900 + y2.length) (by omega)
  have hk : 100000 ≤ (199900 + y2.length) + 100 := by omega
  have hk2 : y2.length < (199900 + y2.length) + 100 := by omega
  generalize (199900 + y2.length) + 100 = k at hkn hk hk2 ⊢
  obtain ⟨b, hb, hs⟩ := much_eq (k := k) y2 hk2 (by omega)
  cases b with
  | true => simp only [law13_CastOrder, hb, Option.bind_some, if_true, hkn]
  | false =>
    obtain ⟨hl, hs⟩ := hs rfl
    by_cases h1 : y0 < 1
    · simp only [law13_CastOrder, hb, Option.bind_some, Bool.false_eq_true, if_false, cast_New, lt1, dec_t h1, cond_true, if_true, hkn]
    by_cases h2 : y0 > 16
    · simp only [law13_CastOrder, hb, Option.bind_some, Bool.false_eq_true, if_false, cast_New, lt1, dec_f h1, dec_t h2, cond_true, cond_false, if_true, hkn]
    by_cases h3 : y1 < 1
    · simp only [law13_CastOrder, hb, Option.bind_some, Bool.false_eq_true, if_false, cast_New, lt1, dec_f h1, dec_f h2, dec_t h3, cond_true, cond_false, if_true, hkn]
    by_cases h4 : y1 > y0
    · simp only [law13_CastOrder, hb, Option.bind_some, Bool.false_eq_true, if_false, cast_New, lt1, dec_f h1, dec_f h2, dec_f h3, dec_t h4, cond_false, if_true, hkn]
    have hnew : cast_New k y0 y1 = some (.inl ()) := by
      simp only [cast_New, lt1, dec_f h1, dec_f h2, dec_f h3, dec_f h4, cond_false, Option.bind_some, Bool.false_eq_true, if_false]
    have hL := loop_PQ (body := fun s => law13_CastOrder.b1 k y2 y0 y1 s.1 s.2.1 s.2.2.1 s.2.2.2.1 s.2.2.2.2) (k := k) (fun i (t : Vc × List api_Event × List Vc × Hd × Int) => ∃ s : CS, CInv i s ∧ t = (s.v, s.l, s.b, s.x, (i : Int))) (fun t => ∃ s : CS, CInv y2.length s ∧ t = (s.v, s.l, s.b, s.x)) y2.length (s := (Vector.replicate 16 (0 : UInt64), [], [], [], 0)) (fun i t hi hP => ?_) (fun t hP => ?_) hk2 ⟨⟨zeroV, [], [], []⟩, ⟨.nil, fun p hp => by simp at hp, by simp⟩, rfl⟩
    · obtain ⟨t, t1, s, hI, rfl⟩ := hL
      have hsz := hI.size
      have hth : cast_Caster_there_p_svvvoomm k y0 y1 s.v s.l s.b s.x = some () := rfl
      have hall := all_eq (k := k) s.l (by omega) (by omega) (fun f hf => by have := may_to (hI.runs.mays f hf); omega)
      have hlog : cast_Caster_Log_p_svvvoomm k y0 y1 s.v s.l s.b s.x = some s.l := by simp only [cast_Caster_Log_p_svvvoomm, hth, hall, Option.bind_some]
      have hL2 := loop_PQ (body := fun z => law13_CastOrder.b2 k s.l z.1 z.2) (k := k) (fun i (z : Vector UInt64 17 × Int) => z = (sv (ahead s.b i), (i : Int))) (fun t => t = .inl ()) s.l.length (s := (Vector.replicate 17 (0 : UInt64), 0)) (fun i z hi hP => ?_) (fun z hP => ?_) (by omega) (by rw [← sv_zero]; rfl)
      · obtain ⟨u, u1, rfl⟩ := hL2
        simp only [law13_CastOrder, hb, Option.bind_some, Bool.false_eq_true, if_false, hnew, t1, hlog, u1, hkn]
      · subst hP
        exact .inl ⟨_, order_round hk s y2.length (by omega) hI i hi, rfl⟩
      · subst hP
        exact ⟨.inl (), by simp only [law13_CastOrder.b2, lt1, dec_f (show ¬ (s.l.length : Int) < (s.l.length : Int) by omega), Bool.false_eq_true, if_false], rfl⟩
    · obtain ⟨s, hI, rfl⟩ := hP
      left
      obtain ⟨q1, q2⟩ := hs _ (List.getElem_mem hi)
      by_cases hK : y2[i].Kind = 1
      · have kb : (y2[i].Kind == 1) = true := by rw [hK]; rfl
        obtain ⟨e, f, s', r1, r2, r3⟩ := pub_eq hk y2[i].Event.Topic y2[i].Event.Payload y2[i].Event.To (by omega) y0 y1 (by omega) (by omega) (by omega) (by omega) i (by omega) s hI
        exact ⟨(s'.v, s'.l, s'.b, s.x, ((i + 1 : Nat) : Int)), by simp only [law13_CastOrder.b1, lt1, dec_t (show (i : Int) < (y2.length : Int) by omega), if_true, idxL_lt hi, Option.bind_some, kb, r1, w64_succ (show i < 9223372036854775807 by omega)], s', r3, by rw [r2]⟩
      · have kb : (y2[i].Kind == 1) = false := by simpa using hK
        obtain ⟨a, f, s', r1, r3⟩ := offer_eq hk y2[i].Event (by omega) y0 y1 (by omega) (by omega) i (by omega) s hI
        exact ⟨_, by simp only [law13_CastOrder.b1, lt1, dec_t (show (i : Int) < (y2.length : Int) by omega), if_true, idxL_lt hi, Option.bind_some, kb, Bool.false_eq_true, if_false, r1, w64_succ (show i < 9223372036854775807 by omega)], s', r3, rfl⟩
    · obtain ⟨s, hI, rfl⟩ := hP
      exact ⟨_, by simp only [law13_CastOrder.b1, lt1, dec_f (show ¬ (y2.length : Int) < (y2.length : Int) by omega), Bool.false_eq_true, if_false], s, hI, rfl⟩
end Go.Proofs.Ytbmimaabgclhjaa
