/- The plain law CastPast. -/
import Derived.Test.YtbmimaabgclhjaaK
namespace Go.Proofs.Ytbmimaabgclhjaa
open Go Fw
set_option linter.unusedVariables false
set_option linter.unusedSimpArgs false

theorem eqV_refl (x : Vc) : eqV (fun x y => x == y) x x = true := by
  unfold eqV
  rw [List.all_eq_true]
  intro i hi
  have hi' : i < 16 := List.mem_range.1 hi
  rw [dif_pos hi']
  simp
theorem past_round {k : Nat} (hk : 100000 ≤ k) (r : Int) (s : CS) (n : Nat) (hn : n ≤ 200) (h : CInv n s) (i : Nat) (hi : i < s.l.length) : law13_CastPast.b2 k r s.v s.l s.b s.x (ahead s.b i) (i : Int) = some (.inl (ahead s.b (i + 1), ((i + 1 : Nat) : Int))) := by
  obtain ⟨g1, g2⟩ := h.runs.at i hi
  have hlen := h.runs.len
  have hsz := h.size
  obtain ⟨he, hc, hp⟩ := g2
  obtain ⟨d1, d2, d3⟩ := may_dot he
  obtain ⟨p1, p2⟩ := place_eq he
  obtain ⟨t1, t2⟩ := may_to he
  have hfr := fresh_eq k s.l[i] (by omega) (by omega)
  have e1 : inO s.l (i : Int) = some i := by rw [inO_ok (by omega) (by omega)]; simp
  have e2 : inO s.b (i : Int) = some i := by rw [inO_ok (by omega) (by omega)]; simp
  have e3 : s.l[i]? = some s.l[i] := List.getElem?_eq_getElem hi
  have hth : cast_Caster_there_p_svvvoomm k r 1 s.v s.l s.b s.x = some () := rfl
  have hLen : cast_Caster_Len_p_svvvoomm k r 1 s.v s.l s.b s.x = some () := rfl
  have hAt : cast_Caster_At_pv_svvvoomm k (i : Int) r 1 s.v s.l s.b s.x = some (s.l[i], bump (ahead s.b i) s.l[i], true) := by
    simp only [cast_Caster_At_pv_svvvoomm, hth, Option.bind_some, lt1, dec_f (show ¬ (i : Int) < 0 by omega), Bool.false_eq_true, if_false, dec_f (show ¬ (i : Int) ≥ (s.l.length : Int) by omega), e1, e2, e3, g1, hfr]
  have hb : putV (ahead s.b i) ⟨pl s.l[i], d3⟩ (getV (ahead s.b i) ⟨pl s.l[i], d3⟩ + 1) = bump (ahead s.b i) s.l[i] := by unfold bump putV getV; rw [dif_pos d3]
  have hc' : (getV (bump (ahead s.b i) s.l[i]) ⟨pl s.l[i], d3⟩ == s.l[i].ID.Count) = true := by
    rw [hc, bump_at d3]
    have := bump_get (v := ahead s.b i) d3 (pl s.l[i]) d3
    rw [if_pos rfl] at this
    unfold getV
    rw [this]; simp
  have hah : ahead s.b (i + 1) = bump (ahead s.b i) s.l[i] := by
    show (if i + 1 = 0 then zeroV else s.b[i + 1 - 1]?.getD zeroV) = _
    rw [if_neg (by omega), Nat.add_sub_cancel, g1]; rfl
  have hL := loop_PQ (body := fun z => law13_CastPast.b3 k s.l[i] (bump (ahead s.b i) s.l[i]) z) (k := k) (fun m (j : Int) => j = m) (fun t => t = .inl ()) 16 (s := 0) (fun m t hm hP => ?_) (fun t hP => ?_) (by omega) rfl
  · obtain ⟨t, q1, rfl⟩ := hL
    simp only [law13_CastPast.b2, hLen, Option.bind_some, lt1, dec_t (show (i : Int) < (s.l.length : Int) by omega), if_true, hAt, Bool.not_true, dec_f (show ¬ s.l[i].ID.Region < 1 by omega), cond_false, dec_f (show ¬ s.l[i].ID.Region > 16 by omega), Bool.false_eq_true, if_false, p1, p2, hb, eqV_refl, hc', q1, w64_succ (show i < 9223372036854775807 by omega), hah]
  · subst hP
    have i1 : inV 16 (m : Int) = some ⟨m, hm⟩ := inV_ok (by omega) (by simpa using hm)
    have hle : decide (getV (bump (ahead s.b i) s.l[i]) ⟨m, hm⟩ < getV s.l[i].Past ⟨m, hm⟩) = false := decide_eq_false (UInt64.not_lt.2 (hp m hm))
    exact .inl ⟨_, by simp only [law13_CastPast.b3, lt1, dec_t (show (m : Int) < 16 by omega), if_true, i1, Option.bind_some, hle, Bool.false_eq_true, if_false, w64_succ (show m < 9223372036854775807 by omega)], rfl⟩
  · subst hP
    exact ⟨.inl (), by simp only [law13_CastPast.b3, lt1, dec_f (show ¬ ((16 : Nat) : Int) < 16 by decide), Bool.false_eq_true, if_false], rfl⟩
theorem pure_CastPast (y0 : Int) (y1 : (List law13_Act)) (f0 : (IntKind.min .i64 ≤ y0 ∧ y0 ≤ IntKind.max .i64)) (f1 : (List.length y1 * 216 ≤ 140737488351232 ∧ ∀ z0 ∈ y1, ((IntKind.min .i64 ≤ z0.Kind ∧ z0.Kind ≤ IntKind.max .i64) ∧ ((((IntKind.min .i64 ≤ z0.Event.ID.Region ∧ z0.Event.ID.Region ≤ IntKind.max .i64) ∧ (True ∧ True)) ∧ ((List.length z0.Event.Topic ≤ 140737488351232) ∧ ((List.length z0.Event.Payload * 1 ≤ 140737488351232 ∧ ∀ z1 ∈ z0.Event.Payload, True) ∧ ((∀ (i : Nat) (h : i < 16), True) ∧ ((List.length z0.Event.To * 32 ≤ 140737488351232 ∧ ∀ z1 ∈ z0.Event.To, (((IntKind.min .i64 ≤ z1.Dot.Region ∧ z1.Dot.Region ≤ IntKind.max .i64) ∧ (True ∧ True)) ∧ ((List.length z1.Device ≤ 140737488351232) ∧ True))) ∧ True))))) ∧ True)))) : ∃ k, law13_CastPast k y0 y1 = some true := by
  refine ⟨(199900 + y1.length) + 100, ?_⟩
  have hkn := known13 (199900 + y1.length) (by omega)
  have hk : 100000 ≤ (199900 + y1.length) + 100 := by omega
  have hk2 : y1.length < (199900 + y1.length) + 100 := by omega
  generalize (199900 + y1.length) + 100 = k at hkn hk hk2 ⊢
  obtain ⟨b, hb, hs⟩ := much_eq (k := k) y1 hk2 (by omega)
  cases b with
  | true => simp only [law13_CastPast, hb, Option.bind_some, if_true, hkn]
  | false =>
    obtain ⟨hl, hs⟩ := hs rfl
    by_cases h1 : y0 < 1
    · simp only [law13_CastPast, hb, Option.bind_some, Bool.false_eq_true, if_false, cast_New, lt1, dec_t h1, cond_true, if_true, hkn]
    by_cases h2 : y0 > 16
    · simp only [law13_CastPast, hb, Option.bind_some, Bool.false_eq_true, if_false, cast_New, lt1, dec_f h1, dec_t h2, cond_true, cond_false, if_true, hkn]
    have hnew : cast_New k y0 1 = some (.inl ()) := by
      simp only [cast_New, lt1, dec_f h1, dec_f h2, dec_f (show ¬ (1 : Int) < 1 by decide), dec_f (show ¬ (1 : Int) > y0 by omega), cond_false, Option.bind_some, Bool.false_eq_true, if_false]
    have hL := loop_PQ (body := fun s => law13_CastPast.b1 k y1 y0 s.1 s.2.1 s.2.2.1 s.2.2.2.1 s.2.2.2.2) (k := k) (fun i (t : Vc × List api_Event × List Vc × Hd × Int) => ∃ s : CS, CInv i s ∧ t = (s.v, s.l, s.b, s.x, (i : Int))) (fun t => ∃ s : CS, CInv y1.length s ∧ t = (s.v, s.l, s.b, s.x)) y1.length (s := (Vector.replicate 16 (0 : UInt64), [], [], [], 0)) (fun i t hi hP => ?_) (fun t hP => ?_) hk2 ⟨⟨zeroV, [], [], []⟩, ⟨.nil, fun p hp => by simp at hp, by simp⟩, rfl⟩
    · obtain ⟨t, t1, s, hI, rfl⟩ := hL
      have hsz := hI.size
      have hL2 := loop_PQ (body := fun z => law13_CastPast.b2 k y0 s.v s.l s.b s.x z.1 z.2) (k := k) (fun i (z : Vc × Int) => z = (ahead s.b i, (i : Int))) (fun t => t = .inl s.v) s.l.length (s := (Vector.replicate 16 (0 : UInt64), 0)) (fun i z hi hP => ?_) (fun z hP => ?_) (by omega) rfl
      · obtain ⟨u, u1, rfl⟩ := hL2
        have hV : cast_Caster_Vector_p_svvvoomm k y0 1 s.v s.l s.b s.x = some () := rfl
        simp only [law13_CastPast, hb, Option.bind_some, Bool.false_eq_true, if_false, hnew, t1, u1, hV, lt1, eqV_refl, if_true, hkn, cond_true]
      · subst hP
        exact .inl ⟨_, past_round hk y0 s y1.length (by omega) hI i hi, rfl⟩
      · subst hP
        have hLen : cast_Caster_Len_p_svvvoomm k y0 1 s.v s.l s.b s.x = some () := rfl
        have hla : ahead s.b s.l.length = s.v := by rw [hI.runs.len]; exact hI.runs.last
        exact ⟨.inl s.v, by simp only [law13_CastPast.b2, hLen, Option.bind_some, lt1, dec_f (show ¬ (s.l.length : Int) < (s.l.length : Int) by omega), Bool.false_eq_true, if_false, hla], rfl⟩
    · obtain ⟨s, hI, rfl⟩ := hP
      left
      obtain ⟨q1, q2⟩ := hs _ (List.getElem_mem hi)
      by_cases hK : y1[i].Kind = 1
      · have kb : (y1[i].Kind == 1) = true := by rw [hK]; rfl
        obtain ⟨e, f, s', r1, r2, r3⟩ := pub_eq hk y1[i].Event.Topic y1[i].Event.Payload y1[i].Event.To (by omega) y0 1 (by omega) (by omega) (by decide) (by decide) i (by omega) s hI
        exact ⟨(s'.v, s'.l, s'.b, s.x, ((i + 1 : Nat) : Int)), by simp only [law13_CastPast.b1, lt1, dec_t (show (i : Int) < (y1.length : Int) by omega), if_true, idxL_lt hi, Option.bind_some, kb, r1, w64_succ (show i < 9223372036854775807 by omega)], s', r3, by rw [r2]⟩
      · have kb : (y1[i].Kind == 1) = false := by simpa using hK
        obtain ⟨a, f, s', r1, r3⟩ := offer_eq hk y1[i].Event (by omega) y0 1 (by omega) (by omega) i (by omega) s hI
        exact ⟨_, by simp only [law13_CastPast.b1, lt1, dec_t (show (i : Int) < (y1.length : Int) by omega), if_true, idxL_lt hi, Option.bind_some, kb, Bool.false_eq_true, if_false, r1, w64_succ (show i < 9223372036854775807 by omega)], s', r3, rfl⟩
    · obtain ⟨s, hI, rfl⟩ := hP
      exact ⟨_, by simp only [law13_CastPast.b1, lt1, dec_f (show ¬ (y1.length : Int) < (y1.length : Int) by omega), Bool.false_eq_true, if_false], s, hI, rfl⟩
end Go.Proofs.Ytbmimaabgclhjaa
