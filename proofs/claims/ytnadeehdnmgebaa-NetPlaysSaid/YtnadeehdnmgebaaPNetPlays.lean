/- The plain law NetPlays. -/
import Derived.Test.YtnadeehdnmgebaaK
namespace Go.Proofs.Ytnadeehdnmgebaa
open Go Fw
set_option linter.unusedVariables false
set_option linter.unusedSimpArgs false

theorem viewAll {T : Type} (x : List T) : viewL x 0 x.length = some x := by
  unfold viewL
  by_cases h : x.length = 0
  · rw [if_pos h, List.eq_nil_of_length_eq_zero h]
  · rw [if_neg h, if_pos (by omega)]; simp
theorem inXok {n i : Nat} (h : i < n) : inX 0 n (i : Int) = some i := by
  unfold inX
  rw [if_pos ⟨by omega, by omega⟩]; simp
theorem bumpsE (k : Nat) (x : List UInt8) (hk : x.length < k) (hx : x.length ≤ 2000000) : ∃ t, loopO (fun s => law12_once.b2 k x.length 0 s.1 s.2) k (x, (0 : Int)) = some t := by
  have := loop_inv (body := fun s : List UInt8 × Int => law12_once.b2 k x.length 0 s.1 s.2) (I := fun s => 0 ≤ s.2 ∧ s.2 ≤ (x.length : Int) ∧ s.1.length = x.length) (m := fun s => ((x.length : Int) - s.2).toNat) (fun _ => True) ?_ k (x, (0 : Int)) ⟨Int.le_refl _, by show (0 : Int) ≤ _; omega, rfl⟩ (by show ((x.length : Int) - 0).toNat < k; omega)
  · obtain ⟨t, h1, _⟩ := this
    exact ⟨t, h1⟩
  · rintro ⟨y, s⟩ ⟨h0, h1, h2⟩
    simp only at h0 h1 h2
    by_cases hlt : s < (x.length : Int)
    · left
      obtain ⟨i, rfl⟩ : ∃ i : Nat, s = i := ⟨s.toNat, by omega⟩
      simp only [law12_once.b2, lt1, dec_t (show (i : Int) < (x.length : Int) by omega), if_true, inXok (show i < x.length by omega), List.getElem?_eq_getElem (show i < y.length by omega), setO'_ok (show i < y.length by omega), Option.bind_some, w64_succ (show i < 9223372036854775807 by omega)]
      exact ⟨_, rfl, ⟨by show (0 : Int) ≤ ((i + 1 : Nat) : Int); omega, by show ((i + 1 : Nat) : Int) ≤ _; omega, by show (y.set _ _).length = _; simp [h2]⟩, by show ((x.length : Int) - ((i + 1 : Nat) : Int)).toNat < ((x.length : Int) - (i : Int)).toNat; omega⟩
    · right
      simp only [law12_once.b2, lt1, dec_f (show ¬ s < (x.length : Int) by omega), Bool.false_eq_true, if_false]
      exact ⟨(), by simp⟩
/-- A course over all flights that stops at a place, or nowhere. -/
theorem All12_stop {σ τ : Type} (k : Nat) (Y : σ → (Int × Int × Int × (List UInt8) × Nat × Nat) → Option (σ ⊕ τ)) (F : List api_Flight) (hk : F.length < k) (hF : F.length ≤ 1000000) (hs : ∀ f ∈ F, f.Bytes.length ≤ 2000000) (st : Nat → σ) (n : Nat) (hn : n ≤ F.length) (r : τ) (hY : ∀ i (h : i < F.length), i < n → Y (st i) ((i : Int), F[i].From, F[i].To, F[i].Bytes, 0, F[i].Bytes.length) = some (.inl (st (i + 1))))
    (hY2 : ∀ (h : n < F.length), Y (st n) ((n : Int), F[n].From, F[n].To, F[n].Bytes, 0, F[n].Bytes.length) = some (.inr r)) : net_Net_All_1'2 k Y (.inl (st 0)) F = some (if n < F.length then .inr r else .inl (st F.length)) := by
  have hlp : loopO (fun s => net_Net_All_1'2.b1 k F Y s.1 s.2) k ((.inl (st 0) : σ ⊕ τ), (0 : Int)) = some (if n < F.length then .inr (.inr r) else .inl (.inl (st F.length))) := by
    refine loop_nat (n := n) (fun i => (.inl (st i) : σ ⊕ τ)) _ ?_ ?_ (by omega) rfl
    · intro i hi
      have hi' : i < F.length := by omega
      have hc := clone_eq k F[i].Bytes (hs _ (List.getElem_mem hi'))
      simp only [net_Net_All_1'2.b1, lt1, dec_t (show (i : Int) < (F.length : Int) by omega), if_true, inO_ok (show 0 ≤ (i : Int) by omega) (show (i : Int).toNat < F.length by omega), Option.bind_some, Int.toNat_natCast, List.getElem?_eq_getElem hi', hc, yldO, hY i hi' hi, Sum.isLeft, Bool.not_true, Bool.false_eq_true, if_false, w64_succ (show i < 9223372036854775807 by omega)]
    · by_cases hlt : n < F.length
      · have hc := clone_eq k F[n].Bytes (hs _ (List.getElem_mem hlt))
        simp only [net_Net_All_1'2.b1, lt1, dec_t (show (n : Int) < (F.length : Int) by omega), if_true, inO_ok (show 0 ≤ (n : Int) by omega) (show (n : Int).toNat < F.length by omega), Option.bind_some, Int.toNat_natCast, List.getElem?_eq_getElem hlt, hc, yldO, hY2 hlt, Sum.isLeft, Bool.not_false, if_pos hlt]
      · have : n = F.length := by omega
        subst this
        simp only [net_Net_All_1'2.b1, lt1, dec_f (show ¬ (F.length : Int) < (F.length : Int) by omega), Bool.false_eq_true, if_false, Nat.lt_irrefl]
  simp only [net_Net_All_1'2, hlp, Option.bind_some]
  by_cases hlt : n < F.length
  · simp only [if_pos hlt]
  · simp only [if_neg hlt]
theorem same2E (k : Nat) (x : api_Flight) : ref12_Same'2 k x.From x.To 0 x.Bytes.length x x.Bytes = some true := by
  simp only [ref12_Same'2, lt1, beq_self_eq_true, if_true, viewAll, Option.bind_some]
theorem onceE (k : Nat) (hk : 2000000 ≤ k) {M : Mp} {E : Nat} (h : Inv M E) (lost Ends Lost most : Int) : law12_once k most E lost M Ends Lost (allF M E) = some true := by
  have hl := allF_len h
  have hA := All_eq k (by omega) h lost
  have hs : ∀ f ∈ allF M E, f.Bytes.length ≤ 1048576 := fun f hf => allF_small h hf
  obtain ⟨n, hn, hmost⟩ : ∃ n : Nat, n ≤ (allF M E).length ∧ (n < (allF M E).length → most = ((n + 1 : Nat) : Int)) ∧ ∀ i : Nat, i < n → most ≠ ((i + 1 : Nat) : Int) := by
    by_cases hm : 1 ≤ most ∧ most ≤ (allF M E).length
    · exact ⟨most.toNat - 1, by omega, fun _ => by omega, fun i hi => by omega⟩
    · exact ⟨(allF M E).length, Nat.le_refl _, fun h => absurd h (Nat.lt_irrefl _), fun i hi => by omega⟩
  obtain ⟨hm1, hm2⟩ := hmost
  have step : ∀ i (hi : i < (allF M E).length), law12_once.y1 k (allF M E) most (i : Int) (i : Int) (allF M E)[i].From (allF M E)[i].To (allF M E)[i].Bytes 0 (allF M E)[i].Bytes.length = some (if most = ((i + 1 : Nat) : Int) then .inr (true, ((i + 1 : Nat) : Int)) else .inl ((i + 1 : Nat) : Int)) := by
    intro i hi
    obtain ⟨t, ht⟩ := bumpsE k (allF M E)[i].Bytes (by have := hs _ (List.getElem_mem hi); omega) (by have := hs _ (List.getElem_mem hi); omega)
    simp only [law12_once.y1, lt1, bne_self_eq_false, Bool.false_eq_true, if_false, dec_f (show ¬ (i : Int) ≥ ((allF M E).length : Int) by omega), inO_ok (show 0 ≤ (i : Int) by omega) (show (i : Int).toNat < (allF M E).length by omega), Option.bind_some, Int.toNat_natCast, List.getElem?_eq_getElem hi, same2E, Bool.not_true, ht, w64_succ (show i < 9223372036854775807 by omega)]
    by_cases hm : most = ((i + 1 : Nat) : Int)
    · have h1 : (((i + 1 : Nat) : Int) == most) = true := by simp [hm]
      simp only [h1, if_true, if_pos hm]
    · have h1 : (((i + 1 : Nat) : Int) == most) = false := by simpa using fun h => hm h.symm
      simp only [h1, Bool.false_eq_true, if_false, if_neg hm]
  have h1 := All12_stop k (fun (s : Int) (u : Int × Int × Int × (List UInt8) × Nat × Nat) => law12_once.y1 k (allF M E) most s u.1 u.2.1 u.2.2.1 u.2.2.2.1 u.2.2.2.2.1 u.2.2.2.2.2) (allF M E) (by omega) (by omega) (fun f hf => Nat.le_trans (hs f hf) (by omega)) (fun i => (i : Int)) n hn (true, ((n + 1 : Nat) : Int))
    (fun i hi hin => by
      show law12_once.y1 k (allF M E) most (i : Int) (i : Int) _ _ _ _ _ = _
      rw [step i hi, if_neg (hm2 i hin)])
    (fun hlt => by
      show law12_once.y1 k (allF M E) most (n : Int) (n : Int) _ _ _ _ _ = _
      rw [step n hlt, if_pos (hm1 hlt)])
  have h1' : net_Net_All_1'2 k (fun (s : Int) (u : Int × Int × Int × (List UInt8) × Nat × Nat) => law12_once.y1 k (allF M E) most s u.1 u.2.1 u.2.2.1 u.2.2.2.1 u.2.2.2.2.1 u.2.2.2.2.2) (Sum.inl (0 : Int)) (allF M E) = some (if n < (allF M E).length then .inr (true, ((n + 1 : Nat) : Int)) else Sum.inl ((allF M E).length : Int)) := h1
  simp only [law12_once, hA, Option.bind_some, h1', lt1]
  by_cases hlt : n < (allF M E).length
  · simp only [if_pos hlt, Option.bind_some]
  · simp only [if_neg hlt, Option.bind_some, beq_self_eq_true]
theorem looks_eq (k : Nat) (hk : 2000000 ≤ k) {M : Mp} {E : Nat} (h : Inv M E) (a : law12_Act) (most lost : Int) : law12_looks k a most E lost M E lost (allF M E) = some true := by
  have hnum : ∀ v, law12_num k v = some () := fun _ => rfl
  have hl := allF_len h
  have hAt := At_eq k (by omega) h lost a.A
  have hrAt := refAt_eq k (allF M E) a.A E lost
  have hLn := Len_F k h lost
  have hLi := Line_F k h lost a.A a.B
  have hrLi := refLine_eq k (allF M E) (by omega) (by omega) a.A a.B E lost
  have hLo : net_Net_Lost k E lost M = some () := rfl
  simp only [law12_looks, hAt, hrAt, Option.bind_some, same_eq, hnum, lt1, decide_true, if_true, beq_self_eq_true, cond_true, hLn, hLi, hrLi, hLo, onceE k hk h]
theorem mput_new {k : net_pair} {v : List (List UInt8)} : ∀ {X : Mp}, k ∉ X.map Prod.fst → mput k v X = X ++ [(k, v)]
  | [], _ => rfl
  | p :: X, h => by
    simp only [List.map_cons, List.mem_cons, not_or] at h
    rw [mput_cons, if_neg h.1, mput_new h.2]; rfl
theorem copyFold (k : Nat) : ∀ (l X : Mp), ((X ++ l).map Prod.fst).Nodup → (∀ e ∈ l, e.2.length ≤ 64) → foldO (fun s e => net_Net_Copy.b1 k s e) (fun s => net_Net_Copy.f1 k s) l X = some (canon (X ++ l))
  | [], X, _, _ => by simp [foldO, net_Net_Copy.f1, lt1]
  | e :: l, X, hn, hl => by
    have hc := clone2_eq k e.2 (by have := hl e (List.mem_cons_self ..); omega)
    have hk : e.1 ∉ X.map Prod.fst := by
      rw [List.map_append, List.map_cons, List.nodup_append] at hn
      exact fun hm => hn.2.2 _ hm _ (List.mem_cons_self ..) rfl
    have hb : net_Net_Copy.b1 k X e = some (.inl (X ++ [e])) := by
      simp only [net_Net_Copy.b1, hc, Option.bind_some, lt1, mput_new hk]
    have ih := copyFold k l (X ++ [e]) (by rw [List.append_assoc]; exact hn) fun y hy => hl y (List.mem_cons_of_mem _ hy)
    rw [List.append_assoc] at ih
    simp only [foldO, hb]
    exact ih
theorem mget_perm {l m : Mp} (hp : l.Perm m) (hn : (l.map Prod.fst).Nodup) (p : net_pair) : mget p l = mget p m := by
  have hn' : (m.map Prod.fst).Nodup := (hp.map _).nodup_iff.1 hn
  cases h : mget p l with
  | some v => rw [mget_of_mem hn' (hp.mem_iff.1 (mget_mem h))]
  | none =>
    cases h' : mget p m with
    | none => rfl
    | some v => rw [mget_of_mem hn (hp.mem_iff.2 (mget_mem h'))] at h; cases h
theorem Copy_F (k : Nat) {M : Mp} {E : Nat} (h : Inv M E) (lost : Int) : ∃ M', net_Net_Copy k E lost M = some M' ∧ Inv M' E ∧ allF M' E = allF M E := by
  have hp := canon_perm M
  have hln : ∀ p, ln (canon M) p = ln M p := fun p => by unfold ln; rw [mget_perm hp h.nd]
  have hr : rangeM (Option.getD (some M) []) (fun s e => net_Net_Copy.b1 k s e) (fun s => net_Net_Copy.f1 k s) ([] : Mp) = some (canon M) := by
    refine rangeM_of fun l hl => ?_
    have hl : l.Perm M := hl
    have hn : (l.map Prod.fst).Nodup := (hl.map _).nodup_iff.2 h.nd
    have := copyFold k l [] hn fun e he => by
      have h1 := h.len e.1
      unfold ln at h1
      rw [mget_of_mem h.nd (hl.mem_iff.1 he)] at h1
      exact h1
    rw [List.nil_append, canon_eq hl] at this
    exact this
  refine ⟨canon M, ?_, ⟨h.E16, (hp.map _).nodup_iff.1 h.nd, fun e he => h.rng e (hp.mem_iff.2 he), fun p => by rw [hln]; exact h.len p, fun p b hb => by rw [hln] at hb; exact h.small p b hb⟩, ?_⟩
  · have ht : net_Net_there k E lost M = some () := rfl
    simp only [net_Net_Copy, ht, hr, Option.bind_some]
  · unfold allF
    congr 1
    funext p
    unfold row
    rw [hln]
theorem pure_NetPlays (y0 : Int) (y1 : (List law12_Act)) (y2 : Int) (f0 : (IntKind.min .i64 ≤ y0 ∧ y0 ≤ IntKind.max .i64)) (f1 : (List.length y1 * 48 ≤ 140737488351232 ∧ ∀ z0 ∈ y1, ((IntKind.min .i64 ≤ z0.Kind ∧ z0.Kind ≤ IntKind.max .i64) ∧ ((IntKind.min .i64 ≤ z0.A ∧ z0.A ≤ IntKind.max .i64) ∧ ((IntKind.min .i64 ≤ z0.B ∧ z0.B ≤ IntKind.max .i64) ∧ ((List.length z0.Bytes * 1 ≤ 140737488351232 ∧ ∀ z1 ∈ z0.Bytes, True) ∧ True)))))) (f2 : (IntKind.min .i64 ≤ y2 ∧ y2 ≤ IntKind.max .i64)) : ∃ k, law12_NetPlays'2 k y0 y1 y2 = some true := by
  obtain ⟨k, hk⟩ : ∃ k, k = 3000000 := ⟨3000000, rfl⟩
  refine ⟨k, ?_⟩
  have hnum : ∀ v, law12_num k v = some () := fun _ => rfl
  by_cases ht : 1 ≤ y0 ∧ y0 ≤ 16
  case neg =>
    have hnew : net_New k y0 = some (.inr ()) := by
      by_cases h1 : y0 < 1
      · simp only [net_New, lt1, dec_t h1, cond_true, Option.bind_some, if_true]
      · simp only [net_New, lt1, dec_f h1, dec_t (show y0 > 16 by omega), cond_false, Option.bind_some, if_true]
    have hc : (bif decide (y0 < 1) then true else decide (y0 > 16)) = true := by
      by_cases h1 : y0 < 1
      · simp [h1]
      · simp [h1]; omega
    simp only [law12_NetPlays'2, hnew, Option.bind_some, lt1, hc, if_true, hnum, known_eq k (by omega)]
  case pos =>
  obtain ⟨E, rfl⟩ : ∃ E : Nat, y0 = E := ⟨y0.toNat, by omega⟩
  have hE : E ≤ 16 := by omega
  have hnew : net_New k E = some (.inl ()) := by
    simp only [net_New, lt1, dec_f (show ¬ (E : Int) < 1 by omega), dec_f (show ¬ (E : Int) > 16 by omega), cond_false, Option.bind_some, Bool.false_eq_true, if_false]
  obtain ⟨mu, hmu, hmu2⟩ := much_eq k (by omega) y1
  simp only [law12_NetPlays'2, hnew, Option.bind_some, lt1, dec_f (show ¬ (E : Int) < 1 by omega), dec_f (show ¬ (E : Int) > 16 by omega), cond_false, Bool.false_eq_true, if_false, known_eq k (by omega), hmu]
  cases mu
  case true => simp
  case false =>
  obtain ⟨hlen, hby⟩ := hmu2 rfl
  have I0 : Inv [] E := Inv.nil hE
  have F0 : allF [] E = [] := by
    have : ∀ l : List net_pair, l.flatMap (row []) = [] := fun l => by induction l with | nil => rfl | cons p l ih => rw [List.flatMap_cons, ih]; rfl
    exact this _
  obtain ⟨C0, c1, c2, c3⟩ := Copy_F k I0 0
  have r1 : ref12_Net_Copy k E 0 = some [] := by
    simp only [ref12_Net_Copy]
    rw [apL_ok (by simp), Option.bind_some]; rfl
  have hrc : ∀ (L : List api_Flight) (e lo : Int), L.length ≤ 100000 → ref12_Net_Copy'2 k e lo L = some L := fun L e lo hL => by
    simp only [ref12_Net_Copy'2]
    rw [apL_ok (by simp; omega), Option.bind_some]; rfl
  obtain ⟨hf, hdv⟩ : ∃ hf, divI (y1.length : Int) 2 = some hf := ⟨_, by unfold divI; exact if_neg (by decide)⟩
  simp only [Bool.false_eq_true, if_false, hnum, Option.bind_some, c1, r1]
  have hlp := loop_inv (body := fun s : Mp × Int × List api_Flight × Int × Mp × Int × List api_Flight × Int × Int => law12_NetPlays'2.b1 k y1 E y2 s.1 s.2.1 s.2.2.1 s.2.2.2.1 s.2.2.2.2.1 s.2.2.2.2.2.1 s.2.2.2.2.2.2.1 s.2.2.2.2.2.2.2.1 s.2.2.2.2.2.2.2.2)
    (I := fun s => (0 ≤ s.2.2.2.2.2.2.2.2 ∧ s.2.2.2.2.2.2.2.2 ≤ (y1.length : Int)) ∧ (Inv s.1 E ∧ s.2.2.1 = allF s.1 E ∧ s.2.2.2.1 = s.2.1) ∧ (Inv s.2.2.2.2.1 E ∧ s.2.2.2.2.2.2.1 = allF s.2.2.2.2.1 E ∧ s.2.2.2.2.2.2.2.1 = s.2.2.2.2.2.1)) (m := fun s => ((y1.length : Int) - s.2.2.2.2.2.2.2.2).toNat)
    (fun r => ∃ M lost M2 lost2, r = .inl (M, lost, allF M E, lost, M2, lost2, allF M2 E, lost2) ∧ Inv M E ∧ Inv M2 E) ?_ k (([] : Mp), (0 : Int), ([] : List api_Flight), (0 : Int), C0, (0 : Int), ([] : List api_Flight), (0 : Int), (0 : Int)) ⟨⟨Int.le_refl _, by show (0 : Int) ≤ _; omega⟩, ⟨I0, F0.symm, rfl⟩, ⟨c2, (c3.trans F0).symm, rfl⟩⟩ (by show ((y1.length : Int) - 0).toNat < k; omega)
  · obtain ⟨r, e1, M, lost, M2, lost2, rfl, hI, hI2⟩ := hlp
    have hlp2 := loop_inv (body := fun s : Mp × Int × List api_Flight × Int × Int => law12_NetPlays'2.b2 k y1 E lost M lost (allF M E) s.1 s.2.1 s.2.2.1 s.2.2.2.1 s.2.2.2.2)
      (I := fun s => (0 ≤ s.2.2.2.2 ∧ s.2.2.2.2 ≤ (y1.length : Int)) ∧ (Inv s.1 E ∧ s.2.2.1 = allF s.1 E ∧ s.2.2.2.1 = s.2.1)) (m := fun s => ((y1.length : Int) - s.2.2.2.2).toNat)
      (fun r => r = .inl ()) ?_ k (M2, lost2, allF M2 E, lost2, (0 : Int)) ⟨⟨Int.le_refl _, by show (0 : Int) ≤ _; omega⟩, ⟨hI2, rfl, rfl⟩⟩ (by show ((y1.length : Int) - 0).toNat < k; omega)
    · obtain ⟨r, e2, rfl⟩ := hlp2
      simp only [e1, Option.bind_some, e2]
    · rintro ⟨M2, lost2, L2, Lost2, i⟩ ⟨⟨g0, g1⟩, hI2, hL, hLo⟩
      simp only at g0 g1 hI2 hL hLo
      subst hL hLo
      obtain ⟨i, rfl⟩ : ∃ j : Nat, i = j := ⟨i.toNat, by omega⟩
      by_cases hlt : i < y1.length
      · left
        obtain ⟨M', lost', d1, d2⟩ := do_eq k (by omega) hI2 y1[i] (by have := hby i hlt; omega) Lost2
        simp only [law12_NetPlays'2.b2, lt1, dec_t (show (i : Int) < (y1.length : Int) by omega), if_true, idxL_lt hlt, Option.bind_some, d1, Bool.not_true, Bool.false_eq_true, if_false, looks_eq k (by omega) d2, looks_eq k (by omega) hI, w64_succ (show i < 9223372036854775807 by omega)]
        exact ⟨_, rfl, ⟨⟨by show (0 : Int) ≤ ((i + 1 : Nat) : Int); omega, by show ((i + 1 : Nat) : Int) ≤ _; omega⟩, d2, rfl, rfl⟩, by show ((y1.length : Int) - ((i + 1 : Nat) : Int)).toNat < ((y1.length : Int) - (i : Int)).toNat; omega⟩
      · right
        simp only [law12_NetPlays'2.b2, lt1, dec_f (show ¬ (i : Int) < (y1.length : Int) by omega), Bool.false_eq_true, if_false]
        exact ⟨_, rfl, rfl⟩
  · rintro ⟨M, lost, L, Lost, M2, lost2, L2, Lost2, i⟩ ⟨⟨g0, g1⟩, ⟨hI, hL, hLo⟩, ⟨hI2, hL2, hLo2⟩⟩
    simp only at g0 g1 hI hL hLo hI2 hL2 hLo2
    subst hL hLo hL2 hLo2
    obtain ⟨i, rfl⟩ : ∃ j : Nat, i = j := ⟨i.toNat, by omega⟩
    by_cases hlt : i < y1.length
    · left
      obtain ⟨M', lost', d1, d2⟩ := do_eq k (by omega) hI y1[i] (by have := hby i hlt; omega) Lost
      simp only [law12_NetPlays'2.b1, lt1, dec_t (show (i : Int) < (y1.length : Int) by omega), if_true, idxL_lt hlt, Option.bind_some, d1, Bool.not_true, Bool.false_eq_true, if_false, looks_eq k (by omega) d2, hdv]
      by_cases hh : ((i : Int) == hf) = true
      · obtain ⟨M3, p1, p2, p3⟩ := Copy_F k d2 lost'
        have hl' := allF_len d2
        simp only [hh, if_true, p1, hrc (allF M' E) E lost' (by omega), Option.bind_some, w64_succ (show i < 9223372036854775807 by omega)]
        exact ⟨_, rfl, ⟨⟨by show (0 : Int) ≤ ((i + 1 : Nat) : Int); omega, by show ((i + 1 : Nat) : Int) ≤ _; omega⟩, ⟨d2, rfl, rfl⟩, ⟨p2, p3.symm, rfl⟩⟩, by show ((y1.length : Int) - ((i + 1 : Nat) : Int)).toNat < ((y1.length : Int) - (i : Int)).toNat; omega⟩
      · have hh : ((i : Int) == hf) = false := by simpa using hh
        simp only [hh, Bool.false_eq_true, if_false, Option.bind_some, w64_succ (show i < 9223372036854775807 by omega)]
        exact ⟨_, rfl, ⟨⟨by show (0 : Int) ≤ ((i + 1 : Nat) : Int); omega, by show ((i + 1 : Nat) : Int) ≤ _; omega⟩, ⟨d2, rfl, rfl⟩, ⟨hI2, rfl, rfl⟩⟩, by show ((y1.length : Int) - ((i + 1 : Nat) : Int)).toNat < ((y1.length : Int) - (i : Int)).toNat; omega⟩
    · right
      simp only [law12_NetPlays'2.b1, lt1, dec_f (show ¬ (i : Int) < (y1.length : Int) by omega), Bool.false_eq_true, if_false]
      exact ⟨_, rfl, M, Lost, M2, Lost2, rfl, hI, hI2⟩
end Go.Proofs.Ytnadeehdnmgebaa
