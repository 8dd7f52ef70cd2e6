/- The plain law NetDoubles. -/
import Derived.Test.YtnadeehdnmgebaaK
namespace Go.Proofs.Ytnadeehdnmgebaa
open Go Fw
set_option linter.unusedVariables false
set_option linter.unusedSimpArgs false

theorem view_all {T : Type} (x : List T) : viewL x 0 x.length = some x := by
  unfold viewL
  by_cases h : x.length = 0
  · rw [if_pos h, List.eq_nil_of_length_eq_zero h]
  · rw [if_neg h, if_pos (by omega)]; simp
theorem inX_ok {n i : Nat} (h : i < n) : inX 0 n (i : Int) = some i := by
  unfold inX
  rw [if_pos ⟨by omega, by omega⟩]; simp
theorem bumps (k : Nat) (x : List UInt8) (hk : x.length < k) (hx : x.length ≤ 2000000) : ∃ t, loopO (fun s => law12_once.b2 k x.length 0 s.1 s.2) k (x, (0 : Int)) = some t := by
  have := loop_inv (body := fun s : List UInt8 × Int => law12_once.b2 k x.length 0 s.1 s.2) (I := fun s => 0 ≤ s.2 ∧ s.2 ≤ (x.length : Int) ∧ s.1.length = x.length) (m := fun s => ((x.length : Int) - s.2).toNat) (fun _ => True) ?_ k (x, (0 : Int)) ⟨Int.le_refl _, by show (0 : Int) ≤ _; omega, rfl⟩ (by show ((x.length : Int) - 0).toNat < k; omega)
  · obtain ⟨t, h1, _⟩ := this
    exact ⟨t, h1⟩
  · rintro ⟨y, s⟩ ⟨h0, h1, h2⟩
    simp only at h0 h1 h2
    by_cases hlt : s < (x.length : Int)
    · left
      obtain ⟨i, rfl⟩ : ∃ i : Nat, s = i := ⟨s.toNat, by omega⟩
      simp only [law12_once.b2, lt1, dec_t (show (i : Int) < (x.length : Int) by omega), if_true, inX_ok (show i < x.length by omega), List.getElem?_eq_getElem (show i < y.length by omega), setO'_ok (show i < y.length by omega), Option.bind_some, w64_succ (show i < 9223372036854775807 by omega)]
      exact ⟨_, rfl, ⟨by show (0 : Int) ≤ ((i + 1 : Nat) : Int); omega, by show ((i + 1 : Nat) : Int) ≤ _; omega, by show (y.set _ _).length = _; simp [h2]⟩, by show ((x.length : Int) - ((i + 1 : Nat) : Int)).toNat < ((x.length : Int) - (i : Int)).toNat; omega⟩
    · right
      simp only [law12_once.b2, lt1, dec_f (show ¬ s < (x.length : Int) by omega), Bool.false_eq_true, if_false]
      exact ⟨(), by simp⟩
theorem All12_eq {σ τ : Type} (k : Nat) (Y : σ → (Int × Int × Int × (List UInt8) × Nat × Nat) → Option (σ ⊕ τ)) (F : List api_Flight) (hk : F.length < k) (hF : F.length ≤ 1000000) (hs : ∀ f ∈ F, f.Bytes.length ≤ 2000000) (st : Nat → σ) (hY : ∀ i (h : i < F.length), Y (st i) ((i : Int), F[i].From, F[i].To, F[i].Bytes, 0, F[i].Bytes.length) = some (.inl (st (i + 1)))) : net_Net_All_1'2 k Y (.inl (st 0)) F = some (.inl (st F.length)) := by
  have hlp : loopO (fun s => net_Net_All_1'2.b1 k F Y s.1 s.2) k ((.inl (st 0) : σ ⊕ τ), (0 : Int)) = some (.inl (.inl (st F.length))) := by
    refine loop_nat (n := F.length) (fun i => (.inl (st i) : σ ⊕ τ)) _ ?_ ?_ hk rfl
    · intro i hi
      have hc := clone_eq k F[i].Bytes (hs _ (List.getElem_mem hi))
      simp only [net_Net_All_1'2.b1, lt1, dec_t (show (i : Int) < (F.length : Int) by omega), if_true, inO_ok (show 0 ≤ (i : Int) by omega) (show (i : Int).toNat < F.length by omega), Option.bind_some, Int.toNat_natCast, List.getElem?_eq_getElem hi, hc, yldO, hY i hi, Sum.isLeft, Bool.not_true, Bool.false_eq_true, if_false, w64_succ (show i < 9223372036854775807 by omega)]
    · simp only [net_Net_All_1'2.b1, lt1, dec_f (show ¬ (F.length : Int) < (F.length : Int) by omega), Bool.false_eq_true, if_false]
  simp only [net_Net_All_1'2, hlp, Option.bind_some]
theorem same2_eq (k : Nat) (x : api_Flight) : ref12_Same'2 k x.From x.To 0 x.Bytes.length x x.Bytes = some true := by
  simp only [ref12_Same'2, lt1, beq_self_eq_true, if_true, view_all, Option.bind_some]
theorem once_eq (k : Nat) (hk : 2000000 ≤ k) {M : Mp} (h : Inv M 4) (lost Ends Lost : Int) : law12_once k 0 4 lost M Ends Lost (allF M 4) = some true := by
  have hl := allF_len h
  have hA := All_eq k (by omega) h lost
  simp only [show ((4 : Nat) : Int) = 4 from rfl] at hA
  have hs : ∀ f ∈ allF M 4, f.Bytes.length ≤ 1048576 := fun f hf => allF_small h hf
  have h1 := All12_eq k (fun (s : Int) (u : Int × Int × Int × (List UInt8) × Nat × Nat) => law12_once.y1 k (allF M 4) 0 s u.1 u.2.1 u.2.2.1 u.2.2.2.1 u.2.2.2.2.1 u.2.2.2.2.2) (allF M 4) (by omega) (by omega) (fun f hf => Nat.le_trans (hs f hf) (by omega)) (fun i => (i : Int)) (by
    intro i hi
    obtain ⟨t, ht⟩ := bumps k (allF M 4)[i].Bytes (by have := hs _ (List.getElem_mem hi); omega) (by have := hs _ (List.getElem_mem hi); omega)
    have hne : (((i + 1 : Nat) : Int) == 0) = false := by simp; omega
    simp only [law12_once.y1, lt1, bne_self_eq_false, Bool.false_eq_true, if_false, dec_f (show ¬ (i : Int) ≥ ((allF M 4).length : Int) by omega), inO_ok (show 0 ≤ (i : Int) by omega) (show (i : Int).toNat < (allF M 4).length by omega), Option.bind_some, Int.toNat_natCast, List.getElem?_eq_getElem hi, same2_eq, Bool.not_true, ht, w64_succ (show i < 9223372036854775807 by omega), hne])
  have h1' : net_Net_All_1'2 k (fun (s : Int) (u : Int × Int × Int × (List UInt8) × Nat × Nat) => law12_once.y1 k (allF M 4) 0 s u.1 u.2.1 u.2.2.1 u.2.2.2.1 u.2.2.2.2.1 u.2.2.2.2.2) (Sum.inl (0 : Int)) (allF M 4) = some (Sum.inl ((allF M 4).length : Int)) := h1
  simp only [law12_once, hA, Option.bind_some, h1', lt1, beq_self_eq_true]
theorem last_loop (k : Nat) {X B : List api_Flight} (g : api_Flight) (hX : ∀ x ∈ X, ahead g x = true) (hB : ∀ x ∈ B, ahead g x = false) (hk : (X ++ B).length < k) (hl : (X ++ B).length ≤ 1000000) :
    loopO (fun s => law12_NetDoubles.b2 k (X ++ B) g s.1 s.2) k ((0 : Int), (0 : Int)) = some (X.length : Int) := by
  have hx85 : ∀ c1 c2 c3 : Bool, (if c1 = true then some true else if c2 = true then some c3 else some false) = some (c1 || (c2 && c3)) := by intro c1 c2 c3; cases c1 <;> cases c2 <;> rfl
  refine loop_nat (n := (X ++ B).length) (fun j => ((min j X.length : Nat) : Int)) _ ?_ ?_ hk (by simp)
  · intro i hi
    obtain ⟨y, hy⟩ : ∃ y, (X ++ B)[i] = y := ⟨_, rfl⟩
    have hy? : (X ++ B)[i]? = some y := by rw [List.getElem?_eq_getElem hi, hy]
    simp only [law12_NetDoubles.b2, lt1, dec_t (show (i : Int) < ((X ++ B).length : Int) by omega), if_true, inO_ok (show 0 ≤ (i : Int) by omega) (show (i : Int).toNat < (X ++ B).length by omega), Option.bind_some, Int.toNat_natCast, hy?, hx85, w64_succ (show i < 9223372036854775807 by omega)]
    have ha : (decide (y.From < g.From) || (y.From == g.From && decide (y.To ≤ g.To))) = ahead g y := rfl
    rw [ha]
    by_cases hiX : i < X.length
    · rw [List.getElem?_append_left hiX] at hy?
      rw [hX y (List.mem_of_getElem? hy?)]
      have hm : min (i + 1) X.length = i + 1 := by omega
      simp only [if_true, Option.bind_some, hm]
    · rw [List.getElem?_append_right (by omega)] at hy?
      rw [hB y (List.mem_of_getElem? hy?)]
      have hm : min (i + 1) X.length = min i X.length := by omega
      simp only [Bool.false_eq_true, if_false, Option.bind_some, hm]
  · have hm : min (X ++ B).length X.length = X.length := by simp
    simp only [law12_NetDoubles.b2, lt1, dec_f (show ¬ ((X ++ B).length : Int) < ((X ++ B).length : Int) by omega), Bool.false_eq_true, if_false, hm]
theorem line_le' {M : Mp} (h : Inv M 4) {a b : Int} (hp : inR 4 ⟨a, b⟩) : (lineF (allF M 4) a b).length ≤ 64 := by
  have := lineF_row (M := M) hp
  simp only at this
  rw [this]
  unfold row
  rw [List.length_map]
  exact h.len _
theorem pure_NetDoubles (y0 : (List law12_Act)) (y1 : Int) (f0 : (List.length y0 * 48 ≤ 140737488351232 ∧ ∀ z0 ∈ y0, ((IntKind.min .i64 ≤ z0.Kind ∧ z0.Kind ≤ IntKind.max .i64) ∧ ((IntKind.min .i64 ≤ z0.A ∧ z0.A ≤ IntKind.max .i64) ∧ ((IntKind.min .i64 ≤ z0.B ∧ z0.B ≤ IntKind.max .i64) ∧ ((List.length z0.Bytes * 1 ≤ 140737488351232 ∧ ∀ z1 ∈ z0.Bytes, True) ∧ True)))))) (f1 : (IntKind.min .i64 ≤ y1 ∧ y1 ≤ IntKind.max .i64)) : ∃ k, law12_NetDoubles k y0 y1 = some true := by
  obtain ⟨k, hk⟩ : ∃ k, k = 3000000 := ⟨3000000, rfl⟩
  refine ⟨k, ?_⟩
  have hnum : ∀ v, law12_num k v = some () := fun _ => rfl
  obtain ⟨mu, hmu, hmu2⟩ := much_eq k (by omega) y0
  simp only [law12_NetDoubles, known_eq k (by omega), lt1, Option.bind_some, hmu]
  cases mu
  case true => simp
  case false =>
  obtain ⟨hlen, hby⟩ := hmu2 rfl
  simp only [Bool.false_eq_true, if_false, new4, hnum, Option.bind_some]
  have hlp := loop_inv (body := fun s : Mp × Int × List api_Flight × Int × Int => law12_NetDoubles.b1 k y0 s.1 s.2.1 s.2.2.1 s.2.2.2.1 s.2.2.2.2)
    (I := fun s => 0 ≤ s.2.2.2.2 ∧ s.2.2.2.2 ≤ (y0.length : Int) ∧ Inv s.1 4 ∧ s.2.2.1 = allF s.1 4 ∧ s.2.2.2.1 = s.2.1) (m := fun s => ((y0.length : Int) - s.2.2.2.2).toNat)
    (fun r => ∃ M lost, r = .inl (M, lost, allF M 4, lost) ∧ Inv M 4) ?_ k (([] : Mp), (0 : Int), ([] : List api_Flight), (0 : Int), (0 : Int)) ⟨Int.le_refl _, by show (0 : Int) ≤ _; omega, Inv.nil (by omega), by rw [show allF [] 4 = [] by decide], rfl⟩ (by show ((y0.length : Int) - 0).toNat < k; omega)
  · obtain ⟨r, e1, M, lost, rfl, hI⟩ := hlp
    have hl := allF_len hI
    have hAt := At_eq k (by omega) hI lost y1
    have hLi := fun f t => Line_F k hI lost f t
    obtain ⟨M2, c1, c2, c3⟩ := Double_F k (by omega) hI lost y1
    have hLi2 := fun f t => Line_F k c2 lost f t
    have hL2 := Len_F k c2 lost
    have hO2 := once_eq k (by omega) c2 lost 4 lost
    rw [c3] at hL2 hO2
    simp only [c3] at hLi2
    simp only [show ((4 : Nat) : Int) = 4 from rfl] at hAt hLi c1 hLi2 hL2
    simp only [e1, Option.bind_some, hAt, hLi, c1]
    obtain ⟨g, e, hg⟩ : ∃ g e, atM (allF M 4) y1 = (g, e) := ⟨_, _, rfl⟩
    rw [hg]
    by_cases hz : e = 0
    · subst hz
      obtain ⟨hm, ha0, hgi⟩ := atM_mem (F := allF M 4) (place := y1) (by rw [hg])
      rw [hg] at hm hgi
      simp only at hm hgi
      obtain ⟨A, B, j, hp, hF, hF2, hA, hB, hn, hj⟩ := place_of hgi
      have h64 := line_le' hI hp
      simp only [bne_self_eq_false, Bool.not_false, if_true, Bool.false_eq_true, if_false, Option.bind_some]
      by_cases h64' : 64 ≤ (lineF (allF M 4) g.From g.To).length
      · have hd : dblF (allF M 4) y1 = (5, allF M 4) := by
          unfold dblF
          rw [hg, if_neg (by simp)]
          exact if_pos h64'
        rw [hd] at hO2 ⊢
        simp only at hO2
        have hb : (((lineF (allF M 4) g.From g.To).length : Int) == 64) = true := by simp; omega
        simp only [hb, hO2, Option.bind_some, if_true, cond_true, cond_false]
        simp
      · have hd : dblF (allF M 4) y1 = (0, layF g (allF M 4)) := by
          unfold dblF
          rw [hg, if_neg (by simp)]
          exact if_neg h64'
        rw [hd] at hL2 c3 ⊢
        simp only [hd] at hLi2
        simp only at hL2 c3
        have hF' : allF M 4 = (A ++ row M ⟨g.From, g.To⟩) ++ B := by rw [hF, List.append_assoc]
        obtain ⟨X, hX⟩ : ∃ X, A ++ row M ⟨g.From, g.To⟩ = X := ⟨_, rfl⟩
        have hXa : ∀ x ∈ X, ahead g x = true := by
          intro x hx
          rw [← hX, List.mem_append] at hx
          unfold ahead
          rcases hx with hx | hx
          · rcases hA x hx with h | ⟨h, h'⟩
            · have h : x.From < g.From := h
              simp [h]
            · have h : x.From = g.From := h
              have h' : x.To < g.To := h'
              simp [h]; omega
          · obtain ⟨h, h', _⟩ := mem_row hx
            have h : x.From = g.From := h
            have h' : x.To = g.To := h'
            simp [h, h']
        have hBa : ∀ x ∈ B, ahead g x = false := by
          intro x hx
          unfold ahead
          rcases hB x hx with h | ⟨h, h'⟩
          · have h : g.From < x.From := h
            have h1 : ¬ x.From < g.From := by omega
            have h2 : ¬ x.From = g.From := by omega
            simp [h1, h2]
          · have h : g.From = x.From := h
            have h' : g.To < x.To := h'
            have h1 : ¬ x.From < g.From := by omega
            have h2 : ¬ x.To ≤ g.To := by omega
            simp [h1, h2]
        rw [hX] at hF'
        have hlay : layF g (allF M 4) = X ++ g :: B := by
          unfold layF
          rw [hF', (takeWhile_app hXa hBa).1, (takeWhile_app hXa hBa).2]
        have hlr := last_loop k (X := X) (B := B) g hXa hBa (by rw [← hF']; omega) (by rw [← hF']; omega)
        rw [← hF'] at hlr
        have hlb : (lineF (layF g (allF M 4)) g.From g.To).length = (lineF (allF M 4) g.From g.To).length + 1 := by
          rw [line_lay (x := g) hp, List.length_append]
          congr 1
          unfold lineF
          rw [filter_all fun x hx => by rw [List.mem_singleton.1 hx]; exact isL_iff.2 ⟨rfl, rfl⟩]; rfl
        have hll : (layF g (allF M 4)).length = (allF M 4).length + 1 := by rw [hlay, hF']; simp; omega
        have hw1 : w64 (((allF M 4).length : Int) + 1) = (((allF M 4).length + 1 : Nat) : Int) := w64_succ (by omega)
        have hw2 : w64 (((lineF (allF M 4) g.From g.To).length : Int) + 1) = (((lineF (allF M 4) g.From g.To).length + 1 : Nat) : Int) := w64_succ (by omega)
        obtain ⟨M3, t1, t2, t3⟩ := Take_F k (by omega) c2 lost (X.length : Int)
        have hat2 : atM (allF M2 4) (X.length : Int) = (g, 0) := by
          rw [c3]
          unfold atM
          rw [hlay, if_neg (by omega), Int.toNat_natCast, List.getElem?_append_right (Nat.le_refl _), Nat.sub_self]; rfl
        rw [hat2] at t1 t3
        rw [if_pos rfl, Int.toNat_natCast, c3] at t3
        rw [hlay, List.eraseIdx_append_of_length_le (Nat.le_refl _), Nat.sub_self, List.eraseIdx_cons_zero, ← hF'] at t3
        have hO3 := once_eq k (by omega) t2 lost 4 lost
        rw [t3] at hO3
        simp only [show ((4 : Nat) : Int) = 4 from rfl] at t1
        simp only [hL2, hll, hw1, hLi2, hlb, hw2, bne_self_eq_false, cond_true, cond_false, Bool.false_eq_true, if_false, Option.bind_some, hlr, t1, beq_self_eq_true, if_true, same_eq, decide_true, hO3, hnum]
    · have hd : dblF (allF M 4) y1 = (e, allF M 4) := by
        unfold dblF
        rw [hg]
        exact if_pos hz
      rw [hd] at hO2 ⊢
      simp only at hO2
      have h1 : (e != 0) = true := by simpa using hz
      simp only [h1, Bool.not_true, Bool.false_eq_true, if_false, if_true, cond_true, Option.bind_some, beq_self_eq_true, hO2]
  · rintro ⟨M, lost, L, Lost, i⟩ ⟨g0, g1, hI, hL, hLo⟩
    simp only at g0 g1 hI hL hLo
    subst hL hLo
    obtain ⟨i, rfl⟩ : ∃ j : Nat, i = j := ⟨i.toNat, by omega⟩
    by_cases hlt : i < y0.length
    · left
      obtain ⟨M', lost', d1, d2⟩ := do_eq k (by omega) hI y0[i] (by have := hby i hlt; omega) Lost
      simp only [show ((4 : Nat) : Int) = 4 from rfl] at d1
      simp only [law12_NetDoubles.b1, lt1, dec_t (show (i : Int) < (y0.length : Int) by omega), if_true, idxL_lt hlt, Option.bind_some, d1, Bool.not_true, Bool.false_eq_true, if_false, w64_succ (show i < 9223372036854775807 by omega)]
      exact ⟨_, rfl, ⟨by show (0 : Int) ≤ ((i + 1 : Nat) : Int); omega, by show ((i + 1 : Nat) : Int) ≤ _; omega, d2, rfl, rfl⟩, by show ((y0.length : Int) - ((i + 1 : Nat) : Int)).toNat < ((y0.length : Int) - (i : Int)).toNat; omega⟩
    · right
      simp only [law12_NetDoubles.b1, lt1, dec_f (show ¬ (i : Int) < (y0.length : Int) by omega), Bool.false_eq_true, if_false]
      exact ⟨_, rfl, M, Lost, rfl, hI⟩
end Go.Proofs.Ytnadeehdnmgebaa
