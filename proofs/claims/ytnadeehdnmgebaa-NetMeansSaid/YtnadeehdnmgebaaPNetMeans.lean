/- The plain law NetMeans. -/
import Derived.Test.YtnadeehdnmgebaaK
namespace Go.Proofs.Ytnadeehdnmgebaa
open Go Fw
set_option linter.unusedVariables false
set_option linter.unusedSimpArgs false

theorem b3_loop (k : Nat) (S : List api_Flight) (g : api_Flight) (hk : S.length < k) (hl : S.length ≤ 1000000) :
    ∃ n : Nat, loopO (fun s => law12_NetMeans'2.b3 k S g s) k (0 : Int) = some (n : Int) ∧ n ≤ S.length ∧ (∀ j, j < n → ∀ y, S[j]? = some y → ¬ (y.From = g.From ∧ y.To = g.To)) ∧ ∀ h : n < S.length, S[n].From = g.From ∧ S[n].To = g.To := by
  refine find_loop k S g _ hk hl (fun i hi => ?_) ?_
  · simp only [law12_NetMeans'2.b3, lt1, dec_t (show (i : Int) < (S.length : Int) by omega), if_true, inO_ok (show 0 ≤ (i : Int) by omega) (show (i : Int).toNat < S.length by omega), Option.bind_some, Int.toNat_natCast, List.getElem?_eq_getElem hi, w64_succ (show i < 9223372036854775807 by omega)]
    by_cases h1 : S[i].From = g.From
    · by_cases h2 : S[i].To = g.To
      · simp [h1, h2]
      · simp [h1, h2]
    · simp [h1]
  · simp only [law12_NetMeans'2.b3, lt1, dec_f (show ¬ (S.length : Int) < (S.length : Int) by omega), Bool.false_eq_true, if_false, Option.bind_some]
theorem b2_loop (k : Nat) (hk : 20000 ≤ k) (l : List law12_Act) (i a : Nat) (hi : i < l.length) (ha : l[i].A = (a : Int)) (lost : Int) {M : Mp} (h : Inv M 4) {x : api_Flight} {A B : List api_Flight} {R : List api_Flight} (hF : allF M 4 = A ++ (R ++ B)) (hA : ∀ y ∈ A, lexF y ⟨x.From, x.To⟩) (hR : ∀ y ∈ R, y.From = x.From ∧ y.To = x.To) (hlt : a < A.length + R.length) (hle : A.length ≤ a) :
    loopO (fun s => law12_NetMeans'2.b2 k l (i : Int) lost M x s.1 s.2) k ((0 : Int), (0 : Int)) = some (A.length : Int) := by
  have hl := allF_len h
  have hlen : (allF M 4).length = A.length + (R.length + B.length) := by rw [hF]; simp
  refine loop_nat (n := a) (fun j => ((min j A.length : Nat) : Int)) _ ?_ ?_ (by omega) (by simp)
  · intro j hj
    have hat : atM (allF M 4) (j : Int) = ((allF M 4)[j]'(by omega), 0) := by
      unfold atM
      rw [if_neg (by omega), Int.toNat_natCast, List.getElem?_eq_getElem (show j < (allF M 4).length by omega)]
    have hAt := At_eq k hk h lost (j : Int)
    rw [hat] at hAt
    simp only [show ((4 : Nat) : Int) = 4 from rfl] at hAt
    simp only [law12_NetMeans'2.b2, idxL_lt hi, Option.bind_some, lt1, ha, dec_t (show (j : Int) < (a : Int) by omega), if_true, hAt, w64_succ (show j < 9223372036854775807 by omega)]
    obtain ⟨y, hy⟩ : ∃ y, (allF M 4)[j]'(by omega) = y := ⟨_, rfl⟩
    rw [hy]
    have hy? : (allF M 4)[j]? = some y := by rw [List.getElem?_eq_getElem (show j < (allF M 4).length by omega), hy]
    rw [hF] at hy?
    by_cases hjA : j < A.length
    · rw [List.getElem?_append_left hjA] at hy?
      have hm : min (j + 1) A.length = j + 1 := by omega
      rcases hA y (List.mem_of_getElem? hy?) with g | g
      · have g : y.From < x.From := g
        simp only [dec_t g, if_true, Option.bind_some, hm]
      · have g1 : y.From = x.From := g.1
        have g2 : y.To < x.To := g.2
        simp only [g1, dec_f (show ¬ x.From < x.From by omega), Bool.false_eq_true, if_false, beq_self_eq_true, if_true, dec_t g2, Option.bind_some, hm]
    · rw [List.getElem?_append_right (by omega), List.getElem?_append_left (by omega)] at hy?
      obtain ⟨g1, g2⟩ := hR y (List.mem_of_getElem? hy?)
      have hm : min (j + 1) A.length = min j A.length := by omega
      simp only [g1, g2, dec_f (show ¬ x.From < x.From by omega), dec_f (show ¬ x.To < x.To by omega), Bool.false_eq_true, if_false, beq_self_eq_true, if_true, Option.bind_some, hm]
  · have hm : min a A.length = A.length := by omega
    simp only [law12_NetMeans'2.b2, idxL_lt hi, Option.bind_some, lt1, ha, dec_f (show ¬ (a : Int) < (a : Int) by omega), Bool.false_eq_true, if_false, hm]
theorem pure_NetMeans (y0 : (List law12_Act)) (f0 : (List.length y0 * 48 ≤ 140737488351232 ∧ ∀ z0 ∈ y0, ((IntKind.min .i64 ≤ z0.Kind ∧ z0.Kind ≤ IntKind.max .i64) ∧ ((IntKind.min .i64 ≤ z0.A ∧ z0.A ≤ IntKind.max .i64) ∧ ((IntKind.min .i64 ≤ z0.B ∧ z0.B ≤ IntKind.max .i64) ∧ ((List.length z0.Bytes * 1 ≤ 140737488351232 ∧ ∀ z1 ∈ z0.Bytes, True) ∧ True)))))) : ∃ k, law12_NetMeans'2 k y0 = some true := by
  obtain ⟨k, hk⟩ : ∃ k, k = 30000 := ⟨30000, rfl⟩
  refine ⟨k, ?_⟩
  have hnum : ∀ v, law12_num k v = some () := fun _ => rfl
  obtain ⟨mu, hmu, hmu2⟩ := much_eq k (by omega) y0
  simp only [law12_NetMeans'2, known_eq k (by omega), lt1, Option.bind_some, Bool.not_true, Bool.false_eq_true, if_false, hmu]
  cases mu
  case true => simp
  case false =>
  obtain ⟨hlen, hby⟩ := hmu2 rfl
  simp only [Bool.false_eq_true, if_false, new4, hnum, Option.bind_some]
  have hlp := loop_inv (body := fun s : Mp × Int × List api_Flight × Int => law12_NetMeans'2.b1 k y0 s.1 s.2.1 s.2.2.1 s.2.2.2)
    (I := fun s => 0 ≤ s.2.2.2 ∧ s.2.2.2 ≤ (y0.length : Int) ∧ Inv s.1 4 ∧ ∀ f t, lineF s.2.2.1 f t = lineF (allF s.1 4) f t) (m := fun s => ((y0.length : Int) - s.2.2.2).toNat)
    (fun r => ∃ M lost S, r = .inl (M, lost, S) ∧ Inv M 4 ∧ ∀ f t, lineF S f t = lineF (allF M 4) f t) ?_ k (([] : Mp), (0 : Int), ([] : List api_Flight), (0 : Int)) ⟨Int.le_refl _, by show (0 : Int) ≤ _; omega, Inv.nil (by omega), fun f t => by rw [show allF [] 4 = [] by decide]⟩ (by show ((y0.length : Int) - 0).toNat < k; omega)
  · obtain ⟨r, e1, M, lost, S, rfl, hI, hS⟩ := hlp
    have hL := Len_F k hI lost
    simp only [show ((4 : Nat) : Int) = 4 from rfl] at hL
    simp only [e1, Option.bind_some, hL, same_lines hS, beq_self_eq_true]
  · rintro ⟨M, lost, S, i⟩ ⟨g0, g1, hI, hS⟩
    simp only at g0 g1 hI hS
    obtain ⟨i, rfl⟩ : ∃ j : Nat, i = j := ⟨i.toNat, by omega⟩
    have hl := allF_len hI
    have hSl := same_lines hS
    by_cases hlt : i < y0.length
    · have fin : ∀ (M' : Mp) (lost' : Int) (S' : List api_Flight), Inv M' 4 → (∀ f t, lineF S' f t = lineF (allF M' 4) f t) → (∃ s', (some (.inl (M', lost', S', ((i + 1 : Nat) : Int))) : Option ((Mp × Int × List api_Flight × Int) ⊕ ((Mp × Int × List api_Flight) ⊕ Bool))) = some (.inl s') ∧ (0 ≤ s'.2.2.2 ∧ s'.2.2.2 ≤ (y0.length : Int) ∧ Inv s'.1 4 ∧ ∀ f t, lineF s'.2.2.1 f t = lineF (allF s'.1 4) f t) ∧ ((y0.length : Int) - s'.2.2.2).toNat < ((y0.length : Int) - (i : Int)).toNat) := fun M' lost' S' a b =>
        ⟨_, rfl, ⟨by show (0 : Int) ≤ ((i + 1 : Nat) : Int); omega, by show ((i + 1 : Nat) : Int) ≤ _; omega, a, b⟩, by show ((y0.length : Int) - ((i + 1 : Nat) : Int)).toNat < _; omega⟩
      left
      simp only [law12_NetMeans'2.b1, lt1, dec_t (show (i : Int) < (y0.length : Int) by omega), if_true, idxL_lt hlt, Option.bind_some, w64_succ (show i < 9223372036854775807 by omega)]
      by_cases h1 : y0[i].Kind = 1
      · have e1 : (y0[i].Kind == 1) = true := by simp [h1]
        obtain ⟨M', s1, s2, s3⟩ := Send_F k hI y0[i].A y0[i].B y0[i].Bytes lost
        simp only [show ((4 : Nat) : Int) = 4 from rfl] at s1
        simp only [e1, if_true, s1, hnum, Option.bind_some]
        by_cases hz : (sendF 4 y0[i].A y0[i].B y0[i].Bytes lost (allF M 4)).1 = 0
        · obtain ⟨hb, hF⟩ := send_ok hz
          obtain ⟨hp, _, _⟩ := badS_in hb
          simp only [hz, beq_self_eq_true, if_true]
          rw [apL_ok (by simp; omega)]
          simp only [Option.bind_some]
          refine fin _ _ _ s2 fun f t => ?_
          rw [s3, hF, line_lay (x := ⟨y0[i].A, y0[i].B, y0[i].Bytes⟩) hp, ← hS]
          unfold lineF
          rw [List.filter_append]
        · have hz' : ((sendF 4 y0[i].A y0[i].B y0[i].Bytes lost (allF M 4)).1 == 0) = false := by simpa using hz
          simp only [hz', Bool.false_eq_true, if_false, Option.bind_some]
          exact fin _ _ _ s2 fun f t => by rw [s3, send_no hz, hS]
      have e1 : (y0[i].Kind == 1) = false := by simp [h1]
      have hx34 : ∀ b2 b3 b4 : Bool, (if b2 = true then some b2 else if b3 = true then some b3 else some b4) = some (b2 || b3 || b4) := by intro b2 b3 b4; cases b2 <;> cases b3 <;> rfl
      simp only [e1, Bool.false_eq_true, if_false, hx34, Option.bind_some]
      by_cases hk234 : (y0[i].Kind == 2 || y0[i].Kind == 3 || y0[i].Kind == 4) = true
      · have hAt := At_eq k (by omega) hI lost y0[i].A
        simp only [show ((4 : Nat) : Int) = 4 from rfl] at hAt
        simp only [hk234, if_true, hAt, hnum, Option.bind_some]
        by_cases hz : (atM (allF M 4) y0[i].A).2 = 0
        · obtain ⟨hm, ha0, hg⟩ := atM_mem hz
          obtain ⟨a, ha⟩ : ∃ a : Nat, y0[i].A = a := ⟨y0[i].A.toNat, by omega⟩
          obtain ⟨x, hx⟩ : ∃ x, (atM (allF M 4) y0[i].A).1 = x := ⟨_, rfl⟩
          rw [hx] at hm hg
          rw [ha, Int.toNat_natCast] at hg
          obtain ⟨A, B, j, hp, hF, hF2, hA, hB, hn, hj⟩ := place_of hg
          have hrl : (row M ⟨x.From, x.To⟩).length = (ln M ⟨x.From, x.To⟩).length := by unfold row; rw [List.length_map]
          have hb2 := b2_loop k (by omega) y0 i a hlt ha lost hI (x := x) hF hA (fun y hy => ⟨(mem_row hy).1, (mem_row hy).2.1⟩) (by omega) (by omega)
          obtain ⟨gq, R, hgR⟩ : ∃ gq R, row M ⟨x.From, x.To⟩ = gq :: R := by
            cases hr : row M ⟨x.From, x.To⟩ with
            | nil => rw [hr] at hrl; simp at hrl; rw [← hrl] at hj; exact absurd hj (Nat.not_lt_zero _)
            | cons a b => exact ⟨a, b, rfl⟩
          have hgl := mem_row (M := M) (p := ⟨x.From, x.To⟩) (f := gq) (by rw [hgR]; exact List.mem_cons_self ..)
          have hgF : gq.From = x.From := hgl.1
          have hgT : gq.To = x.To := hgl.2.1
          have hga : (allF M 4)[A.length]? = some gq := by rw [hF, hgR, List.getElem?_append_right (Nat.le_refl _), Nat.sub_self]; rfl
          have hatg : atM (allF M 4) (A.length : Int) = (gq, 0) := by unfold atM; rw [if_neg (by omega), Int.toNat_natCast, hga]
          obtain ⟨M', t1, t2, t3⟩ := Take_F k (by omega) hI lost (A.length : Int)
          rw [hatg] at t1 t3
          simp only [show ((4 : Nat) : Int) = 4 from rfl] at t1
          rw [if_pos rfl, Int.toNat_natCast] at t3
          obtain ⟨n, b1, b2, b3, b4⟩ := b3_loop k S gq (by omega) (by omega)
          obtain ⟨hnS, hSn, hlines⟩ := take_both hS hga (fun j hj y hy => by
            rw [hF, List.getElem?_append_left hj] at hy
            have := lexF_ne (hA y (List.mem_of_getElem? hy))
            rw [← Bool.not_eq_true, isL_iff] at this
            rw [hgF, hgT]; exact this) b2 b3 b4
          have hne : ((n : Int) == (S.length : Int)) = false := by simp; omega
          have s1 : subL S (0) (n : Int) = some (S.take n) := by rw [subL_ok (by omega) (by omega) (by omega)]; simp
          have s2 : subL S ((n + 1 : Nat) : Int) (S.length : Int) = some (S.drop (n + 1)) := by
            rw [subL_ok (by omega) (by omega) (by omega)]
            congr 1
            exact List.take_of_length_le (by simp)
          simp only [hz, bne_self_eq_false, Bool.false_eq_true, if_false, hx, hb2, Option.bind_some, t1, b1, hgF, hgT, hne, inO_ok (show 0 ≤ (n : Int) by omega) (show (n : Int).toNat < S.length by omega), Int.toNat_natCast, List.getElem?_eq_getElem hnS, hSn, s1, w64_succ (show n < 9223372036854775807 by omega), s2]
          rw [apL_ok (by simp; omega), Option.bind_some, apL_ok (by simp; omega), Option.bind_some]
          simp only [Option.bind_some, List.nil_append, ← List.eraseIdx_eq_take_drop_succ]
          exact fin _ _ _ t2 fun f t => by rw [t3]; exact hlines f t
        · have hz' : ((atM (allF M 4) y0[i].A).2 != 0) = true := by simpa using hz
          simp only [hz', if_true, Option.bind_some]
          exact fin _ _ _ hI hS
      · simp only [hk234, Bool.false_eq_true, if_false, Option.bind_some]
        exact fin _ _ _ hI hS
    · right
      simp only [law12_NetMeans'2.b1, lt1, dec_f (show ¬ (i : Int) < (y0.length : Int) by omega), Bool.false_eq_true, if_false]
      exact ⟨_, rfl, M, lost, S, rfl, hI, hS⟩
end Go.Proofs.Ytnadeehdnmgebaa
