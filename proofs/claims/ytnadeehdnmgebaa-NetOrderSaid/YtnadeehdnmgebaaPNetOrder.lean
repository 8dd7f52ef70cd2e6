/- The plain law NetOrder. -/
import Derived.Test.YtnadeehdnmgebaaK
namespace Go.Proofs.Ytnadeehdnmgebaa
open Go Fw
set_option linter.unusedVariables false
set_option linter.unusedSimpArgs false

theorem ob3_loop (k : Nat) (S : List api_Flight) (g : api_Flight) (hk : S.length < k) (hl : S.length ≤ 1000000) :
    ∃ n : Nat, loopO (fun s => law12_NetOrder.b3 k S g s) k (0 : Int) = some (n : Int) ∧ n ≤ S.length ∧ (∀ j, j < n → ∀ y, S[j]? = some y → ¬ (y.From = g.From ∧ y.To = g.To)) ∧ ∀ h : n < S.length, S[n].From = g.From ∧ S[n].To = g.To := by
  refine find_loop k S g _ hk hl (fun i hi => ?_) ?_
  · simp only [law12_NetOrder.b3, lt1, dec_t (show (i : Int) < (S.length : Int) by omega), if_true, inO_ok (show 0 ≤ (i : Int) by omega) (show (i : Int).toNat < S.length by omega), Option.bind_some, Int.toNat_natCast, List.getElem?_eq_getElem hi, w64_succ (show i < 9223372036854775807 by omega)]
    by_cases h1 : S[i].From = g.From
    · by_cases h2 : S[i].To = g.To
      · simp [h1, h2]
      · simp [h1, h2]
    · simp [h1]
  · simp only [law12_NetOrder.b3, lt1, dec_f (show ¬ (S.length : Int) < (S.length : Int) by omega), Bool.false_eq_true, if_false, Option.bind_some]
theorem pure_NetOrder (y0 : (List law12_Act)) (f0 : (List.length y0 * 48 ≤ 140737488351232 ∧ ∀ z0 ∈ y0, ((IntKind.min .i64 ≤ z0.Kind ∧ z0.Kind ≤ IntKind.max .i64) ∧ ((IntKind.min .i64 ≤ z0.A ∧ z0.A ≤ IntKind.max .i64) ∧ ((IntKind.min .i64 ≤ z0.B ∧ z0.B ≤ IntKind.max .i64) ∧ ((List.length z0.Bytes * 1 ≤ 140737488351232 ∧ ∀ z1 ∈ z0.Bytes, True) ∧ True)))))) : ∃ k, law12_NetOrder k y0 = some true := by
  obtain ⟨k, hk⟩ : ∃ k, k = 30000 := ⟨30000, rfl⟩
  refine ⟨k, ?_⟩
  have hnum : ∀ v, law12_num k v = some () := fun _ => rfl
  obtain ⟨mu, hmu, hmu2⟩ := much_eq k (by omega) y0
  simp only [law12_NetOrder, known_eq k (by omega), lt1, Option.bind_some, hmu]
  cases mu
  case true => simp
  case false =>
  obtain ⟨hlen, hby⟩ := hmu2 rfl
  simp only [Bool.false_eq_true, if_false, new4, hnum, Option.bind_some]
  have hlp := loop_inv (body := fun s : Mp × Int × List api_Flight × Int => law12_NetOrder.b1 k y0 s.1 s.2.1 s.2.2.1 s.2.2.2)
    (I := fun s => 0 ≤ s.2.2.2 ∧ s.2.2.2 ≤ (y0.length : Int) ∧ Inv s.1 4 ∧ ∀ f t, lineF s.2.2.1 f t = lineF (allF s.1 4) f t) (m := fun s => ((y0.length : Int) - s.2.2.2).toNat)
    (fun r => ∃ M lost S, r = (M, lost, S) ∧ Inv M 4 ∧ ∀ f t, lineF S f t = lineF (allF M 4) f t) ?_ k (([] : Mp), (0 : Int), ([] : List api_Flight), (0 : Int)) ⟨Int.le_refl _, by show (0 : Int) ≤ _; omega, Inv.nil (by omega), fun f t => by rw [show allF [] 4 = [] by decide]⟩ (by show ((y0.length : Int) - 0).toNat < k; omega)
  · obtain ⟨r, e1, M, lost, S, rfl, hI, hS⟩ := hlp
    have hl0 := allF_len hI
    have hSl0 := same_lines hS
    have hlp2 := loop_inv (body := fun s : Mp × List api_Flight × Int => law12_NetOrder.b2 k lost s.1 s.2.1 s.2.2)
      (I := fun s => s.2.2 = (s.2.1.length : Int) ∧ Inv s.1 4 ∧ ∀ f t, lineF s.2.1 f t = lineF (allF s.1 4) f t) (m := fun s => s.2.2.toNat)
      (fun r => ∃ M, r = .inl M ∧ Inv M 4 ∧ allF M 4 = []) ?_ k (M, S, (S.length : Int)) ⟨rfl, hI, hS⟩ (by show (S.length : Int).toNat < k; omega)
    · obtain ⟨r, e2, M', rfl, hI', hN⟩ := hlp2
      obtain ⟨M2, t1, t2, t3⟩ := Take_F k (by omega) hI' lost 0
      have hat : atM (allF M' 4) 0 = (zeroF, 6) := by rw [hN]; rfl
      rw [hat] at t1 t3
      have t3' : allF M2 4 = allF M' 4 := t3
      have hL := Len_F k t2 lost
      rw [t3', hN] at hL
      simp only [show ((4 : Nat) : Int) = 4 from rfl] at t1 hL
      have hL' : net_Net_Len k 4 lost M2 = some 0 := hL
      simp only [e1, Option.bind_some, e2, t1, hnum, beq_self_eq_true, if_true, hL', cond_true]
    · rintro ⟨M, S, c⟩ ⟨hc, hI, hS⟩
      simp only at hc hI hS
      subst hc
      have hl := allF_len hI
      have hSl := same_lines hS
      by_cases hpos : 0 < S.length
      · left
        obtain ⟨gq, R, hF⟩ : ∃ gq R, allF M 4 = gq :: R := by
          cases h : allF M 4 with
          | nil => rw [h] at hSl; simp at hSl; rw [hSl] at hpos; exact absurd hpos (Nat.lt_irrefl _)
          | cons a b => exact ⟨a, b, rfl⟩
        have hga : (allF M 4)[0]? = some gq := by rw [hF]; rfl
        have hat : atM (allF M 4) 0 = (gq, 0) := by rw [hF]; rfl
        obtain ⟨M2, t1, t2, t3⟩ := Take_F k (by omega) hI lost 0
        rw [hat] at t1 t3
        simp only [show ((4 : Nat) : Int) = 4 from rfl] at t1
        rw [if_pos rfl] at t3
        obtain ⟨n, b1, b2, b3, b4⟩ := ob3_loop k S gq (by omega) (by omega)
        obtain ⟨hnS, hSn, hlines⟩ := take_both hS hga (fun j hj => absurd hj (Nat.not_lt_zero _)) b2 b3 b4
        have hne : ((n : Int) == (S.length : Int)) = false := by simp; omega
        have s1 : subL S (0) (n : Int) = some (S.take n) := by rw [subL_ok (by omega) (by omega) (by omega)]; simp
        have s2 : subL S ((n + 1 : Nat) : Int) (S.length : Int) = some (S.drop (n + 1)) := by
          rw [subL_ok (by omega) (by omega) (by omega)]
          congr 1
          exact List.take_of_length_le (by simp)
        have hw : w64 ((S.length : Int) - 1) = (((S.eraseIdx n).length : Nat) : Int) := by
          rw [w64_id (by omega) (by omega), List.length_eraseIdx]; simp [hnS]; omega
        simp only [law12_NetOrder.b2, lt1, dec_t (show (S.length : Int) > 0 by omega), if_true, t1, Option.bind_some, b1, hnum, bne_self_eq_false, Bool.false_eq_true, if_false, hne, inO_ok (show 0 ≤ (n : Int) by omega) (show (n : Int).toNat < S.length by omega), Int.toNat_natCast, List.getElem?_eq_getElem hnS, hSn, same_eq, decide_true, Bool.not_true, s1, w64_succ (show n < 9223372036854775807 by omega), s2]
        rw [apL_ok (by simp; omega), Option.bind_some, apL_ok (by simp; omega), Option.bind_some]
        simp only [Option.bind_some, List.nil_append, ← List.eraseIdx_eq_take_drop_succ, hw]
        exact ⟨_, rfl, ⟨rfl, t2, fun f t => by rw [t3]; exact hlines f t⟩, by show (((S.eraseIdx n).length : Nat) : Int).toNat < (S.length : Int).toNat; rw [List.length_eraseIdx]; simp [hnS]; omega⟩
      · right
        have h0 : S.length = 0 := by omega
        simp only [law12_NetOrder.b2, lt1, dec_f (show ¬ (S.length : Int) > 0 by omega), Bool.false_eq_true, if_false]
        exact ⟨_, rfl, M, rfl, hI, List.eq_nil_of_length_eq_zero (by omega)⟩
  · rintro ⟨M, lost, S, i⟩ ⟨g0, g1, hI, hS⟩
    simp only at g0 g1 hI hS
    obtain ⟨i, rfl⟩ : ∃ j : Nat, i = j := ⟨i.toNat, by omega⟩
    have hl := allF_len hI
    have hSl := same_lines hS
    by_cases hlt : i < y0.length
    · have fin : ∀ (M' : Mp) (lost' : Int) (S' : List api_Flight), Inv M' 4 → (∀ f t, lineF S' f t = lineF (allF M' 4) f t) → (∃ s', (some (.inl (M', lost', S', ((i + 1 : Nat) : Int))) : Option ((Mp × Int × List api_Flight × Int) ⊕ (Mp × Int × List api_Flight))) = some (.inl s') ∧ (0 ≤ s'.2.2.2 ∧ s'.2.2.2 ≤ (y0.length : Int) ∧ Inv s'.1 4 ∧ ∀ f t, lineF s'.2.2.1 f t = lineF (allF s'.1 4) f t) ∧ ((y0.length : Int) - s'.2.2.2).toNat < ((y0.length : Int) - (i : Int)).toNat) := fun M' lost' S' a b =>
        ⟨_, rfl, ⟨by show (0 : Int) ≤ ((i + 1 : Nat) : Int); omega, by show ((i + 1 : Nat) : Int) ≤ _; omega, a, b⟩, by show ((y0.length : Int) - ((i + 1 : Nat) : Int)).toNat < _; omega⟩
      left
      simp only [law12_NetOrder.b1, lt1, dec_t (show (i : Int) < (y0.length : Int) by omega), if_true, idxL_lt hlt, Option.bind_some, w64_succ (show i < 9223372036854775807 by omega)]
      by_cases h1 : y0[i].Kind = 1
      · have e1 : (y0[i].Kind == 1) = true := by simp [h1]
        obtain ⟨M', s1, s2, s3⟩ := Send_F k hI y0[i].A y0[i].B y0[i].Bytes lost
        simp only [show ((4 : Nat) : Int) = 4 from rfl] at s1
        simp only [e1, if_true, s1, hnum, Option.bind_some]
        by_cases hz : (sendF 4 y0[i].A y0[i].B y0[i].Bytes lost (allF M 4)).1 = 0
        · obtain ⟨hb, hF⟩ := send_ok hz
          obtain ⟨hp, _, _⟩ := badS_in hb
          simp only [hz, beq_self_eq_true, if_true]
          rw [apL_ok (by simp; omega)]
          simp only [Option.bind_some]
          refine fin _ _ _ s2 fun f t => ?_
          rw [s3, hF, line_lay (x := ⟨y0[i].A, y0[i].B, y0[i].Bytes⟩) hp, ← hS]
          unfold lineF
          rw [List.filter_append]
        · have hz' : ((sendF 4 y0[i].A y0[i].B y0[i].Bytes lost (allF M 4)).1 == 0) = false := by simpa using hz
          simp only [hz', Bool.false_eq_true, if_false, Option.bind_some]
          exact fin _ _ _ s2 fun f t => by rw [s3, send_no hz, hS]
      · have e1 : (y0[i].Kind == 1) = false := by simp [h1]
        simp only [e1, Bool.false_eq_true, if_false, Option.bind_some]
        exact fin _ _ _ hI hS
    · right
      simp only [law12_NetOrder.b1, lt1, dec_f (show ¬ (i : Int) < (y0.length : Int) by omega), Bool.false_eq_true, if_false]
      exact ⟨_, rfl, M, lost, S, rfl, hI, hS⟩
end Go.Proofs.Ytnadeehdnmgebaa
