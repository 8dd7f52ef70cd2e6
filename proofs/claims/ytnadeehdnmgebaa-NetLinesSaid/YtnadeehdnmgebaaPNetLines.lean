/- The plain law NetLines. -/
import Derived.Test.YtnadeehdnmgebaaK
namespace Go.Proofs.Ytnadeehdnmgebaa
open Go Fw
set_option linter.unusedVariables false
set_option linter.unusedSimpArgs false

theorem filter_or {α : Type} {p q r : α → Bool} : ∀ (l : List α), (∀ x ∈ l, r x = (p x || q x) ∧ (p x && q x) = false) → (l.filter r).length = (l.filter p).length + (l.filter q).length
  | [], _ => rfl
  | x :: l, h => by
    have ih := filter_or l fun y hy => h y (List.mem_cons_of_mem _ hy)
    obtain ⟨h1, h2⟩ := h x (List.mem_cons_self ..)
    rw [List.filter_cons, List.filter_cons, List.filter_cons, h1]
    cases hp : p x <;> cases hq : q x <;> simp_all <;> omega
def bf (a b : Int) (x : api_Flight) : Bool := decide (x.From < a) || (x.From == a && decide (x.To < b))
def cB (F : List api_Flight) (a b : Int) : Nat := (F.filter (bf a b)).length
def cE (F : List api_Flight) (e a b : Int) : Nat := (F.filter fun x => bf a b x && toB e x).length
theorem bf_iff {a b : Int} {x : api_Flight} : bf a b x = true ↔ x.From < a ∨ (x.From = a ∧ x.To < b) := by simp [bf]
theorem beq_of_iff {p q : Bool} (h : p = true ↔ q = true) : p = q := by cases p <;> cases q <;> simp_all
theorem cB_step (F : List api_Flight) (a b : Int) : cB F a (b + 1) = cB F a b + (lineF F a b).length := by
  refine filter_or F fun x _ => ⟨beq_of_iff ?_, ?_⟩
  · rw [Bool.or_eq_true, bf_iff, bf_iff, isL_iff]; omega
  · rw [← Bool.not_eq_true, Bool.and_eq_true, bf_iff, isL_iff]; omega
theorem toB_iff {e : Int} {x : api_Flight} : toB e x = true ↔ x.To = e := by simp [toB]
theorem cE_step (F : List api_Flight) (e a b : Int) : cE F e a (b + 1) = cE F e a b + if b = e then (lineF F a b).length else 0 := by
  have h1 : (if b = e then (lineF F a b).length else 0) = (F.filter fun x => isL a b x && toB e x).length := by
    by_cases h : b = e
    · rw [if_pos h]
      unfold lineF
      congr 1
      refine List.filter_congr fun x _ => beq_of_iff ?_
      rw [Bool.and_eq_true, isL_iff, toB_iff]; omega
    · rw [if_neg h, filter_none]
      · rfl
      · intro x _
        rw [← Bool.not_eq_true, Bool.and_eq_true, isL_iff, toB_iff]; omega
  rw [h1]
  refine filter_or F fun x _ => ⟨beq_of_iff ?_, ?_⟩
  · simp only [Bool.or_eq_true, Bool.and_eq_true, bf_iff, isL_iff, toB_iff]; omega
  · rw [← Bool.not_eq_true]; simp only [Bool.and_eq_true, bf_iff, isL_iff, toB_iff]; omega
theorem F4 {M : Mp} {x : api_Flight} (h : x ∈ allF M 4) : 1 ≤ x.From ∧ x.From ≤ 4 ∧ 1 ≤ x.To ∧ x.To ≤ 4 := (mem_allF h).1
theorem cB_turn (M : Mp) (a : Int) : cB (allF M 4) a 6 = cB (allF M 4) (a + 1) 0 := by
  unfold cB
  congr 1
  refine List.filter_congr fun x hx => beq_of_iff ?_
  have := F4 hx
  rw [bf_iff, bf_iff]; omega
theorem cE_turn (M : Mp) (e a : Int) : cE (allF M 4) e a 6 = cE (allF M 4) e (a + 1) 0 := by
  unfold cE
  congr 1
  refine List.filter_congr fun x hx => beq_of_iff ?_
  have := F4 hx
  simp only [Bool.and_eq_true, bf_iff, toB_iff]; omega
theorem line_le {M : Mp} (h : Inv M 4) (a b : Int) : (lineF (allF M 4) a b).length ≤ 64 ∧ (a = b → (lineF (allF M 4) a b).length = 0) := by
  by_cases hp : inR 4 ⟨a, b⟩
  · have := lineF_row (M := M) hp
    simp only at this
    rw [this]
    unfold row
    rw [List.length_map]
    exact ⟨h.len _, fun hab => by rw [ln_out h (by simp [hab]), List.length_nil]⟩
  · have : lineF (allF M 4) a b = [] := filter_none fun x hx => by
      rw [← Bool.not_eq_true, isL_iff]
      rintro ⟨rfl, rfl⟩
      exact hp (mem_allF hx).1
    rw [this]
    exact ⟨by simp, fun _ => rfl⟩
theorem c_le (F : List api_Flight) (p : api_Flight → Bool) : (F.filter p).length ≤ F.length := List.length_filter_le ..
theorem lines3 (k : Nat) (hk : 100 ≤ k) {M : Mp} (h : Inv M 4) (lost e : Int) (a : Nat) (ha : a ≤ 5) :
    loopO (fun s => law12_NetLines.b3 k (a : Int) lost M e s.1 s.2.1 s.2.2) k ((cB (allF M 4) a 0 : Int), (cE (allF M 4) e a 0 : Int), (0 : Int)) = some (.inl ((cB (allF M 4) (a + 1 : Nat) 0 : Int), (cE (allF M 4) e (a + 1 : Nat) 0 : Int))) := by
  have hl := allF_len h
  refine loop_g (f := fun j => ((cB (allF M 4) a (j : Nat) : Int), (cE (allF M 4) e a (j : Nat) : Int), ((j : Nat) : Int))) 6 _ rfl ?_ ?_ (by omega)
  · intro j hj
    obtain ⟨h64, h0⟩ := line_le h (a : Int) (j : Int)
    have hL := Line_F k h lost (a : Int) (j : Int)
    simp only [show ((4 : Nat) : Int) = 4 from rfl] at hL
    have s1 := cB_step (allF M 4) a j
    have s2 := cE_step (allF M 4) e a j
    have b1 := c_le (allF M 4) (bf a j)
    have b2 := c_le (allF M 4) (fun x => bf a j x && toB e x)
    have hb1 : cB (allF M 4) a j ≤ (allF M 4).length := b1
    have hb2 : cE (allF M 4) e a j ≤ (allF M 4).length := b2
    have w1 : w64 ((cB (allF M 4) a j : Int) + ((lineF (allF M 4) a j).length : Int)) = (cB (allF M 4) a (j + 1 : Nat) : Int) := by
      rw [w64_id (by omega) (by omega), show ((j + 1 : Nat) : Int) = (j : Int) + 1 by omega, s1]; omega
    have c3 : (bif ((a : Int) == (j : Int)) then (((lineF (allF M 4) a j).length : Int) != 0) else false) = false := by
      by_cases hab : (a : Int) = (j : Int)
      · simp [hab, h0 hab]
        have := h0 hab
        rw [hab] at this
        exact List.eq_nil_of_length_eq_zero this
      · simp [hab]
    simp only [law12_NetLines.b3, lt1, dec_t (show (j : Int) ≤ 5 by omega), if_true, hL, Option.bind_some, dec_f (show ¬ ((lineF (allF M 4) a j).length : Int) < 0 by omega), dec_f (show ¬ ((lineF (allF M 4) a j).length : Int) > 64 by omega), cond_false, c3, Bool.false_eq_true, if_false, w1, w64_succ (show j < 9223372036854775807 by omega)]
    by_cases he : (j : Int) = e
    · rw [if_pos he] at s2
      have w2 : w64 ((cE (allF M 4) e a j : Int) + ((lineF (allF M 4) a j).length : Int)) = (cE (allF M 4) e a (j + 1 : Nat) : Int) := by
        rw [w64_id (by omega) (by omega), show ((j + 1 : Nat) : Int) = (j : Int) + 1 by omega, s2]; omega
      have he' : ((j : Int) == e) = true := by simpa using he
      simp only [he', if_true, w2, Option.bind_some]
    · rw [if_neg he] at s2
      have he' : ((j : Int) == e) = false := by simpa using he
      have w2 : cE (allF M 4) e a (j + 1 : Nat) = cE (allF M 4) e a j := s2
      simp only [he', Bool.false_eq_true, if_false, w2, Option.bind_some]
  · have t1 := cB_turn M a
    have t2 := cE_turn M e a
    simp only [law12_NetLines.b3, lt1, dec_f (show ¬ ((6 : Nat) : Int) ≤ 5 by omega), Bool.false_eq_true, if_false]
    rw [show ((6 : Nat) : Int) = 6 from rfl, t1, t2, show ((a + 1 : Nat) : Int) = (a : Int) + 1 by omega]
theorem lines2 (k : Nat) (hk : 100 ≤ k) {M : Mp} (h : Inv M 4) (lost e : Int) :
    loopO (fun s => law12_NetLines.b2 k lost M e s.1 s.2.1 s.2.2) k ((0 : Int), (0 : Int), (0 : Int)) = some (.inl (((allF M 4).length : Int), (((allF M 4).filter (toB e)).length : Int))) := by
  refine loop_g (f := fun j => ((cB (allF M 4) (j : Nat) 0 : Int), (cE (allF M 4) e (j : Nat) 0 : Int), ((j : Nat) : Int))) 6 _ ?_ ?_ ?_ (by omega)
  · have h1 : cB (allF M 4) (0 : Nat) 0 = 0 := by
      unfold cB
      rw [filter_none, List.length_nil]
      intro x hx
      have := F4 hx
      rw [← Bool.not_eq_true, bf_iff]; omega
    have h2 : cE (allF M 4) e (0 : Nat) 0 = 0 := by
      unfold cE
      rw [filter_none, List.length_nil]
      intro x hx
      have := F4 hx
      rw [← Bool.not_eq_true, Bool.and_eq_true, bf_iff]; omega
    rw [h1, h2]; rfl
  · intro j hj
    simp only [law12_NetLines.b2, lt1, dec_t (show (j : Int) ≤ 5 by omega), if_true, lines3 k hk h lost e j (by omega), Option.bind_some, w64_succ (show j < 9223372036854775807 by omega)]
  · have h1 : cB (allF M 4) ((6 : Nat) : Int) 0 = (allF M 4).length := by
      unfold cB
      rw [filter_all]
      intro x hx
      have := F4 hx
      rw [bf_iff]; omega
    have h2 : cE (allF M 4) e ((6 : Nat) : Int) 0 = ((allF M 4).filter (toB e)).length := by
      unfold cE
      congr 1
      refine List.filter_congr fun x hx => beq_of_iff ?_
      have := F4 hx
      simp only [Bool.and_eq_true, bf_iff, toB_iff]; omega
    simp only [law12_NetLines.b2, lt1, dec_f (show ¬ ((6 : Nat) : Int) ≤ 5 by omega), Bool.false_eq_true, if_false, h1, h2]
theorem lines4 (k : Nat) (hk : 100 ≤ k) {M : Mp} (h : Inv M 4) (lost e : Int) (hn : ∀ a, lineF (allF M 4) a e = []) :
    loopO (fun s => law12_NetLines.b4 k e lost M s) k (1 : Int) = some (.inl ()) := by
  refine loop_g (f := fun j => ((j + 1 : Nat) : Int)) 4 _ rfl ?_ ?_ (by omega)
  · intro j hj
    have hL := Line_F k h lost ((j + 1 : Nat) : Int) e
    rw [hn] at hL
    simp only [show ((4 : Nat) : Int) = 4 from rfl, List.length_nil] at hL
    simp only [law12_NetLines.b4, lt1, dec_t (show ((j + 1 : Nat) : Int) ≤ 4 by omega), if_true, hL, Option.bind_some, w64_succ (show j + 1 < 9223372036854775807 by omega)]
    rfl
  · simp only [law12_NetLines.b4, lt1, dec_f (show ¬ ((4 + 1 : Nat) : Int) ≤ 4 by omega), Bool.false_eq_true, if_false]
theorem pure_NetLines (y0 : (List law12_Act)) (y1 : Int) (f0 : (List.length y0 * 48 ≤ 140737488351232 ∧ ∀ z0 ∈ y0, ((IntKind.min .i64 ≤ z0.Kind ∧ z0.Kind ≤ IntKind.max .i64) ∧ ((IntKind.min .i64 ≤ z0.A ∧ z0.A ≤ IntKind.max .i64) ∧ ((IntKind.min .i64 ≤ z0.B ∧ z0.B ≤ IntKind.max .i64) ∧ ((List.length z0.Bytes * 1 ≤ 140737488351232 ∧ ∀ z1 ∈ z0.Bytes, True) ∧ True)))))) (f1 : (IntKind.min .i64 ≤ y1 ∧ y1 ≤ IntKind.max .i64)) : ∃ k, law12_NetLines k y0 y1 = some true := by
  obtain ⟨k, hk⟩ : ∃ k, k = 30000 := ⟨30000, rfl⟩
  refine ⟨k, ?_⟩
  have hnum : ∀ v, law12_num k v = some () := fun _ => rfl
  obtain ⟨mu, hmu, hmu2⟩ := much_eq k (by omega) y0
  simp only [law12_NetLines, known_eq k (by omega), lt1, Option.bind_some, hmu]
  cases mu
  case true => simp
  case false =>
  obtain ⟨hlen, hby⟩ := hmu2 rfl
  simp only [Bool.false_eq_true, if_false, new4, hnum, Option.bind_some]
  have hlp := loop_inv (body := fun s : Mp × Int × List api_Flight × Int × Int => law12_NetLines.b1 k y0 s.1 s.2.1 s.2.2.1 s.2.2.2.1 s.2.2.2.2)
    (I := fun s => 0 ≤ s.2.2.2.2 ∧ s.2.2.2.2 ≤ (y0.length : Int) ∧ Inv s.1 4 ∧ s.2.2.1 = allF s.1 4 ∧ s.2.2.2.1 = s.2.1) (m := fun s => ((y0.length : Int) - s.2.2.2.2).toNat)
    (fun r => ∃ M lost, r = .inl (M, lost) ∧ Inv M 4) ?_ k (([] : Mp), (0 : Int), ([] : List api_Flight), (0 : Int), (0 : Int)) ⟨Int.le_refl _, by show (0 : Int) ≤ _; omega, Inv.nil (by omega), by rw [show allF [] 4 = [] by decide], rfl⟩ (by show ((y0.length : Int) - 0).toNat < k; omega)
  · obtain ⟨r, e1, M, lost, rfl, hI⟩ := hlp
    obtain ⟨M2, c1, c2, c3⟩ := Clear_F k hI y1 lost
    have hL := Len_F k hI lost
    have hL2 := Len_F k c2 lost
    rw [c3] at hL2
    have hfl := filter_len (allF M 4) y1
    have hl := allF_len hI
    simp only [show ((4 : Nat) : Int) = 4 from rfl] at hL hL2 c1
    have h4 := lines4 k (by omega) c2 lost y1 fun a => by
      rw [c3]
      unfold lineF
      rw [List.filter_filter]
      refine filter_none fun x _ => ?_
      rw [← Bool.not_eq_true, Bool.and_eq_true, isL_iff]
      simp only [notB, bne_iff_ne]
      omega
    have hw : w64 (((allF M 4).length : Int) - (((allF M 4).filter (toB y1)).length : Int)) = (((allF M 4).filter (notB y1)).length : Int) := by
      rw [w64_id (by omega) (by omega)]; omega
    simp only [e1, Option.bind_some, lines2 k (by omega) hI, hL, bne_self_eq_false, Bool.false_eq_true, if_false, c1, h4, beq_self_eq_true, if_true, hL2, hw, cond_true]
  · rintro ⟨M, lost, L, Lost, i⟩ ⟨g0, g1, hI, hL, hLo⟩
    simp only at g0 g1 hI hL hLo
    subst hL hLo
    obtain ⟨i, rfl⟩ : ∃ j : Nat, i = j := ⟨i.toNat, by omega⟩
    by_cases hlt : i < y0.length
    · left
      obtain ⟨M', lost', d1, d2⟩ := do_eq k (by omega) hI y0[i] (by have := hby i hlt; omega) Lost
      simp only [show ((4 : Nat) : Int) = 4 from rfl] at d1
      simp only [law12_NetLines.b1, lt1, dec_t (show (i : Int) < (y0.length : Int) by omega), if_true, idxL_lt hlt, Option.bind_some, d1, Bool.not_true, Bool.false_eq_true, if_false, w64_succ (show i < 9223372036854775807 by omega)]
      exact ⟨_, rfl, ⟨by show (0 : Int) ≤ ((i + 1 : Nat) : Int); omega, by show ((i + 1 : Nat) : Int) ≤ _; omega, d2, rfl, rfl⟩, by show ((y0.length : Int) - ((i + 1 : Nat) : Int)).toNat < ((y0.length : Int) - (i : Int)).toNat; omega⟩
    · right
      simp only [law12_NetLines.b1, lt1, dec_f (show ¬ (i : Int) < (y0.length : Int) by omega), Bool.false_eq_true, if_false]
      exact ⟨_, rfl, M, Lost, rfl, hI⟩
end Go.Proofs.Ytnadeehdnmgebaa
