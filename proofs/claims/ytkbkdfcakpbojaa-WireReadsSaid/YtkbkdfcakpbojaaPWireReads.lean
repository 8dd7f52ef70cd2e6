/- The plain law WireReads. -/
import Derived.Test.YtkbkdfcakpbojaaD
namespace Go.Proofs.Ytkbkdfcakpbojaa
open Go Fw
set_option linter.unusedVariables false
set_option linter.unusedSimpArgs false

set_option maxRecDepth 100000 in
theorem known_eq : law01_known 10000 = some true := by
  simp only [law01_known, wire_Put, wire_Put.b1, wire_Blob, wire_Dot, wire_Read, slices_Clonebyte_byte, wire_Reader_Blob, wire_Reader_Bytes, wire_Reader_Number, wire_Reader_take, wire_Reader_Failed, wire_Get, wire_Get.b1, wire_Reader_Left, wire_Reader_End, law01_num, shrU, w64_fun]
  decide +kernel
theorem dot_refl (d : api_Dot) : eq_api_Dot d d = true := eq_api_Dot_iff.2 rfl
theorem vec_refl (d : Vector UInt64 16) : eqV (fun x y => x == y) d d = true := (eqV_iff (fun _ _ => beq_iff_eq)).2 rfl
theorem step_rel (k : Nat) (hk : 10000 ≤ k) (a : law01_Step) {x B : List UInt8} {o n : Nat} {is made : Bool} {r : ref01_Reader} (h : Rel x B o n is made r) :
    ∃ x' o' n' is' made' r', law01_step'2 k a o n is made x r = some (true, x', o', n', is', made', r') ∧ Rel x' B o' n' is' made' r' := by
  simp only [law01_step'2, lt1]
  by_cases h1 : (a.Kind == 1) = true
  · obtain ⟨v, o', n', is', made', r', e1, e2, e3, _⟩ := num_rel k (by omega) a.N h
    simp only [h1, if_true, e1, e2, Option.bind_some, beq_self_eq_true]
    exact ⟨_, _, _, _, _, _, rfl, e3⟩
  by_cases h2 : (a.Kind == 2) = true
  · obtain ⟨vo, vn, o', n', is', made', bs, r', e1, e2, e3, e4⟩ := blob_rel k (by omega) h
    simp only [h1, h2, if_true, Bool.false_eq_true, if_false, e1, e2, e4, Option.bind_some, beq_self_eq_true]
    exact ⟨_, _, _, _, _, _, rfl, e3⟩
  by_cases h3 : (a.Kind == 3) = true
  · obtain ⟨d, o', n', is', made', r', e1, e2, e3⟩ := dot_rel k (by omega) h
    simp only [h1, h2, h3, if_true, Bool.false_eq_true, if_false, e1, e2, Option.bind_some, dot_refl]
    exact ⟨_, _, _, _, _, _, rfl, e3⟩
  by_cases h4 : (a.Kind == 4) = true
  · obtain ⟨d, o', n', is', made', r', e1, e2, e3⟩ := vec_rel k (by omega) h
    simp only [h1, h2, h3, h4, if_true, Bool.false_eq_true, if_false, e1, e2, Option.bind_some, vec_refl]
    exact ⟨_, _, _, _, _, _, rfl, e3⟩
  by_cases h5 : (a.Kind == 5) = true
  · obtain ⟨vo, vn, o', n', is', made', bs, r', e1, e2, e3, e4, e5, e6, e7, e8, e9⟩ := bytes_rel k a.N h
    obtain ⟨x', f1, f2, f3⟩ := tilt k x vo vn e6 e7 e8 hk
    simp only [h1, h2, h3, h4, h5, if_true, Bool.false_eq_true, if_false, e1, e2, e4, f1, Option.bind_some, beq_self_eq_true]
    refine ⟨_, _, _, _, _, _, rfl, ⟨e3.hB, e3.made, e3.f, by rw [f2]; exact e3.len, e3.small, e3.at0, e3.at1, e3.n0, e3.o0, fun hi => ?_⟩⟩
    obtain ⟨g1, g2, g3⟩ := e3.go hi
    exact ⟨g1, g2, by rw [f3 o' (e9 hi)]; exact g3⟩
  · simp only [h1, h2, h3, h4, h5, Bool.false_eq_true, if_false, Option.bind_some]
    exact ⟨_, _, _, _, _, _, rfl, h⟩
theorem left_rel (k : Nat) {x B : List UInt8} {o n : Nat} {is made : Bool} {r : ref01_Reader} (h : Rel x B o n is made r) : ∃ v, wire_Reader_Left k o n is made x = some v ∧ ref01_Reader_Left k r = some v ∧ (is = true → v = n) := by
  have hf := h.f
  have h1 := h.at0; have h2 := h.at1; have h3 := h.small
  simp only [wire_Reader_Left, wire_Reader_Failed, lt1, Option.bind_some, ref01_Reader_Left, hf, h.hB]
  cases is
  · exact ⟨0, rfl, rfl, fun h => by cases h⟩
  · obtain ⟨g1, g2, g3⟩ := h.go rfl
    refine ⟨(n : Int), rfl, ?_, fun _ => rfl⟩
    simp only [Bool.not_true, Bool.false_eq_true, if_false]
    rw [w64_id (by omega) (by omega)]
    congr 1
    omega
theorem end_rel (k : Nat) {x B : List UInt8} {o n : Nat} {is made : Bool} {r : ref01_Reader} (h : Rel x B o n is made r) : ∃ v, wire_Reader_End k o n is made x = some v ∧ ref01_Reader_End k r = some v := by
  obtain ⟨v, h1, h2, h3⟩ := left_rel k h
  have hf := h.f
  have hm := h.made
  subst hm
  simp only [wire_Reader_End, wire_Reader_Failed, lt1, Option.bind_some, ref01_Reader_End, hf, h2, Bool.not_true, Bool.false_eq_true, if_false]
  cases is
  · exact ⟨4, rfl, rfl⟩
  · have := h3 rfl
    subst this
    simp only [Bool.not_true, Bool.false_eq_true, if_false, Option.bind_some]
    by_cases h0 : (n : Int) > 0
    · exact ⟨4, by rw [if_pos (decide_eq_true h0)], by rw [if_pos (decide_eq_true h0)]⟩
    · exact ⟨0, by rw [if_neg (by rw [decide_eq_false h0]; decide)], by rw [if_neg (by rw [decide_eq_false h0]; decide)]⟩
theorem pure_WireReads (y0 : (List UInt8)) (y1 : (List law01_Step)) (f0 : (List.length y0 * 1 ≤ 140737488351232 ∧ ∀ z0 ∈ y0, True)) (f1 : (List.length y1 * 16 ≤ 140737488351232 ∧ ∀ z0 ∈ y1, ((IntKind.min .i64 ≤ z0.Kind ∧ z0.Kind ≤ IntKind.max .i64) ∧ ((IntKind.min .i64 ≤ z0.N ∧ z0.N ≤ IntKind.max .i64) ∧ True)))) : ∃ k, law01_WireReads k y0 y1 = some true := by
  have hkn := known_eq
  obtain ⟨k, hk⟩ : ∃ k, k = 10000 := ⟨10000, rfl⟩
  rw [← hk] at hkn
  refine ⟨k, ?_⟩
  simp only [law01_WireReads, lt1, hkn, Option.bind_some]
  by_cases h1 : (y0.length : Int) > 9000
  · simp only [h1, decide_true, cond_true, if_true]
  by_cases h2 : (y1.length : Int) > 300
  · simp only [h1, h2, decide_true, decide_false, cond_false, if_true]
  have hr : wire_Read k y0 = some (y0, y0.length) := by
    simp only [wire_Read, slices_Clonebyte_byte, apL_ok (show (([] : List UInt8).length + y0.length) * 1 ≤ 140737488355328 by simp; omega), Option.bind_some, List.nil_append]
  simp only [h1, h2, decide_false, cond_false, Bool.false_eq_true, if_false, hr, Option.bind_some]
  have hl := loop_inv (body := fun s : List UInt8 × Nat × Nat × Bool × Bool × ref01_Reader × Int => law01_WireReads.b1 k y1 s.1 s.2.1 s.2.2.1 s.2.2.2.1 s.2.2.2.2.1 s.2.2.2.2.2.1 s.2.2.2.2.2.2)
    (I := fun s => 0 ≤ s.2.2.2.2.2.2 ∧ s.2.2.2.2.2.2 ≤ (y1.length : Int) ∧ Rel s.1 y0 s.2.1 s.2.2.1 s.2.2.2.1 s.2.2.2.2.1 s.2.2.2.2.2.1) (m := fun s => ((y1.length : Int) - s.2.2.2.2.2.2).toNat) (fun t => t = .inl ()) ?_ k
    (y0, 0, y0.length, true, true, ref01_Reader.mk y0 (0 : Int) false, (0 : Int)) ⟨by show (0 : Int) ≤ 0; omega, by show (0 : Int) ≤ _; omega, ⟨rfl, rfl, rfl, rfl, by omega, by show (0 : Int) ≤ 0; omega, by show (0 : Int) ≤ _; omega, Nat.le_refl _, Nat.zero_le _, fun _ => ⟨rfl, by simp, rfl⟩⟩⟩ (by show ((y1.length : Int) - 0).toNat < k; omega)
  · obtain ⟨t, e1, rfl⟩ := hl
    simp only [e1, Option.bind_some, beq_self_eq_true, if_true, cond_true]
  · rintro ⟨x, o, n, is, made, r, i⟩ ⟨g0, g1, g2⟩
    simp only at g0 g1 g2
    by_cases hlt : i < (y1.length : Int)
    · left
      obtain ⟨i, rfl⟩ : ∃ j : Nat, i = j := ⟨i.toNat, by omega⟩
      obtain ⟨x', o', n', is', made', r', s1, s2⟩ := step_rel k (by omega) (y1[i]'(by omega)) g2
      obtain ⟨v, l1, l2, _⟩ := left_rel k s2
      obtain ⟨u, u1, u2⟩ := end_rel k s2
      have hf := s2.f
      have hfw : wire_Reader_Failed k o' n' is' made' x' = some (!is') := rfl
      simp only [law01_WireReads.b1, lt1, dec_t hlt, if_true, idxL_lt (show i < y1.length by omega), s1, Option.bind_some, Bool.not_true, Bool.false_eq_true, if_false, l1, l2, bne_self_eq_false, hfw, hf, u1, u2, law01_num, w64_succ (show i < 9223372036854775807 by omega)]
      exact ⟨_, rfl, ⟨by show (0 : Int) ≤ ((i + 1 : Nat) : Int); omega, by show ((i + 1 : Nat) : Int) ≤ _; omega, s2⟩, by show ((y1.length : Int) - ((i + 1 : Nat) : Int)).toNat < ((y1.length : Int) - (i : Int)).toNat; omega⟩
    · right
      simp only [law01_WireReads.b1, lt1, dec_f hlt, Bool.false_eq_true, if_false]
      exact ⟨_, rfl, rfl⟩
end Go.Proofs.Ytkbkdfcakpbojaa
