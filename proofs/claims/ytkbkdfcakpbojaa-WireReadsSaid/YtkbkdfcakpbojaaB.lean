/- The reader over a view, and the reference's. -/
import Derived.Test.YtkbkdfcakpbojaaA
namespace Go.Proofs.Ytkbkdfcakpbojaa
open Go Fw
set_option linter.unusedVariables false
set_option linter.unusedSimpArgs false

def takeV (m : Int) (o n : Nat) (is made : Bool) : Nat × Nat × Bool × Nat × Nat × Bool × Bool :=
  if is = false then (0, 0, false, o, n, is, made) else if m < 0 ∨ m > n then (0, 0, false, 0, 0, false, true) else (o, m.toNat, true, o + m.toNat, n - m.toNat, is, made)
theorem take_eq (k : Nat) (m : Int) (o n : Nat) (is made : Bool) (x : List UInt8) : wire_Reader_take k m o n is made x = some (takeV m o n is made) := by
  simp only [wire_Reader_take, wire_Reader_Failed, lt1, Option.bind_some, takeV]
  cases is
  · simp
  · by_cases h1 : m < 0
    · simp [h1]
    · by_cases h2 : m > n
      · simp [h1, h2]
      · have e1 : viewN o n 0 m = some (o, m.toNat) := by unfold viewN; rw [if_pos ⟨by omega, by omega, by omega⟩]; simp
        have e2 : viewN o n m ((n : Nat) : Int) = some (o + m.toNat, n - m.toNat) := by unfold viewN; rw [if_pos ⟨by omega, by omega, by omega⟩]; simp
        simp [h1, h2, e1, e2]
theorem view_ok {x : List UInt8} {o n : Nat} (h : n = 0 ∨ o + n ≤ x.length) : viewL x o n = some ((x.drop o).take n) := by
  unfold viewL
  by_cases h0 : n = 0
  · subst h0; simp
  · rw [if_neg h0, if_pos (by omega)]
theorem get_eq (k : Nat) (hk : 9 ≤ k) (o n : Nat) (x : List UInt8) (h : n = 0 ∨ o + n ≤ x.length) (hn : n ≤ 1000000) (ho : o ≤ 1000000) : wire_Get k o n x = some (if 1 ≤ n ∧ n ≤ 8 then (getU ((x.drop o).take n), 0) else (0, 2)) := by
  simp only [wire_Get, lt1]
  by_cases h1 : ((n : Nat) : Int) < 1
  · have : ¬ (1 ≤ n ∧ n ≤ 8) := by omega
    simp only [h1, this, decide_true, if_true, if_false, Option.bind_some]
  by_cases h2 : ((n : Nat) : Int) > 8
  · have : ¬ (1 ≤ n ∧ n ≤ 8) := by omega
    simp only [h1, h2, this, decide_true, decide_false, Bool.false_eq_true, if_true, if_false, Option.bind_some]
  have h3 : 1 ≤ n ∧ n ≤ 8 := by omega
  have hox : o + n ≤ x.length := by omega
  obtain ⟨b, hb⟩ : ∃ b, (x.drop o).take n = b := ⟨_, rfl⟩
  have hbl : b.length = n := by rw [← hb]; simp; omega
  have hbi : ∀ i (hi : i < n), x[o + i]? = some (b[i]'(by omega)) := fun i hi => by
    subst hb
    rw [List.getElem?_eq_getElem (by omega)]
    simp
  have hl : loopO (fun s => wire_Get.b1 k n o x s.1 s.2) k ((0 : UInt64), (0 : Int)) = some (getU b) := by
    refine loop_g (n := n) (fun i => (UInt64.ofNat (getB (b.take i)), ((i : Nat) : Int))) _ (by simp [getB]) ?_ ?_ (by omega)
    · intro i hi
      have hib : i < b.length := by omega
      obtain ⟨g1, g2⟩ := getB_take_lt b i (by omega)
      have e1 : UN.shl (UInt64.ofNat (getB (b.take i))) (UN.toN (8 : UInt64)) = UInt64.ofNat (getB (b.take i) * 256) := by
        show UInt64.ofNat ((UInt64.ofNat (getB (b.take i))).toNat * 2 ^ (min ((8 : UInt64).toNat) 64)) = _
        rw [UInt64.toNat_ofNat_of_lt' g2]
        rfl
      have e2 : (UInt64.ofNat (getB (b.take i) * 256) ||| (UN.to b[i] : UInt64)) = UInt64.ofNat (getB (b.take (i + 1))) := by
        apply UInt64.toNat_inj.1
        have hx := b[i].toNat_lt
        have e3 : (UN.to b[i] : UInt64).toNat = b[i].toNat := UInt64.toNat_ofNat_of_lt' (Nat.lt_of_lt_of_le hx (by decide))
        have g3 := getB_lt (b.take (i + 1))
        have g4 : (b.take (i + 1)).length ≤ 8 := by simp; omega
        rw [UInt64.toNat_or, UInt64.toNat_ofNat_of_lt' g1, e3, UInt64.toNat_ofNat_of_lt' (Nat.lt_of_lt_of_le g3 (pow256_le g4)), getB_take b i hib]
        have := Nat.shiftLeft_add_eq_or_of_lt (i := 8) (b := b[i].toNat) hx (getB (b.take i))
        rw [Nat.shiftLeft_eq] at this
        exact this.symm
      have e4 : inX o n ((i : Nat) : Int) = some (o + i) := by unfold inX; rw [if_pos ⟨by omega, by omega⟩]; simp
      simp only [wire_Get.b1, lt1, dec_t (show (i : Int) < ((n : Nat) : Int) by omega), if_true, e4, hbi i hi, Option.bind_some, e1, e2, w64_succ (show i < 9223372036854775807 by omega)]
    · simp only [wire_Get.b1, lt1, dec_f (show ¬ ((n : Nat) : Int) < ((n : Nat) : Int) by omega), Bool.false_eq_true, if_false]
      rw [← hbl, List.take_length, getU]
  simp only [dec_f h1, dec_f h2, Bool.false_eq_true, if_false, Option.bind_some, hl, if_pos h3, hb]
/-- The two readers stand alike. -/
structure Rel (x B : List UInt8) (o n : Nat) (is made : Bool) (r : ref01_Reader) : Prop where
  hB : r.B = B
  made : made = true
  f : r.Failed = !is
  len : x.length = B.length
  small : B.length ≤ 9000
  at0 : 0 ≤ r.At
  at1 : r.At ≤ B.length
  n0 : n ≤ B.length
  o0 : o ≤ B.length
  go : is = true → r.At = o ∧ o + n = B.length ∧ x.drop o = B.drop o
theorem refBytes_eq (k : Nat) (m : Int) (r : ref01_Reader) (h0 : 0 ≤ r.At) (h1 : r.At ≤ r.B.length) (hs : r.B.length ≤ 9000) : ref01_Reader_Bytes k m r = some (if r.Failed = true ∨ m < 0 ∨ m > r.B.length - r.At then ([], { r with Failed := true }) else ((r.B.drop r.At.toNat).take m.toNat, { r with At := r.At + m })) := by
  have hw : w64 ((List.length r.B : Int) - r.At) = (List.length r.B : Int) - r.At := w64_id (by omega) (by omega)
  obtain ⟨B, At, F⟩ := r
  simp only at h0 h1 hs hw
  simp only [ref01_Reader_Bytes, lt1, Option.bind_some]
  cases F
  · by_cases h2 : m < 0
    · simp [h2]
    · by_cases h3 : m > B.length - At
      · simp [h2, h3, hw]
      · have e1 : w64 (At + m) = At + m := w64_id (by omega) (by omega)
        have e2 : w64 (At + m - m) = At := by rw [show At + m - m = At by omega]; exact w64_id (by omega) (by omega)
        have e3 : subL B At (At + m) = some ((B.drop At.toNat).take m.toNat) := by
          rw [subL_ok h0 (by omega) (by omega)]
          congr 2
          omega
        have e4 : w64 At = At := w64_id (by omega) (by omega)
        simp [h2, h3, hw, e1, e2, e3, e4]
  · simp
theorem take_rel (k : Nat) (m : Int) {x B : List UInt8} {o n : Nat} {is made : Bool} {r : ref01_Reader} (h : Rel x B o n is made r) : ∃ vo vn ok o' n' is' made' bs r', takeV m o n is made = (vo, vn, ok, o', n', is', made') ∧ ref01_Reader_Bytes k m r = some (bs, r') ∧ Rel x B o' n' is' made' r' ∧
    (vn = 0 ∨ vo + vn ≤ x.length) ∧ (x.drop vo).take vn = bs ∧ bs.length = vn ∧ vn ≤ 9000 ∧ vo ≤ 9000 ∧ ((vn : Int) ≤ m ∨ vn = 0) ∧ (vn ≠ 0 → (vn : Int) = m) ∧ (is' = true → vo + vn ≤ o') ∧ (vn ≠ 0 → is' = true) := by
  obtain ⟨rB, At, F⟩ := r
  obtain ⟨hB, rfl, h3, h4, h5, h6, h7, h8, h9, h10⟩ := h
  simp only at hB
  subst hB
  simp only at h3 h4 h5 h6 h7 h8 h9 h10
  have hr := refBytes_eq k m ⟨rB, At, F⟩ h6 h7 h5
  simp only at hr
  subst h3
  cases is
  · refine ⟨0, 0, false, o, n, false, true, [], _, by simp [takeV], hr, ?_, .inl rfl, by simp, rfl, by omega, by omega, .inr rfl, fun h => absurd rfl h, (fun h => by cases h), fun h => absurd rfl h⟩
    try simp only [Bool.not_false, true_or, if_true]
    exact ⟨rfl, rfl, rfl, h4, h5, h6, h7, h8, h9, (fun h => by cases h)⟩
  · obtain ⟨g1, g2, g3⟩ := h10 rfl
    by_cases hc : m < 0 ∨ m > n
    · have hc' : (!true) = true ∨ m < 0 ∨ m > rB.length - At := by
        rcases hc with hc | hc
        · exact .inr (.inl hc)
        · exact .inr (.inr (by omega))
      rw [if_pos hc'] at hr
      refine ⟨0, 0, false, 0, 0, false, true, [], _, by simp [takeV, hc], hr, ?_, .inl rfl, by simp, rfl, by omega, by omega, .inr rfl, fun h => absurd rfl h, (fun h => by cases h), fun h => absurd rfl h⟩
      exact ⟨rfl, rfl, rfl, h4, h5, h6, h7, by omega, by omega, (fun h => by cases h)⟩
    · have hc' : ¬ ((!true) = true ∨ m < 0 ∨ m > rB.length - At) := by
        rintro (h | h | h)
        · cases h
        · exact hc (.inl h)
        · exact hc (.inr (by omega))
      rw [if_neg hc'] at hr
      refine ⟨o, m.toNat, true, o + m.toNat, n - m.toNat, true, true, _, _, by simp [takeV, hc], hr, ?_, .inr (by omega), ?_, ?_, by omega, by omega, .inl (by omega), fun _ => by omega, fun _ => Nat.le_refl _, fun _ => rfl⟩
      · refine ⟨rfl, rfl, rfl, h4, h5, by show 0 ≤ At + m; omega, by show At + m ≤ _; omega, by omega, by omega, fun _ => ⟨by show At + m = _; omega, by omega, ?_⟩⟩
        rw [← List.drop_drop, ← List.drop_drop, g3]
      · rw [g3, show At.toNat = o by omega]
      · simp; omega
end Go.Proofs.Ytkbkdfcakpbojaa
