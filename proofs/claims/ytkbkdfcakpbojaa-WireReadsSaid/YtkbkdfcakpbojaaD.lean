/- Vectors; what the law does to what it was told. -/
import Derived.Test.YtkbkdfcakpbojaaC
namespace Go.Proofs.Ytkbkdfcakpbojaa
open Go Fw
set_option linter.unusedVariables false
set_option linter.unusedSimpArgs false

/-- The first i words of a vector's bytes. -/
def vecU (v : List UInt8) (i : Nat) : Vector UInt64 16 := Vector.ofFn fun j => if j.1 < i then getU ((v.drop (8 * j.1)).take 8) else 0
theorem vecU_succ (v : List UInt8) (i : Nat) (hi : i < 16) : putV (vecU v i) ⟨i, hi⟩ (getU ((v.drop (8 * i)).take 8)) = vecU v (i + 1) := by
  refine Vector.ext fun j hj => ?_
  simp only [putV, vecU, Vector.getElem_set, Vector.getElem_ofFn]
  by_cases h : i = j
  · subst h; simp
  · rw [if_neg h]
    have : (j < i) ↔ (j < i + 1) := by omega
    simp only [this]
theorem vecU0 (v : List UInt8) : vecU v 0 = Vector.replicate 16 0 := Vector.ext fun j hj => by simp [vecU]
theorem vec_loop (k : Nat) (hk : 17 ≤ k) (v : List UInt8) (hl : v.length = 128) : loopO (fun s => wire_Reader_Vector.b1 k v s.1 s.2.1 s.2.2.1 s.2.2.2.1 s.2.2.2.2.1 s.2.2.2.2.2) k ((Vector.replicate 16 (0 : UInt64)), 0, v.length, true, true, (0 : Int)) = some (vecU v 16) := by
  refine loop_g (n := 16) (fun i => (vecU v i, 8 * i, 128 - 8 * i, true, true, ((i : Nat) : Int))) _ (by simp [vecU0, hl]) ?_ ?_ (by omega)
  · intro i hi
    have h1 := num_at k (by omega) 8 ⟨by omega, by omega⟩ (8 * i) (128 - 8 * i) v (by omega) (by omega) (by omega)
    have h2 : inV 16 (i : Int) = some ⟨i, hi⟩ := inV_ok (by omega) (by simpa using hi)
    simp only [show ((8 : Nat) : Int) = 8 from rfl] at h1
    simp only [wire_Reader_Vector.b1, lt1, dec_t (show (i : Int) < 16 by omega), if_true, wire_Reader_Vector_1, h1, Option.bind_some, h2, vecU_succ v i hi, w64_succ (show i < 9223372036854775807 by omega)]
    rw [show 8 * i + 8 = 8 * (i + 1) by omega, show 128 - 8 * i - 8 = 128 - 8 * (i + 1) by omega]
  · simp only [wire_Reader_Vector.b1, lt1, dec_f (show ¬ ((16 : Nat) : Int) < 16 by omega), Bool.false_eq_true, if_false]
theorem vec_loop0 (k : Nat) (hk : 17 ≤ k) : loopO (fun s => wire_Reader_Vector.b1 k [] s.1 s.2.1 s.2.2.1 s.2.2.2.1 s.2.2.2.2.1 s.2.2.2.2.2) k ((Vector.replicate 16 (0 : UInt64)), 0, 0, true, true, (0 : Int)) = some (Vector.replicate 16 0) := by
  have hp : ∀ i (hi : i < 16), putV (Vector.replicate 16 (0 : UInt64)) ⟨i, hi⟩ 0 = Vector.replicate 16 0 := fun i hi => Vector.ext fun j hj => by simp [putV, Vector.getElem_set]
  refine loop_g (n := 16) (fun i => (Vector.replicate 16 0, 0, 0, decide (i = 0), true, ((i : Nat) : Int))) _ rfl ?_ ?_ (by omega)
  · intro i hi
    have h2 : inV 16 (i : Int) = some ⟨i, hi⟩ := inV_ok (by omega) (by simpa using hi)
    have h1 : wire_Reader_Number k 8 0 0 (decide (i = 0)) true [] = some (0, 0, 0, false, true) := by
      by_cases h0 : i = 0
      · subst h0
        exact num_empty k (by omega) 8 (by omega)
      · rw [dec_f h0]
        have hg := get_eq k (by omega) 0 0 [] (.inl rfl) (by omega) (by omega)
        rw [if_neg (by omega)] at hg
        have ht : ∀ m, takeV m 0 0 false true = (0, 0, false, 0, 0, false, true) := fun m => rfl
        simp only [wire_Reader_Number, lt1, Option.bind_some, dec_f (show ¬ (8 : Int) < 1 by omega), dec_f (show ¬ (8 : Int) > 8 by omega), cond_false, Bool.false_eq_true, if_false, take_eq, ht, hg]
    simp only [wire_Reader_Vector.b1, lt1, dec_t (show (i : Int) < 16 by omega), if_true, wire_Reader_Vector_1, h1, Option.bind_some, h2, hp, w64_succ (show i < 9223372036854775807 by omega)]
    rw [dec_f (show ¬ i + 1 = 0 by omega)]
  · simp only [wire_Reader_Vector.b1, lt1, dec_f (show ¬ ((16 : Nat) : Int) < 16 by omega), Bool.false_eq_true, if_false]
theorem refVec_loop (k : Nat) (hk : 17 ≤ k) (v : List UInt8) (hl : v.length = 128) : loopO (fun s => ref01_Reader_Vector.b1 k v s.1 s.2) k ((Vector.replicate 16 (0 : UInt64)), (0 : Int)) = some (vecU v 16) := by
  have hd : divI (List.length v : Int) 8 = some 16 := by
    rw [hl]
    have : ((128 : Nat) : Int).tdiv 8 = 16 := by decide
    simp only [divI, this]
    rw [if_neg (by decide), w64_id (by decide) (by decide)]
  refine loop_g (n := 16) (fun i => (vecU v i, ((i : Nat) : Int))) _ (by simp [vecU0]) ?_ ?_ (by omega)
  · intro i hi
    have h2 : inV 16 (i : Int) = some ⟨i, hi⟩ := inV_ok (by omega) (by simpa using hi)
    have w1 : w64 (8 * (i : Int)) = ((8 * i : Nat) : Int) := by rw [w64_id (by omega) (by omega)]; omega
    have w2 : w64 (((8 * i : Nat) : Int) + 8) = ((8 * i + 8 : Nat) : Int) := by rw [w64_id (by omega) (by omega)]; omega
    have hs : subL v ((8 * i : Nat) : Int) ((8 * i + 8 : Nat) : Int) = some ((v.drop (8 * i)).take 8) := by
      rw [subL_ok (by omega) (by omega) (by omega)]
      congr 2
      omega
    have hg := refGet_eq k (by omega) ((v.drop (8 * i)).take 8) (by simp; omega)
    simp only [ref01_Reader_Vector.b1, lt1, hd, Option.bind_some, dec_t (show (i : Int) < 16 by omega), if_true, w1, w2, hs, hg, h2, vecU_succ v i hi, w64_succ (show i < 9223372036854775807 by omega)]
  · simp only [ref01_Reader_Vector.b1, lt1, hd, Option.bind_some, dec_f (show ¬ ((16 : Nat) : Int) < 16 by omega), Bool.false_eq_true, if_false]
theorem refVec_loop0 (k : Nat) (hk : 17 ≤ k) : loopO (fun s => ref01_Reader_Vector.b1 k [] s.1 s.2) k ((Vector.replicate 16 (0 : UInt64)), (0 : Int)) = some (Vector.replicate 16 0) := by
  obtain ⟨k', rfl⟩ : ∃ j, k = j + 1 := ⟨k - 1, by omega⟩
  refine loopO_out ?_
  have hd : divI (List.length ([] : List UInt8) : Int) 8 = some 0 := by
    have : ((0 : Nat) : Int).tdiv 8 = 0 := by decide
    simp only [List.length_nil, divI, this]
    rw [if_neg (by decide), w64_id (by decide) (by decide)]
  simp only [ref01_Reader_Vector.b1, lt1, hd, Option.bind_some, dec_f (show ¬ (0 : Int) < 0 by omega), Bool.false_eq_true, if_false]
theorem vec_rel (k : Nat) (hk : 17 ≤ k) {x B : List UInt8} {o n : Nat} {is made : Bool} {r : ref01_Reader} (h : Rel x B o n is made r) :
    ∃ d o' n' is' made' r', wire_Reader_Vector k o n is made x = some (d, o', n', is', made') ∧ ref01_Reader_Vector k r = some (d, r') ∧ Rel x B o' n' is' made' r' := by
  obtain ⟨vo, vn, ok, o', n', is', made', bs, r', h1, h2, h3, h4, h5, h6, h7, h8, h9, h10, h11, h12⟩ := take_rel k 128 h
  have hv : viewL x vo vn = some bs := by rw [view_ok h4, h5]
  have hc := clone_view k hv (by omega)
  simp only [wire_Reader_Vector, take_eq, h1, Option.bind_some, hc, ref01_Reader_Vector, h2]
  by_cases h0 : vn = 0
  · have hbs : bs = [] := List.eq_nil_of_length_eq_zero (by omega)
    subst hbs
    have e1 := vec_loop0 k hk
    have e2 := refVec_loop0 k hk
    simp only [List.length_nil, e1, e2, Option.bind_some]
    exact ⟨_, _, _, _, _, _, rfl, rfl, h3⟩
  · have h9' := h10 h0
    have hl : bs.length = 128 := by omega
    have e1 := vec_loop k hk bs hl
    have e2 := refVec_loop k hk bs hl
    simp only [e1, e2, Option.bind_some]
    exact ⟨_, _, _, _, _, _, rfl, rfl, h3⟩
theorem tilt (k : Nat) (x : List UInt8) (o n : Nat) (hn : n ≤ 9000) (ho : o ≤ 9000) (h : n = 0 ∨ o + n ≤ x.length) (hk : 10000 ≤ k) : ∃ x', loopO (fun s => law01_step'2.b1 k n o s.1 s.2) k (x, (0 : Int)) = some x' ∧ x'.length = x.length ∧ ∀ m, o + n ≤ m → x'.drop m = x.drop m := by
  have := loop_inv (body := fun s => law01_step'2.b1 k n o s.1 s.2) (I := fun s : List UInt8 × Int => 0 ≤ s.2 ∧ s.2 ≤ (n : Int) ∧ s.1.length = x.length ∧ ∀ m, o + n ≤ m → s.1.drop m = x.drop m) (m := fun s => ((n : Int) - s.2).toNat) (fun x' => x'.length = x.length ∧ ∀ m, o + n ≤ m → x'.drop m = x.drop m) ?_ k (x, (0 : Int)) ⟨by show (0 : Int) ≤ 0; omega, by show (0 : Int) ≤ _; omega, rfl, fun _ _ => rfl⟩ (by show ((n : Int) - 0).toNat < k; omega)
  · exact this
  · rintro ⟨s, i⟩ ⟨h0, h1, h2, h3⟩
    simp only at h0 h1 h2 h3
    by_cases hlt : i < (n : Int)
    · left
      obtain ⟨i, rfl⟩ : ∃ j : Nat, i = j := ⟨i.toNat, by omega⟩
      have e1 : inX o n (i : Int) = some (o + i) := by unfold inX; rw [if_pos ⟨by omega, by omega⟩]; simp
      have hi : o + i < s.length := by omega
      have e2 : s[o + i]? = some s[o + i] := List.getElem?_eq_getElem hi
      have e3 : setO' s (o + i) (s[o + i] + 1) = some (s.set (o + i) (s[o + i] + 1)) := by unfold setO'; rw [if_pos hi]
      simp only [law01_step'2.b1, lt1, dec_t hlt, if_true, e1, e2, e3, Option.bind_some, w64_succ (show i < 9223372036854775807 by omega)]
      refine ⟨_, rfl, ⟨by show (0 : Int) ≤ ((i + 1 : Nat) : Int); omega, by show ((i + 1 : Nat) : Int) ≤ _; omega, by show (s.set _ _).length = _; simp [h2], fun m hm => ?_⟩, by show ((n : Int) - ((i + 1 : Nat) : Int)).toNat < ((n : Int) - (i : Int)).toNat; omega⟩
      show (s.set _ _).drop m = _
      rw [List.drop_set_of_lt (by omega), h3 m hm]
    · right
      simp only [law01_step'2.b1, lt1, dec_f hlt, Bool.false_eq_true, if_false]
      exact ⟨_, rfl, h2, h3⟩
end Go.Proofs.Ytkbkdfcakpbojaa
