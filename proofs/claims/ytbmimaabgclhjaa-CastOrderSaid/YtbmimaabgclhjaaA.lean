/- What the functions of dots and vectors compute. -/
import Derived.Test.YtbmimaabgclhjaaFa
import Derived.Test.YtbmimaabgclhjaaFq
import Derived.Test.YtbmimaabgclhjaaS
namespace Go.Proofs.Ytbmimaabgclhjaa
open Go Fw
set_option linter.unusedVariables false
set_option linter.unusedSimpArgs false

theorem cmpI_eq (k : Nat) (x y : Int) : cmp_Compareint k x y = some (if x < y then -1 else if x > y then 1 else 0) := by
  simp only [cmp_Compareint, cmp_isNaNint, lt1, Option.bind_some, bne_self_eq_false, Bool.false_eq_true, if_false, decide_eq_true_eq]
  repeat' split
  all_goals simp_all
theorem cmpU_eq (k : Nat) (x y : UInt64) : cmp_Compareuint64 k x y = some (if x < y then -1 else if y < x then 1 else 0) := by
  simp only [cmp_Compareuint64, cmp_isNaNuint64, lt1, Option.bind_some, beq_self_eq_true, Bool.not_true, Bool.false_eq_true, if_false, decide_eq_true_eq]
  repeat' split
  all_goals simp_all
theorem or2_eq (k : Nat) (hk : 3 ≤ k) (x y : Int) : cmp_Orint k [x, y] = some (if x ≠ 0 then x else y) := by
  obtain ⟨k, rfl⟩ : ∃ j, k = j + 3 := ⟨k - 3, by omega⟩
  have h1 : w64 1 = 1 := w64_id (by omega) (by omega)
  have h2 : w64 2 = 2 := w64_id (by omega) (by omega)
  by_cases hx : x = 0 <;> by_cases hy : y = 0 <;> simp [cmp_Orint, loopO, cmp_Orint.b1, idxL, lt1, hx, hy, h1, h2]
def less (a b : api_Dot) : Prop := a.Region < b.Region ∨ (a.Region = b.Region ∧ a.Count.toNat < b.Count.toNat)
instance (a b : api_Dot) : Decidable (less a b) := inferInstanceAs (Decidable (_ ∨ _))
theorem less_eq (k : Nat) (hk : 3 ≤ k) (a b : api_Dot) : event_Less k a b = some (decide (less a b)) := by
  simp only [event_Less, cmpI_eq, cmpU_eq, or2_eq k hk, lt1, Option.bind_some, Option.some.injEq, decide_eq_decide, less, UInt64.lt_iff_toNat_lt]
  by_cases h1 : a.Region < b.Region
  · simp [h1]
  · by_cases h2 : a.Region > b.Region
    · rw [if_neg h1, if_pos h2]; simp [h1, show ¬ a.Region = b.Region from by omega]
    · have h3 : a.Region = b.Region := by omega
      rw [if_neg h1, if_neg h2]
      by_cases h4 : a.Count.toNat < b.Count.toNat
      · simp [h3, h4]
      · by_cases h5 : b.Count.toNat < a.Count.toNat
        · simp [h3, h4, h5]
        · simp [h3, h4, h5]

abbrev Vc := Vector UInt64 16
def jn (a b : Vc) : Vc := Vector.ofFn fun i => maxU a[i] b[i]
def mayDot (d : api_Dot) : Prop := 1 ≤ d.Region ∧ d.Region ≤ 16 ∧ 1 ≤ d.Count.toNat ∧ d.Count.toNat ≤ 4611686018427387904
instance (d : api_Dot) : Decidable (mayDot d) := inferInstanceAs (Decidable (_ ∧ _))
theorem mayDot_eq (k : Nat) (d : api_Dot) : event_MayDot k d = some (decide (mayDot d)) := by
  simp only [event_MayDot, lt1, mayDot, UInt64.le_iff_toNat_le, show (1 : UInt64).toNat = 1 from rfl, show (4611686018427387904 : UInt64).toNat = 4611686018427387904 from rfl, ge_iff_le]
  by_cases h1 : 1 ≤ d.Region <;> by_cases h2 : d.Region ≤ 16 <;> by_cases h3 : 1 ≤ d.Count.toNat <;> simp [h1, h2, h3]
def at_ (v : Vc) (r : Int) : Nat := (v[(r - 1).toNat]?.getD 0).toNat
theorem at_lt {v : Vc} {r : Int} (h : (r - 1).toNat < 16) : at_ v r = v[(r - 1).toNat].toNat := by unfold at_; rw [Vector.getElem?_eq_getElem h]; rfl
theorem w64_pred {r : Int} (h : 1 ≤ r) (h2 : r ≤ 16) : w64 (r - 1) = r - 1 := w64_id (by omega) (by omega)
/-- The places of a vector, each small. -/
def small (v : Vc) : Prop := ∀ i (h : i < 16), v[i].toNat ≤ 4611686018427387904
theorem mv1_eq (k : Nat) (n : UInt64) : event_mayVector_1 k n = some (decide (4611686018427387904 < n.toNat)) := by
  simp [event_mayVector_1, lt1, UInt64.lt_iff_toNat_lt]
theorem mayVector_eq (k : Nat) (hk : 17 ≤ k) (v : Vc) : ∃ b, event_mayVector k v = some b ∧ (b = true ↔ small v) := by
  have hs : subL (Vector.toList v) 0 16 = some v.toList := by rw [subL_ok (by omega) (by omega) (by simp)]; simp only [Option.some.injEq]; exact List.take_of_length_le (by simp)
  have hlp : ∃ t, loopO (fun s => slices_IndexFuncuint64_uint64.b1 k v.toList s) k (0 : Int) = some t ∧ ((∃ i, t = .inr i ∧ 0 ≤ i ∧ ¬ small v) ∨ (t = .inl () ∧ small v)) := by
    refine loop_inv (I := fun s => 0 ≤ s ∧ s ≤ 16 ∧ ∀ (i : Nat) (h : i < 16), (i : Int) < s → v[i].toNat ≤ 4611686018427387904) (m := fun s => (16 - s).toNat) _ ?_ k 0 ⟨by omega, by omega, fun i _ h => by omega⟩ (by show (16 - (0 : Int)).toNat < k; omega)
    intro s ⟨h0, h1, h2⟩
    by_cases hlt : s < 16
    · obtain ⟨i, rfl⟩ : ∃ i : Nat, s = i := ⟨s.toNat, by omega⟩
      have hi : i < 16 := by omega
      have hx : idxL v.toList (i : Int) = some v[i] := by rw [idxL_lt (by simpa using hi)]; simp
      simp only [slices_IndexFuncuint64_uint64.b1, lt1, Vector.length_toList, dec_t (show (i : Int) < ((16 : Nat) : Int) by omega), if_true, hx, mv1_eq, Option.bind_some, w64_succ (show i < 9223372036854775807 by omega)]
      by_cases hb : 4611686018427387904 < v[i].toNat
      · right
        simp only [hb, decide_true, if_true]
        exact ⟨_, rfl, .inl ⟨_, rfl, by omega, fun h => by have := h i hi; omega⟩⟩
      · left
        simp only [hb, decide_false, Bool.false_eq_true, if_false]
        refine ⟨_, rfl, ⟨by omega, by omega, fun j hj hlt => ?_⟩, by omega⟩
        by_cases hji : j = i
        · subst hji; omega
        · exact h2 j hj (by omega)
    · right
      simp only [slices_IndexFuncuint64_uint64.b1, lt1, Vector.length_toList, dec_f (show ¬ s < ((16 : Nat) : Int) by omega), Bool.false_eq_true, if_false]
      exact ⟨_, rfl, .inr ⟨rfl, fun i hi => h2 i hi (by omega)⟩⟩
  obtain ⟨t, h1, h2⟩ := hlp
  simp only [event_mayVector, hs, slices_ContainsFuncuint64_uint64, slices_IndexFuncuint64_uint64, lt1, Option.bind_some, h1]
  rcases h2 with ⟨i, rfl, h3, h4⟩ | ⟨rfl, h4⟩
  · refine ⟨_, rfl, ?_⟩
    simp [h4]; omega
  · refine ⟨_, rfl, ?_⟩
    simp [h4]
def mayName (s : List UInt8) : Prop := 1 ≤ s.length ∧ s.length ≤ 32
instance (s : List UInt8) : Decidable (mayName s) := inferInstanceAs (Decidable (_ ∧ _))
theorem mayName_eq (k : Nat) (s : List UInt8) : event_MayName k s = some (decide (mayName s)) := by
  simp only [event_MayName, lt1, Option.bind_some, Option.some.injEq, mayName]
  by_cases h1 : 1 ≤ s.length <;> by_cases h2 : s.length ≤ 32 <;> simp [h1, h2] <;> omega
end Go.Proofs.Ytbmimaabgclhjaa
