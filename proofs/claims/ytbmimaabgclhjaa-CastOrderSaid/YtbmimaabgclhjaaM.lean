/- Maps as lists: no program here. -/
import Derived.Test.YtbmimaabgclhjaaFa
import Derived.Test.YtbmimaabgclhjaaFq
import Derived.Test.YtbmimaabgclhjaaFdq
namespace Go.Proofs.Ytbmimaabgclhjaa
open Go Fw
set_option linter.unusedVariables false
set_option linter.unusedSimpArgs false

section
variable {K V : Type} [DecidableEq K]
theorem mget_nil (k : K) : mget k ([] : List (K × V)) = none := rfl
theorem mget_cons (k : K) (p : K × V) (l : List (K × V)) : mget k (p :: l) = if k = p.1 then some p.2 else mget k l := by
  unfold mget
  rw [mpos]
  by_cases h : k = p.1
  · rw [if_pos h, if_pos h]; rfl
  · rw [if_neg h, if_neg h]
    cases mpos k l <;> rfl
theorem mput_cons (k : K) (v : V) (p : K × V) (l : List (K × V)) : mput k v (p :: l) = if k = p.1 then (k, v) :: l else p :: mput k v l := by
  unfold mput
  rw [mpos]
  by_cases h : k = p.1
  · rw [if_pos h, if_pos h]; rfl
  · rw [if_neg h, if_neg h]
    cases mpos k l <;> rfl
theorem mdel_cons (k : K) (p : K × V) (l : List (K × V)) : mdel k (p :: l) = if k = p.1 then l else p :: mdel k l := by
  unfold mdel
  rw [mpos]
  by_cases h : k = p.1
  · rw [if_pos h, if_pos h]; rfl
  · rw [if_neg h, if_neg h]
    cases mpos k l <;> rfl
theorem mem_mput {k : K} {v : V} {l : List (K × V)} {e : K × V} (h : e ∈ mput k v l) : e = (k, v) ∨ e ∈ l := by
  induction l with
  | nil => left; simpa [mput, mpos] using h
  | cons p l ih =>
    rw [mput_cons] at h
    by_cases hk : k = p.1
    · rw [if_pos hk] at h
      rcases List.mem_cons.1 h with h | h
      · exact .inl h
      · exact .inr (List.mem_cons_of_mem _ h)
    · rw [if_neg hk] at h
      rcases List.mem_cons.1 h with h | h
      · exact .inr (by rw [h]; exact List.mem_cons_self ..)
      · exact (ih h).imp id (List.mem_cons_of_mem _)
theorem mget_mem {k : K} {v : V} {l : List (K × V)} (h : mget k l = some v) : (k, v) ∈ l := by
  induction l with
  | nil => cases h
  | cons p l ih =>
    rw [mget_cons] at h
    by_cases hk : k = p.1
    · rw [if_pos hk] at h; cases h; rw [hk]; exact List.mem_cons_self ..
    · rw [if_neg hk] at h; exact List.mem_cons_of_mem _ (ih h)
theorem mem_mdel {k : K} {l : List (K × V)} {e : K × V} (h : e ∈ mdel k l) : e ∈ l := by
  induction l with
  | nil => simp [mdel, mpos] at h
  | cons p l ih =>
    rw [mdel_cons] at h
    by_cases hk : k = p.1
    · rw [if_pos hk] at h; exact List.mem_cons_of_mem _ h
    · rw [if_neg hk] at h
      rcases List.mem_cons.1 h with rfl | h
      · exact List.mem_cons_self ..
      · exact List.mem_cons_of_mem _ (ih h)
end
section
variable {K V : Type} [DecidableEq K]
theorem len_put (k : K) (v : V) (l : List (K × V)) : (mput k v l).length = if (mget k l).isSome then l.length else l.length + 1 := by
  induction l with
  | nil => simp [mput, mpos, mget_nil]
  | cons p l ih =>
    rw [mput_cons, mget_cons]
    by_cases h : k = p.1
    · simp [h]
    · simp only [if_neg h, List.length_cons, ih]; split <;> rfl
theorem len_del (k : K) (l : List (K × V)) : (mdel k l).length = if (mget k l).isSome then l.length - 1 else l.length := by
  induction l with
  | nil => simp [mdel, mpos, mget_nil]
  | cons p l ih =>
    rw [mdel_cons, mget_cons]
    by_cases h : k = p.1
    · simp [h]
    · simp only [if_neg h, List.length_cons, ih]
      split
      · rename_i hs
        have : 0 < l.length := by
          cases l with
          | nil => simp [mget_nil] at hs
          | cons _ _ => simp
        omega
      · rfl
end
end Go.Proofs.Ytbmimaabgclhjaa
