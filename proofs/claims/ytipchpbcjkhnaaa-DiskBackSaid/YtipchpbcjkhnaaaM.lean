/- Maps as lists: no program here. -/
import Derived.Test.YtipchpbcjkhnaaaFa
import Derived.Test.YtipchpbcjkhnaaaFq
import Derived.Test.YtipchpbcjkhnaaaFdq
namespace Go.Proofs.Ytipchpbcjkhnaaa
open Go Fw
set_option linter.unusedVariables false
set_option linter.unusedSimpArgs false

section
variable {K V : Type} [DecidableEq K]
theorem mget_nil (k : K) : mget k ([] : List (K × V)) = none := rfl
theorem mget_cons (k : K) (p : K × V) (l : List (K × V)) : mget k (p :: l) = if k = p.1 then some p.2 else mget k l := by
  unfold mget
  rw [mpos]
  by_cases h : k = p.1
  · rw [if_pos h, if_pos h]; rfl
  · rw [if_neg h, if_neg h]
    cases mpos k l <;> rfl
theorem mput_cons (k : K) (v : V) (p : K × V) (l : List (K × V)) : mput k v (p :: l) = if k = p.1 then (k, v) :: l else p :: mput k v l := by
  unfold mput
  rw [mpos]
  by_cases h : k = p.1
  · rw [if_pos h, if_pos h]; rfl
  · rw [if_neg h, if_neg h]
    cases mpos k l <;> rfl
theorem mdel_cons (k : K) (p : K × V) (l : List (K × V)) : mdel k (p :: l) = if k = p.1 then l else p :: mdel k l := by
  unfold mdel
  rw [mpos]
  by_cases h : k = p.1
  · rw [if_pos h, if_pos h]; rfl
  · rw [if_neg h, if_neg h]
    cases mpos k l <;> rfl
theorem mget_mput (k q : K) (v : V) (l : List (K × V)) : mget q (mput k v l) = if q = k then some v else mget q l := by
  induction l with
  | nil =>
    show mget q [(k, v)] = _
    rw [mget_cons]
  | cons p l ih =>
    rw [mput_cons]
    by_cases h : k = p.1
    · rw [if_pos h, mget_cons, mget_cons]
      by_cases hq : q = k
      · rw [if_pos hq, if_pos hq]
      · rw [if_neg hq, if_neg hq, if_neg (fun h' => hq (h'.trans h.symm))]
    · rw [if_neg h, mget_cons, mget_cons, ih]
      by_cases hq : q = p.1
      · rw [if_pos hq, if_pos hq, if_neg (fun h' => h (h'.symm.trans hq))]
      · rw [if_neg hq, if_neg hq]
theorem mput_keys (k : K) (v : V) (l : List (K × V)) : (mput k v l).map Prod.fst = l.map Prod.fst ∨ (k ∉ l.map Prod.fst ∧ (mput k v l).map Prod.fst = l.map Prod.fst ++ [k]) := by
  induction l with
  | nil => exact .inr ⟨by simp, rfl⟩
  | cons p l ih =>
    rw [mput_cons]
    by_cases h : k = p.1
    · rw [if_pos h]; left; simp [h]
    · rw [if_neg h]
      rcases ih with ih | ⟨h1, ih⟩
      · left; simp [ih]
      · right; exact ⟨by simp [h]; simpa using h1, by simp [ih]⟩
theorem mput_nodup (k : K) (v : V) (l : List (K × V)) (h : (l.map Prod.fst).Nodup) : ((mput k v l).map Prod.fst).Nodup := by
  rcases mput_keys k v l with h1 | ⟨h0, h1⟩
  · rw [h1]; exact h
  · rw [h1, List.nodup_append]
    exact ⟨h, by simp, fun a ha b hb hab => by simp at hb; subst hb; subst hab; exact h0 ha⟩
theorem mem_mput {k : K} {v : V} {l : List (K × V)} {e : K × V} (h : e ∈ mput k v l) : e = (k, v) ∨ e ∈ l := by
  induction l with
  | nil => left; simpa [mput, mpos] using h
  | cons p l ih =>
    rw [mput_cons] at h
    by_cases hk : k = p.1
    · rw [if_pos hk] at h
      rcases List.mem_cons.1 h with h | h
      · exact .inl h
      · exact .inr (List.mem_cons_of_mem _ h)
    · rw [if_neg hk] at h
      rcases List.mem_cons.1 h with h | h
      · exact .inr (by rw [h]; exact List.mem_cons_self ..)
      · exact (ih h).imp id (List.mem_cons_of_mem _)
theorem mget_mem {k : K} {v : V} {l : List (K × V)} (h : mget k l = some v) : (k, v) ∈ l := by
  induction l with
  | nil => cases h
  | cons p l ih =>
    rw [mget_cons] at h
    by_cases hk : k = p.1
    · rw [if_pos hk] at h; cases h; rw [hk]; exact List.mem_cons_self ..
    · rw [if_neg hk] at h; exact List.mem_cons_of_mem _ (ih h)
theorem mget_of_mem {k : K} {v : V} {l : List (K × V)} (hn : (l.map Prod.fst).Nodup) (h : (k, v) ∈ l) : mget k l = some v := by
  induction l with
  | nil => cases h
  | cons p l ih =>
    simp only [List.map_cons, List.nodup_cons] at hn
    rw [mget_cons]
    rcases List.mem_cons.1 h with h | h
    · rw [← h, if_pos rfl]
    · rw [if_neg, ih hn.2 h]
      intro hk
      exact hn.1 (List.mem_map.2 ⟨(k, v), h, hk⟩)
theorem mdel_eq_filter {k : K} {l : List (K × V)} (hn : (l.map Prod.fst).Nodup) : mdel k l = l.filter fun e => decide (e.1 ≠ k) := by
  induction l with
  | nil => rfl
  | cons p l ih =>
    simp only [List.map_cons, List.nodup_cons] at hn
    rw [mdel_cons]
    by_cases h : k = p.1
    · rw [if_pos h, List.filter_cons_of_neg (by simp [h])]
      symm
      rw [List.filter_eq_self]
      intro e he
      simp only [decide_eq_true_eq]
      intro hk
      exact hn.1 (List.mem_map.2 ⟨e, he, by rw [hk, h]⟩)
    · rw [if_neg h, List.filter_cons_of_pos (by simpa using fun h' => h h'.symm), ih hn.2]
theorem mput_mput (k : K) (u v : V) (l : List (K × V)) : mput k v (mput k u l) = mput k v l := by
  induction l with
  | nil => simp [mput, mpos]
  | cons p l ih =>
    rw [mput_cons k u]
    by_cases h : k = p.1
    · rw [if_pos h, mput_cons, mput_cons, if_pos h]; simp
    · rw [if_neg h, mput_cons, mput_cons, if_neg h, if_neg h, ih]
theorem mget_none_iff {k : K} {l : List (K × V)} : mget k l = none ↔ k ∉ l.map Prod.fst := by
  induction l with
  | nil => simp [mget_nil]
  | cons p l ih =>
    rw [mget_cons]
    by_cases h : k = p.1
    · simp [h]
    · simp [h, ih]
theorem mget_perm {k : K} {l m : List (K × V)} (hn : (l.map Prod.fst).Nodup) (hp : l.Perm m) : mget k l = mget k m := by
  have hn' : (m.map Prod.fst).Nodup := (hp.map Prod.fst).nodup hn
  cases h : mget k l with
  | none =>
    have h1 := mget_none_iff.1 h
    exact (mget_none_iff.2 fun h2 => h1 ((hp.map Prod.fst).mem_iff.2 h2)).symm
  | some v => exact (mget_of_mem hn' (hp.mem_iff.1 (mget_mem h))).symm
theorem mdel_nodup {k : K} {l : List (K × V)} (hn : (l.map Prod.fst).Nodup) : ((mdel k l).map Prod.fst).Nodup := by
  rw [mdel_eq_filter hn]
  exact hn.sublist (List.filter_sublist.map _)
theorem mem_mdel {k : K} {l : List (K × V)} {e : K × V} (h : e ∈ mdel k l) : e ∈ l := by
  induction l with
  | nil => simp [mdel, mpos] at h
  | cons p l ih =>
    rw [mdel_cons] at h
    by_cases hk : k = p.1
    · rw [if_pos hk] at h; exact List.mem_cons_of_mem _ h
    · rw [if_neg hk] at h
      rcases List.mem_cons.1 h with rfl | h
      · exact List.mem_cons_self ..
      · exact List.mem_cons_of_mem _ (ih h)
/-- Numbers of entries, added up. -/
def tot (f : V → Nat) (l : List (K × V)) : Nat := (l.map fun e => f e.2).sum
theorem tot_put (f : V → Nat) (k : K) (v : V) (l : List (K × V)) : tot f (mput k v l) + (((mget k l).map f).getD 0) = tot f l + f v := by
  induction l with
  | nil => simp [tot, mput, mpos, mget_nil]
  | cons p l ih =>
    rw [mput_cons, mget_cons]
    by_cases h : k = p.1
    · simp only [if_pos h, tot, List.map_cons, List.sum_cons, Option.map_some, Option.getD_some]; omega
    · simp only [if_neg h, tot, List.map_cons, List.sum_cons] at ih ⊢; omega
theorem tot_del (f : V → Nat) (k : K) (l : List (K × V)) : tot f (mdel k l) + (((mget k l).map f).getD 0) = tot f l := by
  induction l with
  | nil => simp [tot, mdel, mpos, mget_nil]
  | cons p l ih =>
    rw [mdel_cons, mget_cons]
    by_cases h : k = p.1
    · simp only [if_pos h, tot, List.map_cons, List.sum_cons, Option.map_some, Option.getD_some]; omega
    · simp only [if_neg h, tot, List.map_cons, List.sum_cons] at ih ⊢; omega
end
theorem tot_perm {K V : Type} (f : V → Nat) {l m : List (K × V)} (h : l.Perm m) : tot f l = tot f m := (h.map _).sum_nat
section
variable {K V : Type} [DecidableEq K]
theorem len_put (k : K) (v : V) (l : List (K × V)) : (mput k v l).length = if (mget k l).isSome then l.length else l.length + 1 := by
  induction l with
  | nil => simp [mput, mpos, mget_nil]
  | cons p l ih =>
    rw [mput_cons, mget_cons]
    by_cases h : k = p.1
    · simp [h]
    · simp only [if_neg h, List.length_cons, ih]; split <;> rfl
theorem len_del (k : K) (l : List (K × V)) : (mdel k l).length = if (mget k l).isSome then l.length - 1 else l.length := by
  induction l with
  | nil => simp [mdel, mpos, mget_nil]
  | cons p l ih =>
    rw [mdel_cons, mget_cons]
    by_cases h : k = p.1
    · simp [h]
    · simp only [if_neg h, List.length_cons, ih]
      split
      · rename_i hs
        have : 0 < l.length := by
          cases l with
          | nil => simp [mget_nil] at hs
          | cons _ _ => simp
        omega
      · rfl
end
/-- A course that goes through: a fold. -/
theorem foldO_fold {E σ τ : Type} {body : σ → E → Option (σ ⊕ τ)} {fin : σ → Option τ} {g : σ → E → σ} (P : σ → Prop) : ∀ {l : List E} {s : σ}, P s → (∀ s e, e ∈ l → P s → body s e = some (.inl (g s e)) ∧ P (g s e)) → foldO body fin l s = fin (l.foldl g s)
  | [], _, _, _ => rfl
  | e :: l, s, hP, h => by
    have h1 := h s e (List.mem_cons_self ..) hP
    simp only [foldO, h1.1, List.foldl_cons]
    exact foldO_fold P h1.2 fun s e he hs => h s e (List.mem_cons_of_mem _ he) hs
end Go.Proofs.Ytipchpbcjkhnaaa
