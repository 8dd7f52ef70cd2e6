/- A net's lines as one list of flights. -/
import Derived.Test.YtnadeehdnmgebaaG
import Derived.Test.YtnadeehdnmgebaaS
namespace Go.Proofs.Ytnadeehdnmgebaa
open Go Fw
set_option linter.unusedVariables false
set_option linter.unusedSimpArgs false

/-! ### maps as lists of pairs -/
section
variable {K V : Type} [DecidableEq K]
theorem mget_nil (k : K) : mget k ([] : List (K × V)) = none := rfl
theorem mget_cons (k : K) (p : K × V) (l : List (K × V)) : mget k (p :: l) = if k = p.1 then some p.2 else mget k l := by
  unfold mget
  rw [mpos]
  by_cases h : k = p.1
  · rw [if_pos h, if_pos h]; rfl
  · rw [if_neg h, if_neg h]
    cases mpos k l <;> rfl
theorem mput_cons (k : K) (v : V) (p : K × V) (l : List (K × V)) : mput k v (p :: l) = if k = p.1 then (k, v) :: l else p :: mput k v l := by
  unfold mput
  rw [mpos]
  by_cases h : k = p.1
  · rw [if_pos h, if_pos h]; rfl
  · rw [if_neg h, if_neg h]
    cases mpos k l <;> rfl
theorem mdel_cons (k : K) (p : K × V) (l : List (K × V)) : mdel k (p :: l) = if k = p.1 then l else p :: mdel k l := by
  unfold mdel
  rw [mpos]
  by_cases h : k = p.1
  · rw [if_pos h, if_pos h]; rfl
  · rw [if_neg h, if_neg h]
    cases mpos k l <;> rfl
theorem mget_mput (k q : K) (v : V) (l : List (K × V)) : mget q (mput k v l) = if q = k then some v else mget q l := by
  induction l with
  | nil =>
    show mget q [(k, v)] = _
    rw [mget_cons]
  | cons p l ih =>
    rw [mput_cons]
    by_cases h : k = p.1
    · rw [if_pos h, mget_cons, mget_cons]
      by_cases hq : q = k
      · rw [if_pos hq, if_pos hq]
      · rw [if_neg hq, if_neg hq, if_neg (fun h' => hq (h'.trans h.symm))]
    · rw [if_neg h, mget_cons, mget_cons, ih]
      by_cases hq : q = p.1
      · rw [if_pos hq, if_pos hq, if_neg (fun h' => h (h'.symm.trans hq))]
      · rw [if_neg hq, if_neg hq]
theorem mput_keys (k : K) (v : V) (l : List (K × V)) : (mput k v l).map Prod.fst = l.map Prod.fst ∨ (k ∉ l.map Prod.fst ∧ (mput k v l).map Prod.fst = l.map Prod.fst ++ [k]) := by
  induction l with
  | nil => exact .inr ⟨by simp, rfl⟩
  | cons p l ih =>
    rw [mput_cons]
    by_cases h : k = p.1
    · rw [if_pos h]; left; simp [h]
    · rw [if_neg h]
      rcases ih with ih | ⟨h1, ih⟩
      · left; simp [ih]
      · right; exact ⟨by simp [h]; simpa using h1, by simp [ih]⟩
theorem mput_nodup (k : K) (v : V) (l : List (K × V)) (h : (l.map Prod.fst).Nodup) : ((mput k v l).map Prod.fst).Nodup := by
  rcases mput_keys k v l with h1 | ⟨h0, h1⟩
  · rw [h1]; exact h
  · rw [h1, List.nodup_append]
    exact ⟨h, by simp, fun a ha b hb hab => by simp at hb; subst hb; subst hab; exact h0 ha⟩
theorem mem_mput {k : K} {v : V} {l : List (K × V)} {e : K × V} (h : e ∈ mput k v l) : e = (k, v) ∨ e ∈ l := by
  induction l with
  | nil => left; simpa [mput, mpos] using h
  | cons p l ih =>
    rw [mput_cons] at h
    by_cases hk : k = p.1
    · rw [if_pos hk] at h
      rcases List.mem_cons.1 h with h | h
      · exact .inl h
      · exact .inr (List.mem_cons_of_mem _ h)
    · rw [if_neg hk] at h
      rcases List.mem_cons.1 h with h | h
      · exact .inr (by rw [h]; exact List.mem_cons_self ..)
      · exact (ih h).imp id (List.mem_cons_of_mem _)
theorem mget_mem {k : K} {v : V} {l : List (K × V)} (h : mget k l = some v) : (k, v) ∈ l := by
  induction l with
  | nil => cases h
  | cons p l ih =>
    rw [mget_cons] at h
    by_cases hk : k = p.1
    · rw [if_pos hk] at h; cases h; rw [hk]; exact List.mem_cons_self ..
    · rw [if_neg hk] at h; exact List.mem_cons_of_mem _ (ih h)
theorem mget_of_mem {k : K} {v : V} {l : List (K × V)} (hn : (l.map Prod.fst).Nodup) (h : (k, v) ∈ l) : mget k l = some v := by
  induction l with
  | nil => cases h
  | cons p l ih =>
    simp only [List.map_cons, List.nodup_cons] at hn
    rw [mget_cons]
    rcases List.mem_cons.1 h with h | h
    · rw [← h, if_pos rfl]
    · rw [if_neg, ih hn.2 h]
      intro hk
      exact hn.1 (List.mem_map.2 ⟨(k, v), h, hk⟩)
theorem mdel_eq_filter {k : K} {l : List (K × V)} (hn : (l.map Prod.fst).Nodup) : mdel k l = l.filter fun e => decide (e.1 ≠ k) := by
  induction l with
  | nil => rfl
  | cons p l ih =>
    simp only [List.map_cons, List.nodup_cons] at hn
    rw [mdel_cons]
    by_cases h : k = p.1
    · rw [if_pos h, List.filter_cons_of_neg (by simp [h])]
      symm
      rw [List.filter_eq_self]
      intro e he
      simp only [decide_eq_true_eq]
      intro hk
      exact hn.1 (List.mem_map.2 ⟨e, he, by rw [hk, h]⟩)
    · rw [if_neg h, List.filter_cons_of_pos (by simpa using fun h' => h h'.symm), ih hn.2]
theorem mget_filter {f : K → Bool} {k : K} {l : List (K × V)} : mget k (l.filter fun e => f e.1) = if f k then mget k l else none := by
  induction l with
  | nil => simp [mget_nil]
  | cons p l ih =>
    rw [mget_cons]
    by_cases h : f p.1 = true
    · rw [List.filter_cons_of_pos (p := fun e : K × V => f e.1) h, mget_cons, ih]
      by_cases hk : k = p.1
      · rw [if_pos hk, if_pos hk, hk, if_pos h]
      · rw [if_neg hk, if_neg hk]
    · rw [List.filter_cons_of_neg (p := fun e : K × V => f e.1) h, ih]
      by_cases hk : k = p.1
      · rw [hk, if_neg h, if_neg h]
      · rw [if_neg hk]
end
/-! ### lines, and all flights -/
abbrev Mp := List (net_pair × List (List UInt8))
def ln (M : Mp) (p : net_pair) : List (List UInt8) := (mget p M).getD []
theorem ln_put (M : Mp) (p q : net_pair) (v : List (List UInt8)) : ln (mput p v M) q = if q = p then v else ln M q := by
  unfold ln
  rw [mget_mput]
  by_cases h : q = p <;> simp [h]
def fl (p : net_pair) (b : List UInt8) : api_Flight := api_Flight.mk p.from_ p.to b
def row (M : Mp) (p : net_pair) : List api_Flight := (ln M p).map (fl p)
def prs (E : Nat) : List net_pair := (List.range E).flatMap fun i => (List.range E).map fun j => net_pair.mk ((i + 1 : Nat) : Int) ((j + 1 : Nat) : Int)
def allF (M : Mp) (E : Nat) : List api_Flight := (prs E).flatMap (row M)
def inR (E : Nat) (p : net_pair) : Prop := 1 ≤ p.from_ ∧ p.from_ ≤ E ∧ 1 ≤ p.to ∧ p.to ≤ E
instance (E : Nat) (p : net_pair) : Decidable (inR E p) := inferInstanceAs (Decidable (_ ∧ _))
theorem mem_prs {E : Nat} {p : net_pair} : p ∈ prs E ↔ inR E p := by
  unfold prs inR
  simp only [List.mem_flatMap, List.mem_range, List.mem_map]
  constructor
  · rintro ⟨i, hi, j, hj, rfl⟩
    exact ⟨by show (1 : Int) ≤ ((i + 1 : Nat) : Int); omega, by show ((i + 1 : Nat) : Int) ≤ _; omega, by show (1 : Int) ≤ ((j + 1 : Nat) : Int); omega, by show ((j + 1 : Nat) : Int) ≤ _; omega⟩
  · rintro ⟨h1, h2, h3, h4⟩
    refine ⟨(p.from_ - 1).toNat, by omega, (p.to - 1).toNat, by omega, ?_⟩
    obtain ⟨a, b⟩ := p
    simp only at h1 h2 h3 h4 ⊢
    congr 1 <;> omega
def lexP (p q : net_pair) : Prop := p.from_ < q.from_ ∨ (p.from_ = q.from_ ∧ p.to < q.to)
theorem prs_sorted (E : Nat) : (prs E).Pairwise lexP := by
  unfold prs
  rw [List.pairwise_flatMap]
  refine ⟨fun i _ => ?_, ?_⟩
  · rw [List.pairwise_map]
    exact List.pairwise_lt_range.imp fun {a b} h => .inr ⟨rfl, by show ((a + 1 : Nat) : Int) < ((b + 1 : Nat) : Int); omega⟩
  · refine List.pairwise_lt_range.imp fun {a b} h => ?_
    intro x hx y hy
    obtain ⟨i, _, rfl⟩ := List.mem_map.1 hx
    obtain ⟨j, _, rfl⟩ := List.mem_map.1 hy
    exact .inl (by show ((a + 1 : Nat) : Int) < ((b + 1 : Nat) : Int); omega)
def lexF (f : api_Flight) (p : net_pair) : Prop := f.From < p.from_ ∨ (f.From = p.from_ ∧ f.To < p.to)
def lexF' (p : net_pair) (f : api_Flight) : Prop := p.from_ < f.From ∨ (p.from_ = f.From ∧ p.to < f.To)
/-- All flights: those ahead of a line, the line, those behind it. -/
theorem split (E : Nat) (p : net_pair) (hp : inR E p) : ∃ (P1 P2 : List net_pair), prs E = P1 ++ p :: P2 ∧ (∀ q ∈ P1, lexP q p) ∧ ∀ q ∈ P2, lexP p q := by
  obtain ⟨P1, P2, h⟩ := List.append_of_mem (mem_prs.2 hp)
  refine ⟨P1, P2, h, ?_, ?_⟩
  · have hs := prs_sorted E
    rw [h, List.pairwise_append] at hs
    exact fun q hq => hs.2.2 q hq p (List.mem_cons_self ..)
  · have hs := prs_sorted E
    rw [h, List.pairwise_append, List.pairwise_cons] at hs
    exact fun q hq => hs.2.1.1 q hq
theorem mem_row {M : Mp} {p : net_pair} {f : api_Flight} (h : f ∈ row M p) : f.From = p.from_ ∧ f.To = p.to ∧ f.Bytes ∈ ln M p := by
  obtain ⟨b, hb, rfl⟩ := List.mem_map.1 h
  exact ⟨rfl, rfl, hb⟩
theorem parts (M : Mp) (E : Nat) (p : net_pair) (hp : inR E p) : ∃ A B, allF M E = A ++ (row M p ++ B) ∧ (∀ v, allF (mput p v M) E = A ++ (v.map (fl p) ++ B)) ∧ (∀ f ∈ A, lexF f p) ∧ ∀ f ∈ B, lexF' p f := by
  obtain ⟨P1, P2, h, h1, h2⟩ := split E p hp
  have hrow : ∀ v q, q ≠ p → row (mput p v M) q = row M q := fun v q hq => by unfold row; rw [ln_put, if_neg hq]
  refine ⟨P1.flatMap (row M), P2.flatMap (row M), ?_, fun v => ?_, fun f hf => ?_, fun f hf => ?_⟩
  · unfold allF; rw [h, List.flatMap_append, List.flatMap_cons]
  · unfold allF
    rw [h, List.flatMap_append, List.flatMap_cons]
    have e1 : P1.flatMap (row (mput p v M)) = P1.flatMap (row M) := by
      rw [List.flatMap_def, List.flatMap_def]
      congr 1
      refine List.map_congr_left fun q hq => hrow v q fun hqp => ?_
      have := h1 q hq
      rw [hqp] at this
      rcases this with h | h <;> omega
    have e2 : P2.flatMap (row (mput p v M)) = P2.flatMap (row M) := by
      rw [List.flatMap_def, List.flatMap_def]
      congr 1
      refine List.map_congr_left fun q hq => hrow v q fun hqp => ?_
      have := h2 q hq
      rw [hqp] at this
      rcases this with h | h <;> omega
    rw [e1, e2]
    unfold row
    rw [ln_put, if_pos rfl]
  · obtain ⟨q, hq, hf⟩ := List.mem_flatMap.1 hf
    obtain ⟨g1, g2, _⟩ := mem_row hf
    rcases h1 q hq with h | h
    · exact .inl (by omega)
    · exact .inr (by omega)
  · obtain ⟨q, hq, hf⟩ := List.mem_flatMap.1 hf
    obtain ⟨g1, g2, _⟩ := mem_row hf
    rcases h2 q hq with h | h
    · exact .inl (by omega)
    · exact .inr (by omega)
def Big : Nat := 1048576
/-- What a net's lines always are. -/
structure Inv (M : Mp) (E : Nat) : Prop where
  E16 : E ≤ 16
  nd : (M.map Prod.fst).Nodup
  rng : ∀ e ∈ M, inR E e.1 ∧ e.1.from_ ≠ e.1.to
  len : ∀ p, (ln M p).length ≤ 64
  small : ∀ p, ∀ b ∈ ln M p, b.length ≤ Big
theorem Inv.nil {E : Nat} (h : E ≤ 16) : Inv [] E := ⟨h, by simp, (fun e he => nomatch he), (fun p => by simp [ln, mget_nil]), (fun p b hb => by simp [ln, mget_nil] at hb)⟩
theorem ln_out {M : Mp} {E : Nat} (h : Inv M E) {p : net_pair} (hp : ¬ (inR E p ∧ p.from_ ≠ p.to)) : ln M p = [] := by
  unfold ln
  cases hg : mget p M with
  | none => rfl
  | some v => exact absurd (h.rng _ (mget_mem hg)) hp
theorem Inv.put {M : Mp} {E : Nat} (h : Inv M E) {p : net_pair} (hp : inR E p) (hne : p.from_ ≠ p.to) {v : List (List UInt8)} (hv : v.length ≤ 64) (hs : ∀ b ∈ v, b.length ≤ Big) : Inv (mput p v M) E := by
  refine ⟨h.E16, mput_nodup p v M h.nd, fun e he => ?_, fun q => ?_, fun q b hb => ?_⟩
  · rcases mem_mput he with rfl | he
    · exact ⟨hp, hne⟩
    · exact h.rng e he
  · rw [ln_put]
    split
    · exact hv
    · exact h.len q
  · rw [ln_put] at hb
    split at hb
    · exact hs b hb
    · exact h.small q b hb
theorem allF_len {M : Mp} {E : Nat} (h : Inv M E) : (allF M E).length ≤ 16384 := by
  have hE := h.E16
  have hp : (prs E).length = E * E := by
    have : ∀ l : List Nat, (l.flatMap fun i => (List.range E).map fun j => net_pair.mk ((i + 1 : Nat) : Int) ((j + 1 : Nat) : Int)).length = l.length * E := by
      intro l
      induction l with
      | nil => simp
      | cons i l ih => rw [List.flatMap_cons, List.length_append, ih, List.length_map, List.length_range, List.length_cons, Nat.add_mul]; omega
    have h1 := this (List.range E)
    rw [List.length_range] at h1
    exact h1
  have : ∀ l : List net_pair, (l.flatMap (row M)).length ≤ 64 * l.length := by
    intro l
    induction l with
    | nil => simp
    | cons p l ih =>
      rw [List.flatMap_cons, List.length_append, List.length_cons]
      have : (row M p).length ≤ 64 := by unfold row; rw [List.length_map]; exact h.len p
      omega
  have h1 := this (prs E)
  rw [hp] at h1
  have : E * E ≤ 16 * 16 := Nat.mul_le_mul hE hE
  unfold allF
  omega
theorem mem_allF {M : Mp} {E : Nat} {f : api_Flight} (h : f ∈ allF M E) : inR E ⟨f.From, f.To⟩ ∧ f.Bytes ∈ ln M ⟨f.From, f.To⟩ := by
  obtain ⟨p, hp, hf⟩ := List.mem_flatMap.1 h
  obtain ⟨h1, h2, h3⟩ := mem_row hf
  have : p = ⟨f.From, f.To⟩ := by cases p; simp only at h1 h2; rw [h1, h2]
  subst this
  exact ⟨mem_prs.1 hp, h3⟩
theorem allF_small {M : Mp} {E : Nat} (h : Inv M E) {f : api_Flight} (hf : f ∈ allF M E) : f.Bytes.length ≤ Big := h.small _ _ (mem_allF hf).2
end Go.Proofs.Ytnadeehdnmgebaa
