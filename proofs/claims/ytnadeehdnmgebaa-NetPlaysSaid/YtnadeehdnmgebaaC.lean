/- What the net's functions compute, told by the one list of flights. -/
import Derived.Test.YtnadeehdnmgebaaB
namespace Go.Proofs.Ytnadeehdnmgebaa
open Go Fw
set_option linter.unusedVariables false
set_option linter.unusedSimpArgs false

def isL (f t : Int) (x : api_Flight) : Bool := x.From == f && x.To == t
def lineF (F : List api_Flight) (f t : Int) : List api_Flight := F.filter (isL f t)
theorem isL_iff {f t : Int} {x : api_Flight} : isL f t x = true ↔ x.From = f ∧ x.To = t := by simp [isL]
theorem filter_none {α : Type} {p : α → Bool} {l : List α} (h : ∀ x ∈ l, p x = false) : l.filter p = [] := List.filter_eq_nil_iff.2 fun x hx => by simp [h x hx]
theorem filter_all {α : Type} {p : α → Bool} {l : List α} (h : ∀ x ∈ l, p x = true) : l.filter p = l := List.filter_eq_self.2 h
theorem lexF_ne {f : api_Flight} {p : net_pair} (h : lexF f p) : isL p.from_ p.to f = false := by
  rw [← Bool.not_eq_true, isL_iff]
  rintro ⟨h1, h2⟩
  rcases h with h | h <;> omega
theorem lexF'_ne {f : api_Flight} {p : net_pair} (h : lexF' p f) : isL p.from_ p.to f = false := by
  rw [← Bool.not_eq_true, isL_iff]
  rintro ⟨h1, h2⟩
  rcases h with h | h <;> omega
theorem row_isL {v : List (List UInt8)} {p : net_pair} : ∀ x ∈ v.map (fl p), isL p.from_ p.to x = true := fun x hx => by
  obtain ⟨b, _, rfl⟩ := List.mem_map.1 hx
  exact isL_iff.2 ⟨rfl, rfl⟩
theorem lineF_row {M : Mp} {E : Nat} {p : net_pair} (hp : inR E p) : lineF (allF M E) p.from_ p.to = row M p := by
  obtain ⟨A, B, h, _, hA, hB⟩ := parts M E p hp
  unfold lineF
  rw [h, List.filter_append, List.filter_append, filter_none fun x hx => lexF_ne (hA x hx), filter_none fun x hx => lexF'_ne (hB x hx)]
  simp only [List.nil_append, List.append_nil]
  exact filter_all row_isL
/-- behind which flights a new one is laid -/
def ahead (f : api_Flight) (x : api_Flight) : Bool := decide (x.From < f.From) || (x.From == f.From && decide (x.To ≤ f.To))
theorem aheadE {p : net_pair} {b : List UInt8} {x : api_Flight} : ahead (fl p b) x = (decide (x.From < p.from_) || (x.From == p.from_ && decide (x.To ≤ p.to))) := rfl
def layF (f : api_Flight) (F : List api_Flight) : List api_Flight := F.takeWhile (ahead f) ++ f :: F.dropWhile (ahead f)
theorem takeWhile_app {α : Type} {p : α → Bool} : ∀ {A B : List α}, (∀ x ∈ A, p x = true) → (∀ x ∈ B, p x = false) → (A ++ B).takeWhile p = A ∧ (A ++ B).dropWhile p = B
  | [], [], _, _ => ⟨rfl, rfl⟩
  | [], b :: B, _, hB => by
    have hb := hB b (List.mem_cons_self ..)
    exact ⟨by rw [List.nil_append, List.takeWhile_cons_of_neg (by simp [hb])], by rw [List.nil_append, List.dropWhile_cons_of_neg (by simp [hb])]⟩
  | a :: A, B, hA, hB => by
    have ih := takeWhile_app (A := A) (B := B) (fun x hx => hA x (List.mem_cons_of_mem _ hx)) hB
    have ha := hA a (List.mem_cons_self ..)
    exact ⟨by rw [List.cons_append, List.takeWhile_cons_of_pos ha, ih.1], by rw [List.cons_append, List.dropWhile_cons_of_pos ha, ih.2]⟩
theorem lay_parts {M : Mp} {E : Nat} {p : net_pair} (hp : inR E p) (b : List UInt8) : allF (mput p (ln M p ++ [b]) M) E = layF (fl p b) (allF M E) := by
  obtain ⟨A, B, h, h2, hA, hB⟩ := parts M E p hp
  have h3 := takeWhile_app (p := ahead (fl p b)) (A := A ++ row M p) (B := B) (fun x hx => ?_) (fun x hx => ?_)
  · unfold layF
    rw [h, ← List.append_assoc, h3.1, h3.2, h2, List.map_append]
    simp [row]
  · rcases List.mem_append.1 hx with hx | hx
    · rcases hA x hx with h | h
      · rw [aheadE, dec_t h]; rfl
      · rw [aheadE, h.1, dec_t (show x.To ≤ p.to by have := h.2; omega)]; simp
    · obtain ⟨h4, h5, _⟩ := mem_row hx
      rw [aheadE, h4, h5]; simp
  · rcases hB x hx with h | h
    · have h6 : (x.From == p.from_) = false := by rw [beq_eq_false_iff_ne]; omega
      rw [aheadE, dec_f (show ¬ x.From < p.from_ by omega), h6]; rfl
    · have h6 := h.1
      have h7 := h.2
      rw [aheadE, dec_f (show ¬ x.From < p.from_ by omega), dec_f (show ¬ x.To ≤ p.to by omega)]; simp
noncomputable def sendF (E : Nat) (f t : Int) (b : List UInt8) (lost : Int) (F : List api_Flight) : Int × List api_Flight × Int :=
  if badS E f t b.length then (2, F, lost) else if 64 ≤ (lineF F f t).length then (5, F, w64 (lost + 1)) else (0, layF ⟨f, t, b⟩ F, lost)
theorem badS_in {E : Nat} {f t : Int} {n : Nat} (h : ¬ badS E f t n) : inR E ⟨f, t⟩ ∧ f ≠ t ∧ n ≤ 1048576 := by
  unfold badS at h
  exact ⟨⟨by show 1 ≤ f; omega, by show f ≤ E; omega, by show 1 ≤ t; omega, by show t ≤ E; omega⟩, by omega, by omega⟩
theorem Send_F (k : Nat) {E : Nat} {M : Mp} (h : Inv M E) (f t : Int) (b : List UInt8) (lost : Int) : ∃ M', net_Net_Send k f t b (E : Int) lost M = some ((sendF E f t b lost (allF M E)).1, M', (sendF E f t b lost (allF M E)).2.2) ∧ Inv M' E ∧ allF M' E = (sendF E f t b lost (allF M E)).2.1 := by
  refine ⟨(sendM E f t b lost M).2.1, ?_, sendM_inv h, ?_⟩
  · rw [Send_eq]
    unfold sendM sendF
    by_cases hb : badS E f t b.length
    · simp only [if_pos hb]
    · obtain ⟨h1, _, _⟩ := badS_in hb
      have hl : (lineF (allF M E) f t).length = (ln M ⟨f, t⟩).length := by
        rw [show lineF (allF M E) f t = row M ⟨f, t⟩ from lineF_row h1]; unfold row; rw [List.length_map]
      simp only [if_neg hb, hl]
      split <;> rfl
  · unfold sendM sendF
    by_cases hb : badS E f t b.length
    · simp only [if_pos hb]
    · obtain ⟨h1, _, _⟩ := badS_in hb
      have hl : (lineF (allF M E) f t).length = (ln M ⟨f, t⟩).length := by
        rw [show lineF (allF M E) f t = row M ⟨f, t⟩ from lineF_row h1]; unfold row; rw [List.length_map]
      simp only [if_neg hb, hl]
      split
      · rfl
      · exact lay_parts h1 b
/-! ### taking -/
theorem place_of {M : Mp} {E : Nat} {f : api_Flight} {n : Nat} (hf : (allF M E)[n]? = some f) : ∃ A B j, inR E ⟨f.From, f.To⟩ ∧ allF M E = A ++ (row M ⟨f.From, f.To⟩ ++ B) ∧ (∀ v, allF (mput ⟨f.From, f.To⟩ v M) E = A ++ (v.map (fl ⟨f.From, f.To⟩) ++ B)) ∧ (∀ x ∈ A, lexF x ⟨f.From, f.To⟩) ∧ (∀ x ∈ B, lexF' ⟨f.From, f.To⟩ x) ∧ n = A.length + j ∧ j < (ln M ⟨f.From, f.To⟩).length := by
  have hm := List.mem_of_getElem? hf
  obtain ⟨hp, _⟩ := mem_allF hm
  obtain ⟨A, B, h, h2, hA, hB⟩ := parts M E _ hp
  have hrl : (row M ⟨f.From, f.To⟩).length = (ln M ⟨f.From, f.To⟩).length := by unfold row; rw [List.length_map]
  rw [h] at hf
  have h3 : ¬ n < A.length := fun hlt => by
    rw [List.getElem?_append_left hlt] at hf
    rcases hA f (List.mem_of_getElem? hf) with h | h
    · have : f.From < f.From := h
      omega
    · have : f.To < f.To := h.2
      omega
  have h4 : n - A.length < (ln M ⟨f.From, f.To⟩).length := by
    rcases Nat.lt_or_ge (n - A.length) (ln M ⟨f.From, f.To⟩).length with h | h
    · exact h
    · rw [List.getElem?_append_right (by omega), List.getElem?_append_right (by omega)] at hf
      rcases hB f (List.mem_of_getElem? hf) with h | h
      · have : f.From < f.From := h
        omega
      · have : f.To < f.To := h.2
        omega
  exact ⟨A, B, n - A.length, hp, h, h2, hA, hB, by omega, h4⟩
theorem runY_skip {σ τ : Type} {Y : σ → (Int × api_Flight) → Option (σ ⊕ τ)} {s : σ} {R : List api_Flight} : ∀ (A : List api_Flight) (i : Nat), (∀ f ∈ A, ∀ j, Y s (j, f) = some (.inl s)) → runY Y i (A ++ R) s = runY Y (i + A.length) R s
  | [], i, _ => rfl
  | f :: A, i, h => by
    rw [List.cons_append]
    unfold runY
    rw [h f (List.mem_cons_self ..), Option.bind_some]
    simp only
    rw [runY_skip A (i + 1) (fun g hg => h g (List.mem_cons_of_mem _ hg))]
    rw [List.length_cons, show i + 1 + A.length = i + (A.length + 1) by omega]
    cases R <;> rfl
theorem delete_eq (k : Nat) (s : List (List UInt8)) (j : Nat) (hj : j < s.length) (hl : s.length ≤ 1000000) : slices_Deletebyte_byte'2 k (j : Int) ((j + 1 : Nat) : Int) s = some (s.eraseIdx j) := by
  have v1 : viewN 0 s.length (j : Int) ((j + 1 : Nat) : Int) = some (j, 1) := by unfold viewN; rw [if_pos ⟨by omega, by omega, by omega⟩]; simp
  have v2 : viewN 0 s.length (0 : Int) (j : Int) = some (0, j) := by unfold viewN; rw [if_pos ⟨by omega, by omega, by omega⟩]; simp
  have v3 : viewN 0 s.length ((j + 1 : Nat) : Int) (s.length : Int) = some (j + 1, s.length - (j + 1)) := by unfold viewN; rw [if_pos ⟨by omega, by omega, by omega⟩]; simp
  have v4 : apP s j (j + 1) (s.length - (j + 1)) = some (s.eraseIdx j) := by
    unfold apP
    rw [if_pos ⟨by omega, by omega⟩, List.eraseIdx_eq_take_drop_succ]
    congr 2
    exact List.take_of_length_le (by simp)
  have hel : (s.eraseIdx j).length = s.length - 1 := by rw [List.length_eraseIdx]; simp [hj]
  have v5 : viewN 0 s.length ((s.eraseIdx j).length : Int) (s.length : Int) = some (s.length - 1, 1) := by
    unfold viewN; rw [if_pos ⟨by omega, by omega, by omega⟩, hel]; simp; omega
  have hne : ((j : Int) == ((j + 1 : Nat) : Int)) = false := by simp; omega
  simp only [slices_Deletebyte_byte'2, v1, v2, v3, v4, v5, Option.bind_some, lt1, hne, Bool.false_eq_true, if_false]
theorem erase_mid {α : Type} {A B R : List α} {j : Nat} (hj : j < R.length) : (A ++ (R ++ B)).eraseIdx (A.length + j) = A ++ (R.eraseIdx j ++ B) := by
  rw [List.eraseIdx_append_of_length_le (by omega), show A.length + j - A.length = j by omega, List.eraseIdx_append_of_lt_length hj]
theorem Take_F (k : Nat) (hk : 20000 ≤ k) {E : Nat} {M : Mp} (h : Inv M E) (lost place : Int) : ∃ M', net_Net_Take'2 k place (E : Int) lost M = some ((atM (allF M E) place).1, (atM (allF M E) place).2, M') ∧ Inv M' E ∧ allF M' E = (if (atM (allF M E) place).2 = 0 then (allF M E).eraseIdx place.toNat else allF M E) := by
  simp only [net_Net_Take'2, At_eq k hk h lost place, Option.bind_some, lt1]
  by_cases hz : (atM (allF M E) place).2 = 0
  · have h0 : ¬ place < 0 := fun h0 => by unfold atM at hz; rw [if_pos h0] at hz; cases hz
    obtain ⟨n, rfl⟩ : ∃ n : Nat, place = n := ⟨place.toNat, by omega⟩
    obtain ⟨f, hf⟩ : ∃ f, (allF M E)[n]? = some f := by
      cases hg : (allF M E)[n]? with
      | none => unfold atM at hz; rw [if_neg h0, Int.toNat_natCast, hg] at hz; cases hz
      | some f => exact ⟨f, rfl⟩
    have ha : atM (allF M E) (n : Int) = (f, 0) := by unfold atM; rw [if_neg h0, Int.toNat_natCast, hf]
    obtain ⟨A, B, j, hp, hF, hF2, hA, hB, hn, hj⟩ := place_of hf
    have hl := allF_len h
    have hln := h.len ⟨f.From, f.To⟩
    have hrow : row M ⟨f.From, f.To⟩ = (row M ⟨f.From, f.To⟩).head (by unfold row; intro h; rw [List.map_eq_nil_iff] at h; rw [h] at hj; simp at hj) :: (row M ⟨f.From, f.To⟩).tail := (List.cons_head_tail _).symm
    have hr : runY (fun (s : Unit) (u : Int × api_Flight) => net_Net_Take'2.y1 k f (n : Int) M u.1 u.2) 0 (allF M E) () = some (.inr (mput ⟨f.From, f.To⟩ ((ln M ⟨f.From, f.To⟩).eraseIdx j) M)) := by
      rw [hF, runY_skip A 0 fun x hx i => ?_]
      · obtain ⟨x, R, hxR⟩ : ∃ x R, row M ⟨f.From, f.To⟩ = x :: R := ⟨_, _, hrow⟩
        have hx := mem_row (M := M) (p := ⟨f.From, f.To⟩) (f := x) (by rw [hxR]; exact List.mem_cons_self ..)
        simp only at hx
        rw [hxR, List.cons_append]
        unfold runY
        have hw : w64 ((n : Int) - ((0 + A.length : Nat) : Int)) = (j : Int) := by rw [w64_id (by omega) (by omega)]; omega
        have hd := delete_eq k (ln M ⟨f.From, f.To⟩) j hj (by omega)
        have hcl := clone2_eq k (ln M ⟨f.From, f.To⟩) (by omega)
        simp only [net_Net_Take'2.y1, getln]
        simp only [lt1, hx.1, hx.2.1, beq_self_eq_true, if_true, Option.bind_some, hw, hcl, w64_succ (show j < 9223372036854775807 by omega), hd]
      · have := lexF_ne (hA x hx)
        simp only [isL, Bool.and_eq_false_iff] at this
        simp only [net_Net_Take'2.y1, lt1]
        rcases this with h | h
        · simp [h]
        · cases hfr : (x.From == f.From) <;> simp [h]
    rw [ha]
    simp only [bne_self_eq_false, Bool.false_eq_true, if_false, All_eq k (by omega) h, Option.bind_some, All1_eq k _ () _ (by omega) (by omega) (fun g hg => Nat.le_trans (allF_small h hg) (by decide)) hr]
    refine ⟨_, rfl, h.put hp (fun he => ?_) (by rw [List.length_eraseIdx]; split <;> omega) (fun b hb => h.small _ b (List.mem_of_mem_eraseIdx hb)), ?_⟩
    · have := ln_out h (p := ⟨f.From, f.To⟩) (fun hh => hh.2 he)
      rw [this] at hj; simp at hj
    · rw [hF2, hF, Int.toNat_natCast, hn, erase_mid (by unfold row; rw [List.length_map]; exact hj)]
      simp only [if_true, row]
      congr 2
      rw [List.eraseIdx_eq_take_drop_succ, List.eraseIdx_eq_take_drop_succ, List.map_append, List.map_take, List.map_drop]
  · have hb : ((atM (allF M E) place).2 != 0) = true := by simpa using hz
    simp only [hb, if_true, if_neg hz]
    exact ⟨M, rfl, h, rfl⟩
theorem Drop_F (k : Nat) (hk : 20000 ≤ k) {E : Nat} {M : Mp} (h : Inv M E) (lost place : Int) : ∃ M', net_Net_Drop k place (E : Int) lost M = some ((atM (allF M E) place).2, M') ∧ Inv M' E ∧ allF M' E = (if (atM (allF M E) place).2 = 0 then (allF M E).eraseIdx place.toNat else allF M E) := by
  obtain ⟨M', h1, h2, h3⟩ := Take_F k hk h lost place
  exact ⟨M', by simp only [net_Net_Drop, h1, Option.bind_some], h2, h3⟩
theorem Line_F (k : Nat) {E : Nat} {M : Mp} (h : Inv M E) (lost f t : Int) : net_Net_Line k f t (E : Int) lost M = some (((lineF (allF M E) f t).length : Nat) : Int) := by
  simp only [net_Net_Line, net_Net_there, getln]
  simp only [lt1, Option.bind_some]
  congr 2
  by_cases hp : inR E ⟨f, t⟩
  · rw [show lineF (allF M E) f t = row M ⟨f, t⟩ from lineF_row hp]; unfold row; rw [List.length_map]
  · rw [ln_out h (p := ⟨f, t⟩) (fun hh => hp hh.1)]
    symm
    refine List.length_eq_zero_iff.2 ?_
    exact filter_none fun x hx => by
      rw [← Bool.not_eq_true, isL_iff]
      rintro ⟨h1, h2⟩
      have := (mem_allF hx).1
      rw [h1, h2] at this
      exact hp this
/-! ### doubling -/
def dblF (F : List api_Flight) (place : Int) : Int × List api_Flight :=
  if (atM F place).2 ≠ 0 then ((atM F place).2, F) else if 64 ≤ (lineF F (atM F place).1.From (atM F place).1.To).length then (5, F) else (0, layF (atM F place).1 F)
theorem atM_mem {F : List api_Flight} {place : Int} (h : (atM F place).2 = 0) : (atM F place).1 ∈ F ∧ 0 ≤ place ∧ F[place.toNat]? = some (atM F place).1 := by
  unfold atM at h ⊢
  by_cases h0 : place < 0
  · rw [if_pos h0] at h; cases h
  · rw [if_neg h0] at h ⊢
    cases hg : F[place.toNat]? with
    | none => rw [hg] at h; cases h
    | some f => exact ⟨List.mem_of_getElem? hg, by omega, rfl⟩
theorem Double_F (k : Nat) (hk : 20000 ≤ k) {E : Nat} {M : Mp} (h : Inv M E) (lost place : Int) : ∃ M', net_Net_Double k place (E : Int) lost M = some ((dblF (allF M E) place).1, M') ∧ Inv M' E ∧ allF M' E = (dblF (allF M E) place).2 := by
  simp only [net_Net_Double, At_eq k hk h, Option.bind_some, lt1, dblF]
  by_cases hz : (atM (allF M E) place).2 = 0
  · obtain ⟨hm, _, _⟩ := atM_mem hz
    obtain ⟨f, hf⟩ : ∃ f, (atM (allF M E) place).1 = f := ⟨_, rfl⟩
    rw [hf] at hm
    obtain ⟨hp, hb⟩ := mem_allF hm
    have hrow : lineF (allF M E) f.From f.To = row M ⟨f.From, f.To⟩ := lineF_row hp
    have hl : (lineF (allF M E) f.From f.To).length = (ln M ⟨f.From, f.To⟩).length := by rw [hrow]; unfold row; rw [List.length_map]
    have hln := h.len ⟨f.From, f.To⟩
    have hsm := allF_small h hm
    have hne : f.From ≠ f.To := fun he => by
      rw [ln_out h (p := ⟨f.From, f.To⟩) (fun hh => hh.2 he)] at hb; cases hb
    simp only [hz, hf, bne_self_eq_false, Bool.false_eq_true, if_false, Line_F k h, Option.bind_some, hl, ne_eq, not_true_eq_false]
    by_cases h64 : 64 ≤ (ln M ⟨f.From, f.To⟩).length
    · simp only [dec_t (show (((ln M ⟨f.From, f.To⟩).length : Nat) : Int) ≥ 64 by omega), if_true, if_pos h64]
      exact ⟨M, rfl, h, rfl⟩
    · simp only [dec_f (show ¬ (((ln M ⟨f.From, f.To⟩).length : Nat) : Int) ≥ 64 by omega), Bool.false_eq_true, if_false, if_neg h64, lay_eq k ⟨f.From, f.To⟩ f.Bytes _ _ M (by unfold Big at hsm; omega) (by omega), Option.bind_some]
      refine ⟨_, rfl, h.put hp hne (by simp; omega) (fun c hc => ?_), ?_⟩
      · rcases List.mem_append.1 hc with hc | hc
        · exact h.small _ c hc
        · simp at hc; subst hc; exact hsm
      · exact lay_parts hp f.Bytes
  · have hb : ((atM (allF M E) place).2 != 0) = true := by simpa using hz
    simp only [hb, if_true, ne_eq, hz, not_false_eq_true]
    exact ⟨M, rfl, h, rfl⟩
/-! ### counting -/
theorem sum_upd {α : Type} [DecidableEq α] (g g' : α → Nat) (a : α) (c : Nat) (he : ∀ x, x ≠ a → g x = g' x) (ha : g a = g' a + c) : ∀ (l : List α), l.Nodup → a ∈ l → (l.map g).sum = (l.map g').sum + c
  | [], _, h => by cases h
  | x :: l, hn, h => by
    simp only [List.nodup_cons] at hn
    simp only [List.map_cons, List.sum_cons]
    by_cases hx : x = a
    · subst hx
      have : l.map g = l.map g' := List.map_congr_left fun y hy => he y fun h => hn.1 (h ▸ hy)
      rw [this, ha]; omega
    · rcases List.mem_cons.1 h with h | h
      · exact absurd h.symm hx
      · rw [sum_upd g g' a c he ha l hn.2 h, he x hx]; omega
theorem prs_nodup (E : Nat) : (prs E).Nodup := (prs_sorted E).imp fun {a b} h hab => by
  subst hab
  rcases h with h | h <;> omega
theorem sum_M {E : Nat} : ∀ (M : Mp), (M.map Prod.fst).Nodup → (∀ e ∈ M, inR E e.1) → (M.map fun e => e.2.length).sum = ((prs E).map fun p => (ln M p).length).sum
  | [], _, _ => by
    have : (prs E).map (fun p => (ln ([] : Mp) p).length) = (prs E).map fun _ => 0 := List.map_congr_left fun p _ => by simp [ln, mget_nil]
    rw [this]
    simp only [List.map_nil, List.sum_nil]
    induction (prs E) with
    | nil => rfl
    | cons p l ih => simp [← ih]
  | e :: M, hn, hr => by
    simp only [List.map_cons, List.nodup_cons] at hn
    have ih := sum_M M hn.2 fun x hx => hr x (List.mem_cons_of_mem _ hx)
    have hl0 : ln M e.1 = [] := by
      unfold ln
      cases hg : mget e.1 M with
      | none => rfl
      | some v => exact absurd (List.mem_map.2 ⟨(e.1, v), mget_mem hg, rfl⟩) hn.1
    have hc : ∀ p, ln (e :: M) p = if p = e.1 then e.2 else ln M p := fun p => by unfold ln; rw [mget_cons]; split <;> rfl
    rw [List.map_cons, List.sum_cons, ih, sum_upd (fun p => (ln (e :: M) p).length) (fun p => (ln M p).length) e.1 e.2.length (fun x hx => by simp only [hc, if_neg hx]) (by simp only [hc, if_true, hl0, List.length_nil]; omega) _ (prs_nodup E) (mem_prs.2 (hr e (List.mem_cons_self ..)))]
    omega
theorem allF_length (M : Mp) (E : Nat) : (allF M E).length = ((prs E).map fun p => (ln M p).length).sum := by
  unfold allF
  rw [List.length_flatMap]
  congr 1
  exact List.map_congr_left fun p _ => by unfold row; rw [List.length_map]
theorem lenFold (k : Nat) : ∀ (l : Mp) (c : Nat), c + (l.map fun e => e.2.length).sum ≤ 1000000 → foldO (fun s e => net_Net_Len.b1 k s e) (fun s => net_Net_Len.f1 k s) l (c : Int) = some ((c + (l.map fun e => e.2.length).sum : Nat) : Int)
  | [], c, _ => by simp [foldO, net_Net_Len.f1]
  | e :: l, c, h => by
    simp only [List.map_cons, List.sum_cons] at h
    have hw : w64 ((c : Int) + (e.2.length : Int)) = ((c + e.2.length : Nat) : Int) := by rw [w64_id (by omega) (by omega)]; omega
    have ih := lenFold k l (c + e.2.length) (by omega)
    simp only [foldO, net_Net_Len.b1, lt1, hw]
    simp only [net_Net_Len.b1, lt1] at ih
    rw [ih]
    simp only [List.map_cons, List.sum_cons]
    congr 2
    omega
theorem perm_sum {α : Type} (g : α → Nat) {l l' : List α} (h : l.Perm l') : (l.map g).sum = (l'.map g).sum := by
  induction h with
  | nil => rfl
  | cons x _ ih => simp [ih]
  | swap x y l => simp; omega
  | trans _ _ ih1 ih2 => rw [ih1, ih2]
theorem Len_F (k : Nat) {E : Nat} {M : Mp} (h : Inv M E) (lost : Int) : net_Net_Len k (E : Int) lost M = some (((allF M E).length : Nat) : Int) := by
  have hl := allF_len h
  have hs := sum_M M h.nd fun e he => (h.rng e he).1
  rw [← allF_length] at hs
  have : rangeM (Option.getD (some M) []) (fun s e => net_Net_Len.b1 k s e) (fun s => net_Net_Len.f1 k s) (0 : Int) = some (((allF M E).length : Nat) : Int) := by
    refine rangeM_of fun l hp => ?_
    have hs2 := perm_sum (fun e : net_pair × List (List UInt8) => e.2.length) hp
    rw [Option.getD_some] at hs2
    have := lenFold k l 0 (by omega)
    rw [hs2, hs, Nat.zero_add] at this
    exact this
  simp only [net_Net_Len, net_Net_there, Option.bind_some, this]
end Go.Proofs.Ytnadeehdnmgebaa
