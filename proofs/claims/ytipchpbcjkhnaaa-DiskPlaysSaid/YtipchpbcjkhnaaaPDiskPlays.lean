/- The plain law DiskPlays: what the functions compute, and that it is as the statement says. -/
import Derived.Test.YtipchpbcjkhnaaaFa
import Derived.Test.YtipchpbcjkhnaaaFq
import Derived.Test.YtipchpbcjkhnaaaFdq
import Derived.Test.YtipchpbcjkhnaaaS
namespace Go.Proofs.Ytipchpbcjkhnaaa
open Go Fw
set_option linter.unusedVariables false
set_option linter.unusedSimpArgs false
section
variable {K V : Type} [DecidableEq K]
theorem Zep (k : K) : mget k ([] : List (K × V)) = none := rfl
theorem Zci (k : K) (p : K × V) (l : List (K × V)) : mget k (p :: l) = if k = p.1 then some p.2 else mget k l := by
  unfold mget
  rw [mpos]
  by_cases h : k = p.1
  · rw [if_pos h, if_pos h]; rfl
  · rw [if_neg h, if_neg h]
    cases mpos k l <;> rfl
theorem ZcR (k : K) (v : V) (p : K × V) (l : List (K × V)) : mput k v (p :: l) = if k = p.1 then (k, v) :: l else p :: mput k v l := by
  unfold mput
  rw [mpos]
  by_cases h : k = p.1
  · rw [if_pos h, if_pos h]; rfl
  · rw [if_neg h, if_neg h]
    cases mpos k l <;> rfl
theorem Zff (k : K) (p : K × V) (l : List (K × V)) : mdel k (p :: l) = if k = p.1 then l else p :: mdel k l := by
  unfold mdel
  rw [mpos]
  by_cases h : k = p.1
  · rw [if_pos h, if_pos h]; rfl
  · rw [if_neg h, if_neg h]
    cases mpos k l <;> rfl
theorem ZbT (k q : K) (v : V) (l : List (K × V)) : mget q (mput k v l) = if q = k then some v else mget q l := by
  induction l with
  | nil =>
    show mget q [(k, v)] = _
    rw [Zci]
  | cons p l ih =>
    rw [ZcR]
    by_cases h : k = p.1
    · rw [if_pos h, Zci, Zci]
      by_cases hq : q = k
      · rw [if_pos hq, if_pos hq]
      · rw [if_neg hq, if_neg hq, if_neg (fun h' => hq (h'.trans h.symm))]
    · rw [if_neg h, Zci, Zci, ih]
      by_cases hq : q = p.1
      · rw [if_pos hq, if_pos hq, if_neg (fun h' => h (h'.symm.trans hq))]
      · rw [if_neg hq, if_neg hq]
theorem mput_keys (k : K) (v : V) (l : List (K × V)) : (mput k v l).map Prod.fst = l.map Prod.fst ∨ (k ∉ l.map Prod.fst ∧ (mput k v l).map Prod.fst = l.map Prod.fst ++ [k]) := by
  induction l with
  | nil => exact .inr ⟨by simp, rfl⟩
  | cons p l ih =>
    rw [ZcR]
    by_cases h : k = p.1
    · rw [if_pos h]; left; simp [h]
    · rw [if_neg h]
      rcases ih with ih | ⟨h1, ih⟩
      · left; simp [ih]
      · right; exact ⟨by simp [h]; simpa using h1, by simp [ih]⟩
theorem Zfg (k : K) (v : V) (l : List (K × V)) (h : (l.map Prod.fst).Nodup) : ((mput k v l).map Prod.fst).Nodup := by
  rcases mput_keys k v l with h1 | ⟨h0, h1⟩
  · rw [h1]; exact h
  · rw [h1, List.nodup_append]
    exact ⟨h, by simp, fun a ha b hb hab => by simp at hb; subst hb; subst hab; exact h0 ha⟩
theorem ZeM {k : K} {v : V} {l : List (K × V)} {e : K × V} (h : e ∈ mput k v l) : e = (k, v) ∨ e ∈ l := by
  induction l with
  | nil => left; simpa [mput, mpos] using h
  | cons p l ih =>
    rw [ZcR] at h
    by_cases hk : k = p.1
    · rw [if_pos hk] at h
      rcases List.mem_cons.1 h with h | h
      · exact .inl h
      · exact .inr (List.mem_cons_of_mem _ h)
    · rw [if_neg hk] at h
      rcases List.mem_cons.1 h with h | h
      · exact .inr (by rw [h]; exact List.mem_cons_self ..)
      · exact (ih h).imp id (List.mem_cons_of_mem _)
theorem Zdw {k : K} {v : V} {l : List (K × V)} (h : mget k l = some v) : (k, v) ∈ l := by
  induction l with
  | nil => cases h
  | cons p l ih =>
    rw [Zci] at h
    by_cases hk : k = p.1
    · rw [if_pos hk] at h; cases h; rw [hk]; exact List.mem_cons_self ..
    · rw [if_neg hk] at h; exact List.mem_cons_of_mem _ (ih h)
theorem Zem {k : K} {v : V} {l : List (K × V)} (hn : (l.map Prod.fst).Nodup) (h : (k, v) ∈ l) : mget k l = some v := by
  induction l with
  | nil => cases h
  | cons p l ih =>
    simp only [List.map_cons, List.nodup_cons] at hn
    rw [Zci]
    rcases List.mem_cons.1 h with h | h
    · rw [← h, if_pos rfl]
    · rw [if_neg, ih hn.2 h]
      intro hk
      exact hn.1 (List.mem_map.2 ⟨(k, v), h, hk⟩)
theorem ZeU {k : K} {l : List (K × V)} (hn : (l.map Prod.fst).Nodup) : mdel k l = l.filter fun e => decide (e.1 ≠ k) := by
  induction l with
  | nil => rfl
  | cons p l ih =>
    simp only [List.map_cons, List.nodup_cons] at hn
    rw [Zff]
    by_cases h : k = p.1
    · rw [if_pos h, List.filter_cons_of_neg (by simp [h])]
      symm
      rw [List.filter_eq_self]
      intro e he
      simp only [decide_eq_true_eq]
      intro hk
      exact hn.1 (List.mem_map.2 ⟨e, he, by rw [hk, h]⟩)
    · rw [if_neg h, List.filter_cons_of_pos (by simpa using fun h' => h h'.symm), ih hn.2]
theorem ZhH {f : K → Bool} {k : K} {l : List (K × V)} : mget k (l.filter fun e => f e.1) = if f k then mget k l else none := by
  induction l with
  | nil => simp [Zep]
  | cons p l ih =>
    rw [Zci]
    by_cases h : f p.1 = true
    · rw [List.filter_cons_of_pos (p := fun e : K × V => f e.1) h, Zci, ih]
      by_cases hk : k = p.1
      · rw [if_pos hk, if_pos hk, hk, if_pos h]
      · rw [if_neg hk, if_neg hk]
    · rw [List.filter_cons_of_neg (p := fun e : K × V => f e.1) h, ih]
      by_cases hk : k = p.1
      · rw [hk, if_neg h, if_neg h]
      · rw [if_neg hk]
theorem Zfc (k : K) (u v : V) (l : List (K × V)) : mput k v (mput k u l) = mput k v l := by
  induction l with
  | nil => simp [mput, mpos]
  | cons p l ih =>
    rw [ZcR k u]
    by_cases h : k = p.1
    · rw [if_pos h, ZcR, ZcR, if_pos h]; simp
    · rw [if_neg h, ZcR, ZcR, if_neg h, if_neg h, ih]
theorem Zdg {k : K} {l : List (K × V)} : mget k l = none ↔ k ∉ l.map Prod.fst := by
  induction l with
  | nil => simp [Zep]
  | cons p l ih =>
    rw [Zci]
    by_cases h : k = p.1
    · simp [h]
    · simp [h, ih]
theorem Zeb {k : K} {l m : List (K × V)} (hn : (l.map Prod.fst).Nodup) (hp : l.Perm m) : mget k l = mget k m := by
  have hn' : (m.map Prod.fst).Nodup := (hp.map Prod.fst).nodup hn
  cases h : mget k l with
  | none =>
    have h1 := Zdg.1 h
    exact (Zdg.2 fun h2 => h1 ((hp.map Prod.fst).mem_iff.2 h2)).symm
  | some v => exact (Zem hn' (hp.mem_iff.1 (Zdw h))).symm
theorem Zgu {k : K} {l : List (K × V)} (hn : (l.map Prod.fst).Nodup) : ((mdel k l).map Prod.fst).Nodup := by
  rw [ZeU hn]
  exact hn.sublist (List.filter_sublist.map _)
theorem Zeg {k q : K} {l : List (K × V)} (hn : (l.map Prod.fst).Nodup) : mget q (mdel k l) = if q = k then none else mget q l := by
  rw [ZeU hn, ZhH (f := fun a => decide (a ≠ k))]
  by_cases h : q = k <;> simp [h]
theorem Zh9 {k : K} {l : List (K × V)} {e : K × V} (h : e ∈ mdel k l) : e ∈ l := by
  induction l with
  | nil => simp [mdel, mpos] at h
  | cons p l ih =>
    rw [Zff] at h
    by_cases hk : k = p.1
    · rw [if_pos hk] at h; exact List.mem_cons_of_mem _ h
    · rw [if_neg hk] at h
      rcases List.mem_cons.1 h with rfl | h
      · exact List.mem_cons_self ..
      · exact List.mem_cons_of_mem _ (ih h)
def tot (f : V → Nat) (l : List (K × V)) : Nat := (l.map fun e => f e.2).sum
theorem Zhq (f : V → Nat) (k : K) (v : V) (l : List (K × V)) : tot f (mput k v l) + (((mget k l).map f).getD 0) = tot f l + f v := by
  induction l with
  | nil => simp [tot, mput, mpos, Zep]
  | cons p l ih =>
    rw [ZcR, Zci]
    by_cases h : k = p.1
    · simp only [if_pos h, tot, List.map_cons, List.sum_cons, Option.map_some, Option.getD_some]; omega
    · simp only [if_neg h, tot, List.map_cons, List.sum_cons] at ih ⊢; omega
theorem ZgJ (f : V → Nat) (k : K) (l : List (K × V)) : tot f (mdel k l) + (((mget k l).map f).getD 0) = tot f l := by
  induction l with
  | nil => simp [tot, mdel, mpos, Zep]
  | cons p l ih =>
    rw [Zff, Zci]
    by_cases h : k = p.1
    · simp only [if_pos h, tot, List.map_cons, List.sum_cons, Option.map_some, Option.getD_some]; omega
    · simp only [if_neg h, tot, List.map_cons, List.sum_cons] at ih ⊢; omega
end
theorem ZgC {K V : Type} (f : V → Nat) {l m : List (K × V)} (h : l.Perm m) : tot f l = tot f m := (h.map _).sum_nat
section
variable {K V : Type} [DecidableEq K]
theorem ZhE (k : K) (v : V) (l : List (K × V)) : (mput k v l).length = if (mget k l).isSome then l.length else l.length + 1 := by
  induction l with
  | nil => simp [mput, mpos, Zep]
  | cons p l ih =>
    rw [ZcR, Zci]
    by_cases h : k = p.1
    · simp [h]
    · simp only [if_neg h, List.length_cons, ih]; split <;> rfl
theorem Zi2 (k : K) (l : List (K × V)) : (mdel k l).length = if (mget k l).isSome then l.length - 1 else l.length := by
  induction l with
  | nil => simp [mdel, mpos, Zep]
  | cons p l ih =>
    rw [Zff, Zci]
    by_cases h : k = p.1
    · simp [h]
    · simp only [if_neg h, List.length_cons, ih]
      split
      · rename_i hs
        have : 0 < l.length := by
          cases l with
          | nil => simp [Zep] at hs
          | cons _ _ => simp
        omega
      · rfl
end
theorem Zgv {E σ τ : Type} {body : σ → E → Option (σ ⊕ τ)} {fin : σ → Option τ} {g : σ → E → σ} (P : σ → Prop) : ∀ {l : List E} {s : σ}, P s → (∀ s e, e ∈ l → P s → body s e = some (.inl (g s e)) ∧ P (g s e)) → ZdX body fin l s = fin (l.foldl g s)
  | [], _, _, _ => rfl
  | e :: l, s, hP, h => by
    have h1 := h s e (List.mem_cons_self ..) hP
    simp only [ZdX, h1.1, List.foldl_cons]
    exact Zgv P h1.2 fun s e he hs => h s e (List.mem_cons_of_mem _ he) hs
theorem Zih {body : Int → Option (Int ⊕ (Unit ⊕ Bool))} (n : Nat) (P : Nat → Prop) [DecidablePred P] {b : Bool} (hs : ∀ i, i < n → body (i : Int) = some (if P i then .inl ((i + 1 : Nat) : Int) else .inr (.inr b))) (he : body (n : Int) = some (.inr (.inl ()))) {k : Nat} (hk : n < k) :
    Zcl body k (0 : Int) = some (if ∀ i, i < n → P i then .inl () else .inr b) := by
  have h := Zjz (body := body) (I := fun s => 0 ≤ s ∧ s ≤ n ∧ ∀ i : Nat, (i : Int) < s → P i) (m := fun s => ((n : Int) - s).toNat) (fun t => t = if ∀ i, i < n → P i then .inl () else .inr b) ?_ k (0 : Int) ⟨Int.le_refl _, by omega, fun i h => by omega⟩ (by omega)
  · obtain ⟨t, h1, rfl⟩ := h
    exact h1
  · rintro s ⟨h0, h1, h2⟩
    obtain ⟨i, rfl⟩ : ∃ i : Nat, s = i := ⟨s.toNat, by omega⟩
    by_cases hlt : i < n
    · rw [hs i hlt]
      by_cases hP : P i
      · left
        refine ⟨_, by rw [if_pos hP], ⟨by omega, by omega, fun j hj => ?_⟩, by omega⟩
        by_cases hji : j = i
        · subst hji; exact hP
        · exact h2 j (by omega)
      · right
        exact ⟨_, by rw [if_neg hP], by rw [if_neg (fun h => hP (h i hlt))]⟩
    · have : i = n := by omega
      subst this
      right
      exact ⟨_, he, by rw [if_pos (fun j hj => h2 j (by omega))]⟩
theorem ZjL {σ τ : Type} {body : σ × Int → Option (σ × Int ⊕ τ)} (n : Nat) (f : Nat → σ) (t : τ) (hs : ∀ i, i < n → body (f i, (i : Int)) = some (.inl (f (i + 1), ((i + 1 : Nat) : Int)))) (he : body (f n, (n : Int)) = some (.inr t)) {k : Nat} (hk : n < k) {s0 : σ} (h0 : f 0 = s0) : Zcl body k (s0, (0 : Int)) = some t :=
  Zi8 (f := fun i => (f i, ((i : Nat) : Int))) n t (by rw [h0]; rfl) hs he hk
abbrev Mp := List (List UInt8 × Zaf)
structure DS where
  cap : Int
  fuse : Int
  dead : Bool
  writes : Int
  x : Mp
def sz (f : Zaf) : Nat := f.b.length
def okC (c : UInt8) : Bool := !(((decide (c < 97) || decide (122 < c)) && (decide (c < 48) || decide (57 < c))) && (!(c == 46)) && (!(c == 45)))
def mayN (s : List UInt8) : Bool := s.all okC && (decide (1 ≤ s.length) && decide (s.length ≤ 32))
structure DInv (s : DS) : Prop where
  cap1 : 1 ≤ s.cap
  cap2 : s.cap ≤ 16777216
  fuse1 : -1 ≤ s.fuse
  fuse2 : s.fuse ≤ 9223372036854775807
  wr1 : 0 ≤ s.writes
  kn : (s.x.map Prod.fst).Nodup
  tot : (tot sz s.x : Int) ≤ s.cap
  lasts : ∀ e ∈ s.x, 0 ≤ e.2.lasts ∧ e.2.lasts ≤ e.2.b.length
  names : ∀ e ∈ s.x, mayN e.1 = true
  len : s.x.length ≤ 64
theorem DInv.size {s : DS} (h : DInv s) {n : List UInt8} {f : Zaf} (hf : mget n s.x = some f) : f.b.length ≤ 16777216 := by
  have h1 := ZgJ sz n s.x
  rw [hf] at h1
  simp only [Option.map_some, Option.getD_some, sz] at h1
  have h2 := h.tot
  have h3 := h.cap2
  omega
theorem Zeh {k : Nat} (n : List UInt8) (hk : n.length < k) (hn : n.length ≤ 1000000) : disk_MayName k n = some (mayN n) := by
  have h1 := Zih (body := fun s => disk_MayName.b1 k n s) n.length (fun i => ∀ h : i < n.length, okC n[i] = true) (b := false) (k := k) ?_ ?_ hk
  · simp only [disk_MayName, lt1, h1]
    by_cases ha : n.all okC = true
    · have : ∀ i, i < n.length → ∀ h : i < n.length, okC n[i] = true := fun i _ h => List.all_eq_true.1 ha _ (List.getElem_mem h)
      rw [if_pos this]
      simp only [Option.bind_some, mayN, ha, Bool.true_and]
      congr 1
      by_cases h1 : 1 ≤ n.length
      · by_cases h2 : n.length ≤ 32
        · simp only [Zbz (show (n.length : Int) ≥ 1 by omega), Zbz (show (n.length : Int) ≤ 32 by omega), Zbz h1, Zbz h2]; rfl
        · simp only [Zbz (show (n.length : Int) ≥ 1 by omega), Zbq (show ¬ (n.length : Int) ≤ 32 by omega), Zbz h1, Zbq h2]; rfl
      · simp only [Zbq (show ¬ (n.length : Int) ≥ 1 by omega), Zbq h1]; rfl
    · have : ¬ ∀ i, i < n.length → ∀ h : i < n.length, okC n[i] = true := fun h => ha (List.all_eq_true.2 fun c hc => by
        obtain ⟨i, hi, rfl⟩ := List.getElem_of_mem hc
        exact h i hi hi)
      rw [if_neg this]
      have ha : n.all okC = false := by simpa using ha
      simp only [Option.bind_some, mayN, ha, Bool.false_and]
  · intro i hi
    simp only [disk_MayName.b1, lt1, Zbz (show (i : Int) < (n.length : Int) by omega), if_true, Ze6 hi, Option.bind_some, Zcm (show i < 9223372036854775807 by omega)]
    have hb : (bif bif (bif (bif decide (n[i] < 97) then true else decide (122 < n[i])) then (bif decide (n[i] < 48) then true else decide (57 < n[i])) else false) then !(n[i] == 46) else false then !(n[i] == 45) else false) = !okC n[i] := by
      unfold okC
      cases decide (n[i] < 97) <;> cases decide (122 < n[i]) <;> cases decide (n[i] < 48) <;> cases decide (57 < n[i]) <;> cases (n[i] == 46) <;> cases (n[i] == 45) <;> rfl
    rw [hb]
    by_cases hc : okC n[i] = true
    · rw [if_pos (show ∀ h : i < n.length, okC n[i] = true from fun _ => hc)]; simp [hc]
    · have hc' : okC n[i] = false := by simpa using hc
      rw [if_neg (show ¬ ∀ h : i < n.length, okC n[i] = true from fun h => hc (h hi))]; simp [hc']
  · simp only [disk_MayName.b1, lt1, Zbq (show ¬ (n.length : Int) < (n.length : Int) by omega), Bool.false_eq_true, if_false]
theorem ZcT (k : Nat) (a b : Int) (c : Bool) (d : Int) (x : Mp) : Zax k a b c d x = some () := rfl
theorem Zgp (k : Nat) (s : List UInt8) (h : s.length ≤ 140737488355328) : Zbo k s = some s := by
  simp only [Zbo, ZcD (show (([] : List UInt8).length + s.length) * 1 ≤ 140737488355328 by simp; omega), Option.bind_some]
  rfl
theorem ZgM (k : Nat) (s : DS) (h : DInv s) (b : Int) (c : Bool) (d : Int) : disk_Disk_Room_p_smvvvvm k s.cap b c d s.x = some (s.cap - (tot sz s.x : Int)) := by
  have h1 : ZfQ (Option.getD (some s.x) []) (fun n e => disk_Disk_Room_p_smvvvvm.b1 k s.x n e) (fun n => disk_Disk_Room_p_smvvvvm.f1 k n) s.cap = some (s.cap - (tot sz s.x : Int)) := by
    refine Zhl fun l hl => ?_
    have hl : l.Perm s.x := hl
    have key : ∀ (l : Mp) (n : Int), (∀ e ∈ l, e ∈ s.x) → -16777216 + (tot sz l : Int) ≤ n → n ≤ 16777216 → ZdX (fun n e => disk_Disk_Room_p_smvvvvm.b1 k s.x n e) (fun n => disk_Disk_Room_p_smvvvvm.f1 k n) l n = some (n - (tot sz l : Int)) := by
      intro l
      induction l with
      | nil => intro n _ _ _; simp [ZdX, disk_Disk_Room_p_smvvvvm.f1, tot]
      | cons e l ih =>
        intro n hm h1 h2
        have he := Zem h.kn (show (e.1, e.2) ∈ s.x from hm e (List.mem_cons_self ..))
        have e1 : ZbF (some s.x) e.1 = some e.2 := he
        have e2 : tot sz (e :: l) = e.2.b.length + tot sz l := by simp [tot, sz]
        have e3 : w64 (n - (e.2.b.length : Int)) = n - (e.2.b.length : Int) := Zch (by omega) (by omega)
        have hb : disk_Disk_Room_p_smvvvvm.b1 k s.x n e = some (.inl (n - (e.2.b.length : Int))) := by simp only [disk_Disk_Room_p_smvvvvm.b1, e1, Option.bind_some, lt1, e3]
        simp only [ZdX, hb]
        rw [ih _ (fun x hx => hm x (List.mem_cons_of_mem _ hx)) (by omega) (by omega), e2]
        congr 1
        omega
    rw [key l s.cap (fun e he => hl.mem_iff.1 he) (by rw [ZgC sz hl]; have := h.tot; have := h.cap1; omega) h.cap2, ZgC sz hl]
  simp only [disk_Disk_Room_p_smvvvvm, ZcT, Option.bind_some, h1]
def wr (s : DS) (whole torn : Mp) : Int × DS :=
  if s.dead = true then (8, s) else if s.fuse = 0 then (8, { s with dead := true, writes := s.writes + 1, x := torn }) else (0, { s with writes := s.writes + 1, fuse := if s.fuse > 0 then s.fuse - 1 else s.fuse, x := whole })
def tup (r : Int × DS) : Int × Mp × Int × Bool × Int := (r.1, r.2.x, r.2.fuse, r.2.dead, r.2.writes)
def old (x : Mp) (n : List UInt8) : Zaf := (mget n x).getD ⟨[], 0⟩
def lay (x : Mp) (n b : List UInt8) : Mp := mput n ⟨(old x n).b ++ b, (old x n).lasts⟩ x
def full (s : DS) (n b : List UInt8) : Prop := (b.length : Int) > s.cap - (tot sz s.x : Int) ∨ (mget n s.x = none ∧ s.x.length ≥ 64)
instance (s : DS) (n b : List UInt8) : Decidable (full s n b) := inferInstanceAs (Decidable (_ ∨ _))
def append (s : DS) (n b : List UInt8) : Int × DS := if mayN n = false then (2, s) else if full s n b then (5, s) else wr s (lay s.x n b) (lay s.x n b)
theorem Ziz (k : Nat) (x : Mp) (n b : List UInt8) (c : Int) (f : Int) (d : Bool) (w : Int) (hs : (old x n).b.length + b.length ≤ 140737488355328) : ∃ o, ZaS k (mget n x) x c f d w n b = some (lay x n b, o) := by
  cases hg : mget n x with
  | none =>
    have ho : old x n = ⟨[], 0⟩ := by simp [old, hg]
    have e1 : ZbF (some (mput n (⟨[], 0⟩ : Zaf) x)) n = some ⟨[], 0⟩ := by show mget n _ = _; rw [ZbT, if_pos rfl]
    have e2 : Zdz (mput n (⟨[], 0⟩ : Zaf) x) n (fun u => { u with b := [] ++ b }) = some (lay x n b) := by
      unfold Zdz
      rw [ZbT, if_pos rfl]
      simp only [Option.map_some, Zfc, lay, ho]
    rw [ho] at hs
    refine ⟨some default, ?_⟩
    simp only [ZaS, lt1, Option.isNone_none, if_true, Option.bind_some, e1, Zgp k [] (by simp), ZcD (show (([] : List UInt8).length + b.length) * 1 ≤ 140737488355328 by simp at hs ⊢; omega), e2]
  | some u =>
    have ho : old x n = u := by simp [old, hg]
    have e1 : ZbF (some x) n = some u := hg
    rw [ho] at hs
    have e2 : Zdz x n (fun v => { v with b := u.b ++ b }) = some (lay x n b) := by
      unfold Zdz
      rw [hg]
      simp only [Option.map_some, lay, ho]
    refine ⟨some u, ?_⟩
    simp only [ZaS, lt1, Option.isNone_some, Bool.false_eq_true, if_false, Option.bind_some, e1, Zgp k u.b (by omega), ZcD (show (u.b.length + b.length) * 1 ≤ 140737488355328 by omega), e2]
theorem Zia {s : DS} (h : DInv s) (n : List UInt8) : (old s.x n).b.length ≤ 16777216 := by
  unfold old
  cases hg : mget n s.x with
  | none => simp
  | some u => simpa using h.size hg
theorem Zex {k : Nat} (s : DS) (h : DInv s) (hw : s.writes < 9223372036854775807) (n b : List UInt8) (hk : n.length < k) (hn : n.length ≤ 1000000) (hb : b.length ≤ 100000000) : Zau k n b s.cap s.fuse s.dead s.writes s.x = some (tup (append s n b)) := by
  have hm := Zeh n hk hn
  unfold append
  by_cases hn' : mayN n = true
  · have e0 : (if mayN n = false then ((2 : Int), s) else if full s n b then (5, s) else wr s (lay s.x n b) (lay s.x n b)) = if full s n b then (5, s) else wr s (lay s.x n b) (lay s.x n b) := by rw [if_neg (by rw [hn']; decide)]
    rw [e0]
    have hf : ∀ (v : Bool) , (disk_Disk_Room_p_smvvvvm k s.cap s.fuse v s.writes s.x).bind (fun v_19 => if decide ((b.length : Int) > v_19) = true then some true else if (mget n s.x).isNone = true then some (decide ((s.x.length : Int) ≥ 64)) else some false) = some (decide (full s n b)) := by
      intro v
      rw [ZgM k s h]
      simp only [Option.bind_some]
      by_cases h1 : (b.length : Int) > s.cap - (tot sz s.x : Int)
      · rw [Zbz h1, if_pos rfl, Zbz (show full s n b from .inl h1)]
      · rw [Zbq h1, if_neg (by decide)]
        cases hg : mget n s.x with
        | none =>
          simp only [Option.isNone_none, if_true]
          by_cases h2 : s.x.length ≥ 64
          · rw [Zbz (show (s.x.length : Int) ≥ 64 by omega), Zbz (show full s n b from .inr ⟨hg, h2⟩)]
          · rw [Zbq (show ¬ (s.x.length : Int) ≥ 64 by omega), Zbq (show ¬ full s n b from fun h => h.elim h1 fun h => h2 h.2)]
        | some u =>
          simp only [Option.isNone_some, Bool.false_eq_true, if_false]
          rw [Zbq (show ¬ full s n b from fun h => h.elim h1 fun h => by rw [hg] at h; cases h.1)]
    by_cases hfl : full s n b
    · rw [if_pos hfl]
      simp only [Zbz hfl] at hf
      have hg : ZbF (some s.x) n = mget n s.x := rfl
      have hgd : (Option.getD (some s.x) []) = s.x := rfl
      simp only [Zau, ZcT, Option.bind_some, hm, hn', lt1, Bool.not_true, Bool.false_eq_true, if_false, hg, hgd, hf, if_true]
      rfl
    · rw [if_neg hfl]
      simp only [Zbq hfl] at hf
      have hg : ZbF (some s.x) n = mget n s.x := rfl
      have hgd : (Option.getD (some s.x) []) = s.x := rfl
      have ha := fun c f d w => Ziz k s.x n b c f d w (by have := Zia h n; omega)
      have e1 : w64 (s.writes + 1) = s.writes + 1 := Zch (by have := h.wr1; omega) (by omega)
      unfold wr
      by_cases hd : s.dead = true
      · rw [if_pos hd]
        simp only [Zau, ZcT, Option.bind_some, hm, hn', lt1, Bool.not_true, Bool.false_eq_true, if_false, hg, hgd, hf, ZaH, hd, if_true]
        rw [tup, hd]
      · have hd' : s.dead = false := by simpa using hd
        rw [if_neg hd]
        by_cases hz : s.fuse = 0
        · rw [if_pos hz]
          obtain ⟨o, ho⟩ := ha s.cap s.fuse true (s.writes + 1)
          have hz' : (s.fuse == 0) = true := by rw [hz]; rfl
          simp only [Zau, ZcT, Option.bind_some, hm, hn', lt1, Bool.not_true, Bool.false_eq_true, if_false, hg, hgd, hf, ZaH, hd', e1, hz', if_true, ho]
          rfl
        · rw [if_neg hz]
          have hz' : (s.fuse == 0) = false := by simpa using hz
          by_cases hp : s.fuse > 0
          · obtain ⟨o, ho⟩ := ha s.cap (s.fuse - 1) false (s.writes + 1)
            have e2 : w64 (s.fuse - 1) = s.fuse - 1 := Zch (by omega) (by have := h.fuse2; omega)
            simp only [Zau, ZcT, Option.bind_some, hm, hn', lt1, Bool.not_true, Bool.false_eq_true, if_false, hg, hgd, hf, ZaH, hd', e1, hz', Zbz hp, if_true, e2, ho]
            rw [tup, if_pos hp]
          · obtain ⟨o, ho⟩ := ha s.cap s.fuse false (s.writes + 1)
            simp only [Zau, ZcT, Option.bind_some, hm, hn', lt1, Bool.not_true, Bool.false_eq_true, if_false, hg, hgd, hf, ZaH, hd', e1, hz', Zbq hp, ho]
            rw [tup, if_neg hp]
  · have hn' : mayN n = false := by simpa using hn'
    rw [if_pos hn']
    simp only [Zau, ZcT, Option.bind_some, hm, hn', lt1, Bool.not_false, if_true]
    rfl
def fnd (x : Mp) (n : List UInt8) : Int := if mayN n = false then 2 else if mget n x = none then 6 else 0
theorem Zca (x : Mp) (n : List UInt8) : (fnd x n = 2 ∧ mayN n = false) ∨ (fnd x n = 6 ∧ mayN n = true ∧ mget n x = none) ∨ (fnd x n = 0 ∧ mayN n = true ∧ ∃ u, mget n x = some u) := by
  unfold fnd
  by_cases h1 : mayN n = false
  · exact .inl ⟨if_pos h1, h1⟩
  · rw [if_neg h1]
    have h1 : mayN n = true := by simpa using h1
    cases h2 : mget n x with
    | none => exact .inr (.inl ⟨if_pos rfl, h1, rfl⟩)
    | some u => exact .inr (.inr ⟨if_neg (by intro h; cases h), h1, u, rfl⟩)
theorem Zcf {k : Nat} (n : List UInt8) (hk : n.length < k) (hn : n.length ≤ 1000000) (c f : Int) (d : Bool) (w : Int) (x : Mp) : ZaJ k n c f d w x = some (if fnd x n = 0 then mget n x else none, fnd x n) := by
  have hm := Zeh n hk hn
  have hg : ZbF (some x) n = mget n x := rfl
  rcases Zca x n with ⟨h1, h2⟩ | ⟨h1, h2, h3⟩ | ⟨h1, h2, u, h3⟩
  · simp only [ZaJ, ZcT, Option.bind_some, hm, h2, lt1, Bool.not_false, if_true, h1]; rfl
  · simp only [ZaJ, ZcT, Option.bind_some, hm, h2, lt1, Bool.not_true, Bool.false_eq_true, if_false, hg, h3, Option.isNone_none, if_true, h1]; rfl
  · simp only [ZaJ, ZcT, Option.bind_some, hm, h2, lt1, Bool.not_true, Bool.false_eq_true, if_false, hg, h3, Option.isNone_some, h1, if_true]
theorem Zk5 {k : Nat} (s : DS) (h : DInv s) (hw : s.writes < 9223372036854775807) (X : Mp) (n : List UInt8) (o : Option Zaf) (hact : ZbW k n o s.x = some X) : ∃ q, Za0 k s.cap s.fuse s.dead s.writes s.x n o = some q ∧ (q) = tup (wr s X s.x) := by
  have e1 : w64 (s.writes + 1) = s.writes + 1 := Zch (by have := h.wr1; omega) (by omega)
  unfold wr
  by_cases hd : s.dead = true
  · rw [if_pos hd]
    refine ⟨_, by simp only [Za0, hd, if_true]; rfl, ?_⟩
    rw [tup, hd]
  · have hd' : s.dead = false := by simpa using hd
    rw [if_neg hd]
    by_cases hz : s.fuse = 0
    · rw [if_pos hz]
      have hz' : (s.fuse == 0) = true := by rw [hz]; rfl
      refine ⟨_, by simp only [Za0, hd', Bool.false_eq_true, if_false, e1, hz', if_true, Zb6, Option.bind_some, lt1]; rfl, rfl⟩
    · rw [if_neg hz]
      have hz' : (s.fuse == 0) = false := by simpa using hz
      by_cases hp : s.fuse > 0
      · have e2 : w64 (s.fuse - 1) = s.fuse - 1 := Zch (by omega) (by have := h.fuse2; omega)
        refine ⟨_, by simp only [Za0, hd', Bool.false_eq_true, if_false, e1, hz', Zbz hp, if_true, e2, Option.bind_some, lt1, hact]; rfl, ?_⟩
        rw [tup, if_pos hp, hd']
      · refine ⟨_, by simp only [Za0, hd', Bool.false_eq_true, if_false, e1, hz', Zbq hp, Option.bind_some, lt1, hact]; rfl, ?_⟩
        rw [tup, if_neg hp, hd']
theorem wCut {k : Nat} (s : DS) (h : DInv s) (hw : s.writes < 9223372036854775807) (X : Mp) (n : List UInt8) (o : Option Zaf) (m : Int) (hact : ZbU k n o s.x m = some X) : ∃ q, ZaT k s.cap s.fuse s.dead s.writes s.x n o m = some q ∧ (q) = tup (wr s X s.x) := by
  have e1 : w64 (s.writes + 1) = s.writes + 1 := Zch (by have := h.wr1; omega) (by omega)
  unfold wr
  by_cases hd : s.dead = true
  · rw [if_pos hd]
    refine ⟨_, by simp only [ZaT, hd, if_true]; rfl, ?_⟩
    rw [tup, hd]
  · have hd' : s.dead = false := by simpa using hd
    rw [if_neg hd]
    by_cases hz : s.fuse = 0
    · rw [if_pos hz]
      have hz' : (s.fuse == 0) = true := by rw [hz]; rfl
      refine ⟨_, by simp only [ZaT, hd', Bool.false_eq_true, if_false, e1, hz', if_true, Zb6, Option.bind_some, lt1]; rfl, rfl⟩
    · rw [if_neg hz]
      have hz' : (s.fuse == 0) = false := by simpa using hz
      by_cases hp : s.fuse > 0
      · have e2 : w64 (s.fuse - 1) = s.fuse - 1 := Zch (by omega) (by have := h.fuse2; omega)
        refine ⟨_, by simp only [ZaT, hd', Bool.false_eq_true, if_false, e1, hz', Zbz hp, if_true, e2, Option.bind_some, lt1, hact]; rfl, ?_⟩
        rw [tup, if_pos hp, hd']
      · refine ⟨_, by simp only [ZaT, hd', Bool.false_eq_true, if_false, e1, hz', Zbq hp, Option.bind_some, lt1, hact]; rfl, ?_⟩
        rw [tup, if_neg hp, hd']
theorem Zkm {k : Nat} (s : DS) (h : DInv s) (hw : s.writes < 9223372036854775807) (X : Mp) (n : List UInt8) (hact : ∀ c f d w, ZbG k c f d w s.x n = some X) : ∃ q, ZaU k s.cap s.fuse s.dead s.writes s.x n = some q ∧ (q) = tup (wr s X s.x) := by
  have e1 : w64 (s.writes + 1) = s.writes + 1 := Zch (by have := h.wr1; omega) (by omega)
  unfold wr
  by_cases hd : s.dead = true
  · rw [if_pos hd]
    refine ⟨_, by simp only [ZaU, hd, if_true]; rfl, ?_⟩
    rw [tup, hd]
  · have hd' : s.dead = false := by simpa using hd
    rw [if_neg hd]
    by_cases hz : s.fuse = 0
    · rw [if_pos hz]
      have hz' : (s.fuse == 0) = true := by rw [hz]; rfl
      refine ⟨_, by simp only [ZaU, hd', Bool.false_eq_true, if_false, e1, hz', if_true, Zb6, Option.bind_some, lt1]; rfl, rfl⟩
    · rw [if_neg hz]
      have hz' : (s.fuse == 0) = false := by simpa using hz
      by_cases hp : s.fuse > 0
      · have e2 : w64 (s.fuse - 1) = s.fuse - 1 := Zch (by omega) (by have := h.fuse2; omega)
        refine ⟨_, by simp only [ZaU, hd', Bool.false_eq_true, if_false, e1, hz', Zbz hp, if_true, e2, Option.bind_some, lt1, hact]; rfl, ?_⟩
        rw [tup, if_pos hp, hd']
      · refine ⟨_, by simp only [ZaU, hd', Bool.false_eq_true, if_false, e1, hz', Zbq hp, Option.bind_some, lt1, hact]; rfl, ?_⟩
        rw [tup, if_neg hp, hd']
theorem Zko {k : Nat} (s : DS) (h : DInv s) (hw : s.writes < 9223372036854775807) (X : Mp) (n t : List UInt8) (o : Option Zaf) (hact : ∀ c f d w, Zbg k c f d w s.x n o t = some X) : ∃ q, ZaF k s.cap s.fuse s.dead s.writes s.x n o t = some q ∧ (q.1, q.2.1, q.2.2.1, q.2.2.2.1, q.2.2.2.2.1) = tup (wr s X s.x) := by
  have e1 : w64 (s.writes + 1) = s.writes + 1 := Zch (by have := h.wr1; omega) (by omega)
  unfold wr
  by_cases hd : s.dead = true
  · rw [if_pos hd]
    refine ⟨_, by simp only [ZaF, hd, if_true]; rfl, ?_⟩
    rw [tup, hd]
  · have hd' : s.dead = false := by simpa using hd
    rw [if_neg hd]
    by_cases hz : s.fuse = 0
    · rw [if_pos hz]
      have hz' : (s.fuse == 0) = true := by rw [hz]; rfl
      refine ⟨_, by simp only [ZaF, hd', Bool.false_eq_true, if_false, e1, hz', if_true, Zb6, Option.bind_some, lt1]; rfl, rfl⟩
    · rw [if_neg hz]
      have hz' : (s.fuse == 0) = false := by simpa using hz
      by_cases hp : s.fuse > 0
      · have e2 : w64 (s.fuse - 1) = s.fuse - 1 := Zch (by omega) (by have := h.fuse2; omega)
        refine ⟨_, by simp only [ZaF, hd', Bool.false_eq_true, if_false, e1, hz', Zbz hp, if_true, e2, Option.bind_some, lt1, hact]; rfl, ?_⟩
        rw [tup, if_pos hp, hd']
      · refine ⟨_, by simp only [ZaF, hd', Bool.false_eq_true, if_false, e1, hz', Zbq hp, Option.bind_some, lt1, hact]; rfl, ?_⟩
        rw [tup, if_neg hp, hd']
theorem ZbP {x : Mp} {n : List UInt8} {u : Zaf} (h : mget n x = some u) : old x n = u := by simp [old, h]
def sync (s : DS) (n : List UInt8) : Int × DS := if fnd s.x n = 0 then wr s (mput n { old s.x n with lasts := ((old s.x n).b.length : Int) } s.x) s.x else (fnd s.x n, s)
def cutF (u : Zaf) (m : Int) : Zaf := ⟨u.b.take m.toNat, minI m u.lasts⟩
def cut (s : DS) (n : List UInt8) (m : Int) : Int × DS :=
  if fnd s.x n = 0 then (if m < 0 ∨ m > (old s.x n).b.length then (2, s) else wr s (mput n (cutF (old s.x n) m) s.x) s.x) else if fnd s.x n = 6 ∧ m < 0 then (2, s) else (fnd s.x n, s)
def ZeC (s : DS) (n t : List UInt8) : Int × DS := if mayN t = false then (2, s) else if fnd s.x n = 0 then wr s (mput t (old s.x n) (mdel n s.x)) s.x else (fnd s.x n, s)
def ZeT (s : DS) (n : List UInt8) : Int × DS := if fnd s.x n = 0 then wr s (mdel n s.x) s.x else (fnd s.x n, s)
theorem Zjp {k : Nat} (s : DS) (h : DInv s) (hw : s.writes < 9223372036854775807) (n : List UInt8) (hk : n.length < k) (hn : n.length ≤ 1000000) : Zbb k n s.cap s.fuse s.dead s.writes s.x = some (tup (sync s n)) := by
  unfold sync
  rcases Zca s.x n with ⟨h1, h2⟩ | ⟨h1, h2, h3⟩ | ⟨h1, h2, u, h3⟩
  · have e : ((2 : Int) != 0) = true := rfl
    rw [if_neg (by rw [h1]; decide)]
    simp only [Zbb, Zcf n hk hn, Option.bind_some, lt1, h1, e, if_true]; rfl
  · have e : ((6 : Int) != 0) = true := rfl
    rw [if_neg (by rw [h1]; decide)]
    simp only [Zbb, Zcf n hk hn, Option.bind_some, lt1, h1, e, if_true]; rfl
  · have e : ((0 : Int) != 0) = false := rfl
    rw [if_pos h1, ZbP h3]
    have hg : ZbF (some s.x) n = some u := h3
    obtain ⟨q, q1, q2⟩ := Zk5 s h hw (mput n { u with lasts := (u.b.length : Int) } s.x) n (some u) (k := k) (by simp only [ZbW, Option.bind_some, hg, Zdz, h3, Option.map_some])
    simp only [Zbb, Zcf n hk hn, Option.bind_some, lt1, h1, e, if_true, h3, Bool.false_eq_true, if_false, q1]
    exact congrArg some q2
theorem Zkb {k : Nat} (s : DS) (h : DInv s) (hw : s.writes < 9223372036854775807) (n : List UInt8) (m : Int) (hk : n.length < k) (hn : n.length ≤ 1000000) : ZaN k n m s.cap s.fuse s.dead s.writes s.x = some (tup (cut s n m)) := by
  unfold cut
  rcases Zca s.x n with ⟨h1, h2⟩ | ⟨h1, h2, h3⟩ | ⟨h1, h2, u, h3⟩
  · have e : ((2 : Int) != 0) = true := rfl
    have e6 : ((2 : Int) == 6) = false := rfl
    rw [if_neg (by rw [h1]; decide), if_neg (by rw [h1]; intro h; exact absurd h.1 (by decide))]
    simp only [ZaN, Zcf n hk hn, Option.bind_some, lt1, h1, e, e6, cond_false, Bool.false_eq_true, if_false, if_true]; rfl
  · have e : ((6 : Int) != 0) = true := rfl
    have e6 : ((6 : Int) == 6) = true := rfl
    rw [if_neg (by rw [h1]; decide)]
    by_cases hm : m < 0
    · rw [if_pos ⟨h1, hm⟩]
      simp only [ZaN, Zcf n hk hn, Option.bind_some, lt1, h1, e6, cond_true, Zbz hm, if_true]; rfl
    · rw [if_neg (fun h => hm h.2)]
      simp only [ZaN, Zcf n hk hn, Option.bind_some, lt1, h1, e6, cond_true, Zbq hm, Bool.false_eq_true, if_false, e, if_true]; rfl
  · have e : ((0 : Int) != 0) = false := rfl
    have e6 : ((0 : Int) == 6) = false := rfl
    rw [if_pos h1, ZbP h3]
    have hg : ZbF (some s.x) n = some u := h3
    by_cases hm : m < 0
    · rw [if_pos (.inl hm)]
      simp only [ZaN, Zcf n hk hn, Option.bind_some, lt1, h1, e6, cond_false, Bool.false_eq_true, if_false, e, Zbz hm, if_true]; rfl
    · by_cases hl : m > u.b.length
      · rw [if_pos (.inr hl)]
        simp only [ZaN, Zcf n hk hn, Option.bind_some, lt1, h1, e6, cond_false, Bool.false_eq_true, if_false, e, Zbq hm, if_true, h3, hg, Zbz hl]; rfl
      · rw [if_neg (fun h => h.elim hm hl)]
        have hs : subL u.b 0 m = some (u.b.take m.toNat) := by
          rw [ZeY (by omega) (by omega) (by omega)]; simp
        have hx1 : Zdz s.x n (fun v => { v with b := u.b.take m.toNat }) = some (mput n { u with b := u.b.take m.toNat } s.x) := by simp only [Zdz, h3, Option.map_some]
        have hx2 : Zdz (mput n { u with b := u.b.take m.toNat } s.x) n (fun v => { v with lasts := minI m u.lasts }) = some (mput n (cutF u m) s.x) := by
          simp only [Zdz, ZbT, if_true, Option.map_some, Zfc]; rfl
        obtain ⟨q, q1, q2⟩ := wCut s h hw (mput n (cutF u m) s.x) n (some u) m (k := k) (by simp only [ZbU, Option.bind_some, hg, hs, lt1, hx1, hx2])
        simp only [ZaN, Zcf n hk hn, Option.bind_some, lt1, h1, e6, cond_false, Bool.false_eq_true, if_false, e, Zbq hm, if_true, h3, hg, Zbq hl, q1]
        exact congrArg some q2
theorem ZgR {k : Nat} (s : DS) (h : DInv s) (hw : s.writes < 9223372036854775807) (n t : List UInt8) (hk : n.length < k) (hn : n.length ≤ 1000000) (hk' : t.length < k) (hn' : t.length ≤ 1000000) : ZaV k n t s.cap s.fuse s.dead s.writes s.x = some (tup (ZeC s n t)) := by
  unfold ZeC
  have hm := Zeh t hk' hn'
  have g1 : (fnd s.x n == 1) = false := by
    rcases Zca s.x n with ⟨h1, _⟩ | ⟨h1, _⟩ | ⟨h1, _⟩ <;> rw [h1] <;> rfl
  by_cases ht : mayN t = true
  · rw [if_neg (by rw [ht]; decide)]
    rcases Zca s.x n with ⟨h1, h2⟩ | ⟨h1, h2, h3⟩ | ⟨h1, h2, u, h3⟩
    · have e : ((2 : Int) != 0) = true := rfl
      rw [if_neg (by rw [h1]; decide)]
      simp only [ZaV, Zcf n hk hn, Option.bind_some, lt1, g1, Bool.false_eq_true, if_false, hm, ht, Bool.not_true, h1, e, if_true]; rfl
    · have e : ((6 : Int) != 0) = true := rfl
      rw [if_neg (by rw [h1]; decide)]
      simp only [ZaV, Zcf n hk hn, Option.bind_some, lt1, g1, Bool.false_eq_true, if_false, hm, ht, Bool.not_true, h1, e, if_true]; rfl
    · have e : ((0 : Int) != 0) = false := rfl
      rw [if_pos h1, ZbP h3]
      have hg : ZbF (some s.x) n = some u := h3
      obtain ⟨q, q1, q2⟩ := Zko s h hw (mput t u (mdel n s.x)) n t (some u) (k := k) (fun c f d w => by simp only [Zbg, hg, andO, Option.bind_some, lt1])
      simp only [ZaV, Zcf n hk hn, Option.bind_some, lt1, g1, Bool.false_eq_true, if_false, hm, ht, Bool.not_true, h1, e, if_true, h3, q1]
      exact congrArg some q2
  · have ht : mayN t = false := by simpa using ht
    rw [if_pos ht]
    simp only [ZaV, Zcf n hk hn, Option.bind_some, lt1, g1, Bool.false_eq_true, if_false, hm, ht, Bool.not_false, if_true]; rfl
theorem ZiS {k : Nat} (s : DS) (h : DInv s) (hw : s.writes < 9223372036854775807) (n : List UInt8) (hk : n.length < k) (hn : n.length ≤ 1000000) : Zbe k n s.cap s.fuse s.dead s.writes s.x = some (tup (ZeT s n)) := by
  unfold ZeT
  rcases Zca s.x n with ⟨h1, h2⟩ | ⟨h1, h2, h3⟩ | ⟨h1, h2, u, h3⟩
  · have e : ((2 : Int) != 0) = true := rfl
    rw [if_neg (by rw [h1]; decide)]
    simp only [Zbe, Zcf n hk hn, Option.bind_some, lt1, h1, e, if_true]; rfl
  · have e : ((6 : Int) != 0) = true := rfl
    rw [if_neg (by rw [h1]; decide)]
    simp only [Zbe, Zcf n hk hn, Option.bind_some, lt1, h1, e, if_true]; rfl
  · have e : ((0 : Int) != 0) = false := rfl
    rw [if_pos h1]
    obtain ⟨q, q1, q2⟩ := Zkm s h hw (mdel n s.x) n (k := k) (fun c f d w => rfl)
    simp only [Zbe, Zcf n hk hn, Option.bind_some, lt1, h1, e, Bool.false_eq_true, if_false, q1]
    exact congrArg some q2
theorem ZfH {k : Nat} (n : List UInt8) (hk : n.length < k) (hn : n.length ≤ 1000000) (s : DS) (h : DInv s) (c f : Int) (d : Bool) (w : Int) : ZaP k n c f d w s.x = some (if fnd s.x n = 0 then (old s.x n).b else [], fnd s.x n) := by
  rcases Zca s.x n with ⟨h1, h2⟩ | ⟨h1, h2, h3⟩ | ⟨h1, h2, u, h3⟩
  · have e : ((2 : Int) != 0) = true := rfl
    simp only [ZaP, Zcf n hk hn, Option.bind_some, lt1, h1, e, if_true]; rfl
  · have e : ((6 : Int) != 0) = true := rfl
    simp only [ZaP, Zcf n hk hn, Option.bind_some, lt1, h1, e, if_true]; rfl
  · have e : ((0 : Int) != 0) = false := rfl
    have hg : ZbF (some s.x) n = some u := h3
    simp only [ZaP, Zcf n hk hn, Option.bind_some, lt1, h1, e, Bool.false_eq_true, if_false, if_true, h3, hg, Zgp k u.b (by have := h.size h3; omega), ZbP h3]
theorem ZgB {k : Nat} (n : List UInt8) (hk : n.length < k) (hn : n.length ≤ 1000000) (x : Mp) (c f : Int) (d : Bool) (w : Int) : Za1 k n c f d w x = some (if fnd x n = 0 then (old x n).lasts else 0, fnd x n) := by
  rcases Zca x n with ⟨h1, h2⟩ | ⟨h1, h2, h3⟩ | ⟨h1, h2, u, h3⟩
  · have e : ((2 : Int) != 0) = true := rfl
    simp only [Za1, Zcf n hk hn, Option.bind_some, lt1, h1, e, if_true]; rfl
  · have e : ((6 : Int) != 0) = true := rfl
    simp only [Za1, Zcf n hk hn, Option.bind_some, lt1, h1, e, if_true]; rfl
  · have e : ((0 : Int) != 0) = false := rfl
    have hg : ZbF (some x) n = some u := h3
    simp only [Za1, Zcf n hk hn, Option.bind_some, lt1, h1, e, Bool.false_eq_true, if_false, if_true, h3, hg, ZbP h3]
theorem Zhu (k : Nat) (n c f : Int) (d : Bool) (w : Int) (x : Mp) : ZbH k n c f d w x = some (maxI n (-1)) := rfl
structure XInv (cap : Int) (x : Mp) : Prop where
  kn : (x.map Prod.fst).Nodup
  tot : (tot sz x : Int) ≤ cap
  lasts : ∀ e ∈ x, 0 ≤ e.2.lasts ∧ e.2.lasts ≤ e.2.b.length
  names : ∀ e ∈ x, mayN e.1 = true
  len : x.length ≤ 64
theorem DInv.X {s : DS} (h : DInv s) : XInv s.cap s.x := ⟨h.kn, h.tot, h.lasts, h.names, h.len⟩
theorem DInv.of {s : DS} (h : DInv s) {x : Mp} {f w : Int} {d : Bool} (hx : XInv s.cap x) (h1 : -1 ≤ f) (h2 : f ≤ 9223372036854775807) (h3 : 0 ≤ w) : DInv ⟨s.cap, f, d, w, x⟩ := ⟨h.cap1, h.cap2, h1, h2, h3, hx.kn, hx.tot, hx.lasts, hx.names, hx.len⟩
theorem Zg9 {s : DS} (h : DInv s) {a b : Mp} (ha : XInv s.cap a) (hb : XInv s.cap b) : DInv (wr s a b).2 ∧ (wr s a b).2.cap = s.cap ∧ (wr s a b).2.writes ≤ s.writes + 1 := by
  have h1 := h.fuse1; have h2 := h.fuse2; have h3 := h.wr1
  unfold wr
  by_cases hd : s.dead = true
  · rw [if_pos hd]; exact ⟨h, rfl, by show s.writes ≤ s.writes + 1; omega⟩
  · rw [if_neg hd]
    by_cases hz : s.fuse = 0
    · rw [if_pos hz]; exact ⟨h.of hb h1 h2 (by omega), rfl, Int.le_refl _⟩
    · rw [if_neg hz]
      refine ⟨h.of ha ?_ ?_ (by omega), rfl, Int.le_refl _⟩ <;> split <;> omega
theorem XInv.put {cap : Int} {x : Mp} (h : XInv cap x) {n : List UInt8} {u f : Zaf} (hg : mget n x = some u) (hf : f.b.length ≤ u.b.length) (hl : 0 ≤ f.lasts ∧ f.lasts ≤ f.b.length) : XInv cap (mput n f x) := by
  refine ⟨Zfg _ _ _ h.kn, ?_, fun e he => ?_, fun e he => ?_, ?_⟩
  · have h1 := Zhq sz n f x
    rw [hg] at h1
    simp only [Option.map_some, Option.getD_some, sz] at h1
    have := h.tot
    omega
  · rcases ZeM he with rfl | he
    · exact hl
    · exact h.lasts e he
  · rcases ZeM he with rfl | he
    · show mayN n = true; exact h.names (n, u) (Zdw hg)
    · exact h.names e he
  · rw [ZhE, hg]; exact h.len
theorem XInv.del {cap : Int} {x : Mp} (h : XInv cap x) (n : List UInt8) : XInv cap (mdel n x) := by
  refine ⟨Zgu h.kn, ?_, fun e he => h.lasts e (Zh9 he), fun e he => h.names e (Zh9 he), ?_⟩
  · have h1 := ZgJ sz n x
    have := h.tot
    omega
  · have := h.len
    rw [Zi2]; split <;> omega
theorem Zkj {cap : Int} {x : Mp} (h : XInv cap x) (n : List UInt8) : 0 ≤ (old x n).lasts ∧ (old x n).lasts ≤ (old x n).b.length := by
  unfold old
  cases hg : mget n x with
  | none => exact ⟨Int.le_refl _, Int.le_refl _⟩
  | some u => exact h.lasts _ (Zdw hg)
theorem XInv.lay {s : DS} (h : DInv s) {n b : List UInt8} (hn : mayN n = true) (hf : ¬ full s n b) : XInv s.cap (lay s.x n b) := by
  have hX := h.X
  have hroom : (b.length : Int) ≤ s.cap - (_root_.Go.Proofs.Ytipchpbcjkhnaaa.tot sz s.x : Int) := Int.not_lt.1 fun h => hf (.inl h)
  refine ⟨Zfg _ _ _ h.kn, ?_, fun e he => ?_, fun e he => ?_, ?_⟩
  · have h1 := Zhq sz n ⟨(old s.x n).b ++ b, (old s.x n).lasts⟩ s.x
    have h2 : ((mget n s.x).map sz).getD 0 = (old s.x n).b.length := by
      unfold old
      cases mget n s.x <;> rfl
    rw [h2] at h1
    simp only [sz, List.length_append] at h1
    unfold _root_.Go.Proofs.Ytipchpbcjkhnaaa.lay
    omega
  · rcases ZeM he with rfl | he
    · have := Zkj hX n
      simp only [List.length_append]
      omega
    · exact h.lasts e he
  · rcases ZeM he with rfl | he
    · exact hn
    · exact h.names e he
  · unfold _root_.Go.Proofs.Ytipchpbcjkhnaaa.lay
    rw [ZhE]
    cases hg : mget n s.x with
    | none =>
      have : ¬ s.x.length ≥ 64 := fun h => hf (.inr ⟨hg, h⟩)
      simp; omega
    | some u => simpa using h.len
theorem ZeO {s : DS} (h : DInv s) (n b : List UInt8) : DInv (append s n b).2 ∧ (append s n b).2.cap = s.cap ∧ (append s n b).2.writes ≤ s.writes + 1 := by
  have h0 : DInv s ∧ s.cap = s.cap ∧ s.writes ≤ s.writes + 1 := ⟨h, rfl, by omega⟩
  unfold append
  by_cases hn : mayN n = false
  · rw [if_pos hn]; exact h0
  · rw [if_neg hn]
    have hn : mayN n = true := by simpa using hn
    by_cases hf : full s n b
    · rw [if_pos hf]; exact h0
    · rw [if_neg hf]; exact Zg9 h (XInv.lay h hn hf) (XInv.lay h hn hf)
theorem Zic {s : DS} (h : DInv s) (n : List UInt8) : DInv (sync s n).2 ∧ (sync s n).2.cap = s.cap ∧ (sync s n).2.writes ≤ s.writes + 1 := by
  unfold sync
  rcases Zca s.x n with ⟨h1, h2⟩ | ⟨h1, h2, h3⟩ | ⟨h1, h2, u, h3⟩
  · rw [if_neg (by rw [h1]; decide)]; exact ⟨h, rfl, by show s.writes ≤ s.writes + 1; omega⟩
  · rw [if_neg (by rw [h1]; decide)]; exact ⟨h, rfl, by show s.writes ≤ s.writes + 1; omega⟩
  · rw [if_pos h1, ZbP h3]
    exact Zg9 h (h.X.put h3 (Nat.le_refl _) ⟨by show (0 : Int) ≤ (u.b.length : Int); omega, Int.le_refl _⟩) h.X
theorem Zkz {s : DS} (h : DInv s) (n : List UInt8) (m : Int) : DInv (cut s n m).2 ∧ (cut s n m).2.cap = s.cap ∧ (cut s n m).2.writes ≤ s.writes + 1 := by
  have h0 : ∀ e : Int, DInv (e, s).2 ∧ (e, s).2.cap = s.cap ∧ (e, s).2.writes ≤ s.writes + 1 := fun e => ⟨h, rfl, by show s.writes ≤ s.writes + 1; omega⟩
  unfold cut
  rcases Zca s.x n with ⟨h1, h2⟩ | ⟨h1, h2, h3⟩ | ⟨h1, h2, u, h3⟩
  · rw [if_neg (by rw [h1]; decide)]; split <;> exact h0 _
  · rw [if_neg (by rw [h1]; decide)]; split <;> exact h0 _
  · rw [if_pos h1, ZbP h3]
    by_cases hm : m < 0 ∨ m > u.b.length
    · rw [if_pos hm]; exact h0 _
    · rw [if_neg hm]
      have hl : 0 ≤ u.lasts ∧ u.lasts ≤ u.b.length := h.lasts _ (Zdw h3)
      refine Zg9 h (h.X.put h3 ?_ ?_) h.X
      · simp only [cutF, List.length_take]; omega
      · have : 0 ≤ m ∧ m ≤ u.b.length := ⟨by omega, by omega⟩
        simp only [cutF, List.length_take, minI]
        split <;> omega
theorem Zgf {s : DS} (h : DInv s) (n t : List UInt8) : DInv (ZeC s n t).2 ∧ (ZeC s n t).2.cap = s.cap ∧ (ZeC s n t).2.writes ≤ s.writes + 1 := by
  have h0 : ∀ e : Int, DInv (e, s).2 ∧ (e, s).2.cap = s.cap ∧ (e, s).2.writes ≤ s.writes + 1 := fun e => ⟨h, rfl, by show s.writes ≤ s.writes + 1; omega⟩
  unfold ZeC
  by_cases ht : mayN t = false
  · rw [if_pos ht]; exact h0 _
  · rw [if_neg ht]
    have ht : mayN t = true := by simpa using ht
    rcases Zca s.x n with ⟨h1, h2⟩ | ⟨h1, h2, h3⟩ | ⟨h1, h2, u, h3⟩
    · rw [if_neg (by rw [h1]; decide)]; exact h0 _
    · rw [if_neg (by rw [h1]; decide)]; exact h0 _
    · rw [if_pos h1, ZbP h3]
      have hD := h.X.del n
      refine Zg9 h ⟨Zfg _ _ _ hD.kn, ?_, fun e he => ?_, fun e he => ?_, ?_⟩ h.X
      · have k1 := Zhq sz t u (mdel n s.x)
        have k2 := ZgJ sz n s.x
        rw [h3] at k2
        simp only [Option.map_some, Option.getD_some] at k2
        have := h.tot
        omega
      · rcases ZeM he with rfl | he
        · show 0 ≤ u.lasts ∧ u.lasts ≤ u.b.length; exact h.lasts (n, u) (Zdw h3)
        · exact hD.lasts e he
      · rcases ZeM he with rfl | he
        · exact ht
        · exact hD.names e he
      · have k3 := Zi2 n s.x
        rw [h3] at k3
        simp only [Option.isSome_some, if_true] at k3
        have k4 : 0 < s.x.length := by
          cases hx : s.x with
          | nil => rw [hx] at h3; cases h3
          | cons _ _ => simp
        have := h.len
        rw [ZhE]; split <;> omega
theorem Ziw {s : DS} (h : DInv s) (n : List UInt8) : DInv (ZeT s n).2 ∧ (ZeT s n).2.cap = s.cap ∧ (ZeT s n).2.writes ≤ s.writes + 1 := by
  unfold ZeT
  rcases Zca s.x n with ⟨h1, h2⟩ | ⟨h1, h2, h3⟩ | ⟨h1, h2, u, h3⟩
  · rw [if_neg (by rw [h1]; decide)]; exact ⟨h, rfl, by show s.writes ≤ s.writes + 1; omega⟩
  · rw [if_neg (by rw [h1]; decide)]; exact ⟨h, rfl, by show s.writes ≤ s.writes + 1; omega⟩
  · rw [if_pos h1]; exact Zg9 h (h.X.del n) h.X
def yrun {σ τ α : Type} (Y : σ → α → Option (σ ⊕ τ)) : List α → σ → Option (σ ⊕ τ)
  | [], s => some (.inl s)
  | a :: l, s => match Y s a with
    | none => none
    | some (.inl s') => yrun Y l s'
    | some (.inr t) => some (.inr t)
theorem ZgS {σ τ : Type} (Y : σ → List UInt8 × Int → Option (σ ⊕ τ)) (ns : List (List UInt8)) (ss : List Int) (hl : ns.length = ss.length) (hs : ns.length ≤ 1000000) {r : σ ⊕ τ} : ∀ (d i : Nat) (k : Nat) (s : σ), i + d = ns.length → d < k → yrun Y ((ns.zip ss).drop i) s = some r →
    ∀ k0, ∃ t, Zcl (fun z => disk_Disk_Files_1_ypp_loo.b1 k0 ns ss Y z.1 z.2) k (.inl s, (i : Int)) = some t ∧ (t = .inl r ∨ t = .inr r)
  | 0, i, 0, s, hi, hk, hr, k0 => by omega
  | 0, i, k + 1, s, hi, hk, hr, k0 => by
    have hd : (ns.zip ss).drop i = [] := List.drop_eq_nil_of_le (by rw [List.length_zip]; omega)
    rw [hd] at hr
    have hr : (.inl s : σ ⊕ τ) = r := Option.some.inj hr
    refine ⟨.inl (.inl s), ZdR ?_, .inl (by rw [hr])⟩
    simp only [disk_Disk_Files_1_ypp_loo.b1, lt1, Zbq (show ¬ (i : Int) < (ns.length : Int) by omega), Bool.false_eq_true, if_false]
  | d + 1, i, 0, s, hi, hk, hr, k0 => by omega
  | d + 1, i, k + 1, s, hi, hk, hr, k0 => by
    have h1 : i < ns.length := by omega
    have h2 : i < ss.length := by omega
    have hd : (ns.zip ss).drop i = (ns[i], ss[i]) :: (ns.zip ss).drop (i + 1) := by
      rw [List.drop_eq_getElem_cons (by rw [List.length_zip]; omega)]
      simp
    rw [hd] at hr
    have e1 : inO ns (i : Int) = some i := by rw [ZeR (by omega) (by simpa using h1)]; simp
    have e2 : inO ss (i : Int) = some i := by rw [ZeR (by omega) (by simpa using h2)]; simp
    have e3 : ns[i]? = some ns[i] := List.getElem?_eq_getElem h1
    have e4 : ss[i]? = some ss[i] := List.getElem?_eq_getElem h2
    unfold yrun at hr
    cases hY : Y s (ns[i], ss[i]) with
    | none => rw [hY] at hr; cases hr
    | some y =>
      rw [hY] at hr
      have e5 : yldO Y (.inl s) (ns[i], ss[i]) = some y := hY
      cases y with
      | inl s' =>
        obtain ⟨t, t1, t2⟩ := ZgS Y ns ss hl hs d (i + 1) k s' (by omega) (by omega) hr k0
        refine ⟨t, ?_, t2⟩
        rw [ZdO (s' := (.inl s', ((i + 1 : Nat) : Int)))]
        · exact t1
        · simp only [disk_Disk_Files_1_ypp_loo.b1, lt1, Zbz (show (i : Int) < (ns.length : Int) by omega), if_true, e1, e2, e3, e4, Option.bind_some, e5, Sum.isLeft, Bool.not_true, Bool.false_eq_true, if_false, Zcm (show i < 9223372036854775807 by omega)]
      | inr t =>
        have hr : (.inr t : σ ⊕ τ) = r := Option.some.inj hr
        refine ⟨.inr (.inr t), ZdR ?_, .inr (by rw [hr])⟩
        simp only [disk_Disk_Files_1_ypp_loo.b1, lt1, Zbz (show (i : Int) < (ns.length : Int) by omega), if_true, e1, e2, e3, e4, Option.bind_some, e5, Sum.isLeft, Bool.not_false]
theorem ZfT {σ τ : Type} {k : Nat} (Y : σ → List UInt8 × Int → Option (σ ⊕ τ)) (ns : List (List UInt8)) (ss : List Int) (hl : ns.length = ss.length) (hk : ns.length < k) (hs : ns.length ≤ 1000000) {s : σ} {r : σ ⊕ τ} (hr : yrun Y (ns.zip ss) s = some r) : disk_Disk_Files_1_ypp_loo k Y (.inl s) ns ss = some r := by
  obtain ⟨t, t1, t2⟩ := ZgS Y ns ss hl hs ns.length 0 k s (by omega) hk (by rw [List.drop_zero]; exact hr) k
  have t1 : Zcl (fun z => disk_Disk_Files_1_ypp_loo.b1 k ns ss Y z.1 z.2) k (.inl s, (0 : Int)) = some t := t1
  simp only [disk_Disk_Files_1_ypp_loo, t1, Option.bind_some]
  rcases t2 with rfl | rfl <;> rfl
def names (x : Mp) : List (List UInt8) := (x.map Prod.fst).mergeSort fun a b => decide (a ≤ b)
def Zc0 (x : Mp) : List Int := (names x).map fun n => ((old x n).b.length : Int)
theorem ZdM (x : Mp) : (names x).Perm (x.map Prod.fst) := List.mergeSort_perm _ _
theorem ZeA (x : Mp) : (names x).length = x.length := by rw [(ZdM x).length_eq, List.length_map]
theorem Zdd {x : Mp} {n : List UInt8} : n ∈ names x ↔ ∃ u, mget n x = some u := by
  rw [(ZdM x).mem_iff]
  constructor
  · intro h
    cases hg : mget n x with
    | none => exact absurd h (Zdg.1 hg)
    | some u => exact ⟨u, rfl⟩
  · rintro ⟨u, hu⟩
    exact List.mem_map.2 ⟨_, Zdw hu, rfl⟩
theorem ZfA {k : Nat} (s : DS) (h : DInv s) (hk : 64 < k) (c f : Int) (d : Bool) (w : Int) : disk_Disk_Files_p_smvvvvm k c f d w s.x = some (names s.x, Zc0 s.x) := by
  have hlen := h.len
  have hnl := ZeA s.x
  have h1 : Zhs (some s.x) = some (names s.x) := by
    have hall : (s.x.all fun p => decide (p.1.length ≤ 140737488355328)) = true := List.all_eq_true.2 fun p hp => by
      have := h.names p hp
      simp only [mayN, Bool.and_eq_true, decide_eq_true_eq] at this
      exact decide_eq_true (by omega)
    unfold Zhs
    simp only [Option.bind_some]
    rw [if_pos ⟨by omega, hall⟩]
    rfl
  have h2 : Zcl (fun z => disk_Disk_Files_p_smvvvvm.b1 k (names s.x) s.x z.1 z.2) k (([] : List Int), (0 : Int)) = some (Zc0 s.x) := by
    refine ZjL (names s.x).length (fun i => (Zc0 s.x).take i) _ (fun i hi => ?_) ?_ (by omega) (by simp)
    · obtain ⟨u, hu⟩ := Zdd.1 (List.getElem_mem hi)
      have e1 : inO (names s.x) (i : Int) = some i := by rw [ZeR (by omega) (by simpa using hi)]; simp
      have e3 : (names s.x)[i]? = some (names s.x)[i] := List.getElem?_eq_getElem hi
      have e4 : ZbF (some s.x) (names s.x)[i] = some u := hu
      have hsl : (Zc0 s.x).length = (names s.x).length := by simp [Zc0]
      have e5 : (Zc0 s.x).take (i + 1) = (Zc0 s.x).take i ++ [(u.b.length : Int)] := by
        rw [List.take_succ_eq_append_getElem (by omega)]
        simp [Zc0, ZbP hu]
      simp only [disk_Disk_Files_p_smvvvvm.b1, lt1, Zbz (show (i : Int) < ((names s.x).length : Int) by omega), if_true, e1, e3, e4, Option.bind_some, ZcD (show (((Zc0 s.x).take i).length + [(u.b.length : Int)].length) * 8 ≤ 140737488355328 by simp [List.length_take]; omega), Zcm (show i < 9223372036854775807 by omega), e5]
    · simp only [disk_Disk_Files_p_smvvvvm.b1, lt1, Zbq (show ¬ ((names s.x).length : Int) < ((names s.x).length : Int) by omega), Bool.false_eq_true, if_false]
      rw [List.take_of_length_le (by simp [Zc0])]
  simp only [disk_Disk_Files_p_smvvvvm, ZcT, Option.bind_some, Za3, h1, h2]
theorem Zhi : ∀ (l m : Mp), ((m ++ l).map Prod.fst).Nodup → l.foldl (fun x e => mput e.1 e.2 x) m = m ++ l
  | [], m, _ => by simp
  | e :: l, m, h => by
    have h1 : mget e.1 m = none := by
      rw [Zdg]
      intro hm
      rw [List.map_append, List.nodup_append] at h
      exact h.2.2 _ hm _ (by simp) rfl
    have h2 : mput e.1 e.2 m = m ++ [e] := by
      have hk := Zdg.1 h1
      unfold mput
      cases hp : mpos e.1 m with
      | none => rfl
      | some i =>
        exfalso
        have : ∀ (m : Mp) i, mpos e.1 m = some i → e.1 ∈ m.map Prod.fst := by
          intro m
          induction m with
          | nil => intro i h; cases h
          | cons q m ih =>
            intro i h
            by_cases hq : e.1 = q.1
            · simp [hq]
            · simp only [mpos, hq, if_false, Option.map_eq_some_iff] at h
              obtain ⟨j, hj, _⟩ := h
              exact List.mem_cons_of_mem _ (ih j hj)
        exact hk (this m i hp)
    rw [List.foldl_cons, h2, Zhi l (m ++ [e]) (by simpa using h)]
    simp
theorem Zie (k : Nat) (s : DS) (h : DInv s) (c f : Int) (d : Bool) (w : Int) : disk_Disk_Copy_p_smvvvvm k c f d w s.x = some (Zec s.x) := by
  have h1 : ZfQ (Option.getD (some s.x) []) (fun z e => disk_Disk_Copy_p_smvvvvm.b1 k s.x z e) (fun z => disk_Disk_Copy_p_smvvvvm.f1 k z) ([] : Mp) = some (Zec s.x) := by
    refine Zhl fun l hl => ?_
    have hl : l.Perm s.x := hl
    rw [Zgv (g := fun x e => mput e.1 e.2 x) (fun _ => True) trivial]
    · rw [Zhi l [] (by simpa using (hl.map Prod.fst).symm.nodup h.kn)]
      simp only [List.nil_append, disk_Disk_Copy_p_smvvvvm.f1, lt1, ZjV hl]
    · intro z e he _
      have hu : ZbF (some s.x) e.1 = some e.2 := Zem h.kn (show (e.1, e.2) ∈ s.x from hl.mem_iff.1 he)
      have hz : e.2.b.length ≤ 16777216 := h.size (n := e.1) hu
      exact ⟨by simp only [disk_Disk_Copy_p_smvvvvm.b1, hu, Option.bind_some, Zgp k e.2.b (by omega), lt1], trivial⟩
  simp only [disk_Disk_Copy_p_smvvvvm, ZcT, Option.bind_some, h1]
def kept (keep : List Int) (i : Nat) (loose : Int) : Int := if i < keep.length ∧ keep.getD i 0 > 0 then (keep.getD i 0).tmod (loose + 1) else 0
def lose (keep : List Int) (q : Mp × Nat) (n : List UInt8) : Mp × Nat :=
  let u := old q.1 n
  if (u.b.length : Int) - u.lasts = 0 then q else (mput n ⟨u.b.take (u.lasts + kept keep q.2 ((u.b.length : Int) - u.lasts)).toNat, u.lasts + kept keep q.2 ((u.b.length : Int) - u.lasts)⟩ q.1, q.2 + 1)
noncomputable def Zfk (keep : List Int) (x : Mp) : Mp × Nat := (names x).foldl (lose keep) (Zec x, 0)
theorem ZeK (keep : List Int) (i : Nat) {l : Int} (hl : 0 < l) : 0 ≤ kept keep i l ∧ kept keep i l ≤ l := by
  unfold kept
  split
  · rename_i h
    have h1 := Int.tmod_nonneg (l + 1) (show 0 ≤ keep.getD i 0 by omega)
    have h2 := Int.tmod_lt_of_pos (keep.getD i 0) (show 0 < l + 1 by omega)
    omega
  · omega
theorem ZkT (k : Nat) (keep : List Int) (x : Mp) (i : Nat) (n : List UInt8) (z : Int) {u : Zaf} (hu : mget n x = some u) (hl : 0 ≤ u.lasts ∧ u.lasts ≤ u.b.length) (hb : u.b.length ≤ 16777216) (hi : i ≤ 1000000) :
    disk_Disk_Crash_pv_smvvvvm.y1 k keep x (i : Int) n z = some (.inl ((lose keep (x, i) n).1, ((lose keep (x, i) n).2 : Int))) := by
  have hg : ZbF (some x) n = some u := hu
  have e1 : w64 ((u.b.length : Int) - u.lasts) = (u.b.length : Int) - u.lasts := Zch (by omega) (by omega)
  unfold lose
  simp only [ZbP hu]
  by_cases hz : (u.b.length : Int) - u.lasts = 0
  · have hz' : ((u.b.length : Int) - u.lasts == 0) = true := by rw [hz]; rfl
    rw [if_pos hz]
    simp only [disk_Disk_Crash_pv_smvvvvm.y1, lt1, hg, Option.bind_some, e1, hz', if_true]
  · have hz' : ((u.b.length : Int) - u.lasts == 0) = false := by simpa using hz
    rw [if_neg hz]
    have hp : 0 < (u.b.length : Int) - u.lasts := by omega
    have hkr := ZeK keep i hp
    have e2 : w64 ((u.b.length : Int) - u.lasts + 1) = (u.b.length : Int) - u.lasts + 1 := Zch (by omega) (by omega)
    have e3 : w64 (u.lasts + kept keep i ((u.b.length : Int) - u.lasts)) = u.lasts + kept keep i ((u.b.length : Int) - u.lasts) := Zch (by omega) (by omega)
    have q1 : ∀ v : Int, Zdz x n (fun u => { u with lasts := v }) = some (mput n { u with lasts := v } x) := fun v => by simp only [Zdz, hu, Option.map_some]
    have q2 : ∀ v : Int, ZbF (some (mput n { u with lasts := v } x)) n = some { u with lasts := v } := fun v => by show mget n _ = _; rw [ZbT, if_pos rfl]
    have q3 : ∀ (v : Int) (b : List UInt8), Zdz (mput n { u with lasts := v } x) n (fun u => { u with b := b }) = some (mput n ⟨b, v⟩ x) := fun v b => by simp only [Zdz, ZbT, if_true, Option.map_some, Zfc]
    have q4 : ∀ v : Int, 0 ≤ v → v ≤ u.b.length → subL u.b 0 v = some (u.b.take v.toNat) := fun v h0 h1 => by rw [ZeY (by omega) (by omega) (by omega)]; simp
    have hm : ∀ v : Int, modI v ((u.b.length : Int) - u.lasts + 1) = some (v.tmod ((u.b.length : Int) - u.lasts + 1)) := fun v => by unfold modI; rw [if_neg (by omega)]
    have e4 := Zcm (show i < 9223372036854775807 by omega)
    by_cases hlt : i < keep.length
    · have g1 := Ze6 hlt
      have g2 : keep.getD i 0 = keep[i] := by simp [List.getD_eq_getElem?_getD, hlt]
      by_cases hpos : keep[i] > 0
      · have hk : kept keep i ((u.b.length : Int) - u.lasts) = keep[i].tmod ((u.b.length : Int) - u.lasts + 1) := by unfold kept; rw [if_pos ⟨hlt, by rw [g2]; exact hpos⟩, g2]
        rw [hk] at e3 hkr ⊢
        simp only [disk_Disk_Crash_pv_smvvvvm.y1, lt1, hg, Option.bind_some, e1, hz', Bool.false_eq_true, if_false, Zbz (show (i : Int) < (keep.length : Int) by omega), if_true, g1, Zbz hpos, cond_true, e2, hm, e4, e3, q1, q2, q4 _ (show 0 ≤ u.lasts + keep[i].tmod ((u.b.length : Int) - u.lasts + 1) by omega) (by omega), q3]
      · have hk : kept keep i ((u.b.length : Int) - u.lasts) = 0 := by unfold kept; rw [if_neg (fun h => hpos (by rw [← g2]; exact h.2))]
        rw [hk] at e3 hkr ⊢
        simp only [disk_Disk_Crash_pv_smvvvvm.y1, lt1, hg, Option.bind_some, e1, hz', Bool.false_eq_true, if_false, Zbz (show (i : Int) < (keep.length : Int) by omega), if_true, g1, Zbq hpos, cond_true, e4, e3, q1, q2, q4 _ (show 0 ≤ u.lasts + 0 by omega) (by omega), q3]
    · have hk : kept keep i ((u.b.length : Int) - u.lasts) = 0 := by unfold kept; rw [if_neg (fun h => hlt h.1)]
      rw [hk] at e3 hkr ⊢
      simp only [disk_Disk_Crash_pv_smvvvvm.y1, lt1, hg, Option.bind_some, e1, hz', Bool.false_eq_true, if_false, Zbq (show ¬ (i : Int) < (keep.length : Int) by omega), cond_false, e4, e3, q1, q2, q4 _ (show 0 ≤ u.lasts + 0 by omega) (by omega), q3]
theorem XInv.perm {cap : Int} {x y : Mp} (h : XInv cap x) (hp : x.Perm y) : XInv cap y :=
  ⟨(hp.map Prod.fst).nodup h.kn, by rw [← ZgC sz hp]; exact h.tot, fun e he => h.lasts e (hp.mem_iff.2 he), fun e he => h.names e (hp.mem_iff.2 he), by rw [← hp.length_eq]; exact h.len⟩
theorem Zh3 {cap : Int} {x : Mp} (h : XInv cap x) (keep : List Int) (i : Nat) {n : List UInt8} {u : Zaf} (hu : mget n x = some u) : XInv cap (lose keep (x, i) n).1 := by
  unfold lose
  simp only [ZbP hu]
  have hl : 0 ≤ u.lasts ∧ u.lasts ≤ u.b.length := h.lasts _ (Zdw hu)
  split
  · exact h
  · have hk := ZeK keep i (show 0 < (u.b.length : Int) - u.lasts by omega)
    refine h.put hu ?_ ?_
    · simp only [List.length_take]; omega
    · simp only [List.length_take]; omega
theorem ZgE {x : Mp} (keep : List Int) (i : Nat) {n : List UInt8} {u : Zaf} (hu : mget n x = some u) (m : List UInt8) (hm : m ≠ n) : mget m (lose keep (x, i) n).1 = mget m x := by
  unfold lose
  simp only [ZbP hu]
  split
  · rfl
  · rw [ZbT, if_neg hm]
theorem ZjK (keep : List Int) (q : Mp × Nat) (n : List UInt8) : (lose keep q n).2 ≤ q.2 + 1 := by
  unfold lose
  simp only
  split <;> simp
theorem ZhV (k : Nat) (keep : List Int) {cap : Int} (hcap : cap ≤ 16777216) : ∀ (l : List (List UInt8 × Int)) (x : Mp) (i : Nat), XInv cap x → (l.map Prod.fst).Nodup → (∀ e ∈ l, ∃ u, mget e.1 x = some u) → i + l.length ≤ 1000000 →
    yrun (fun (s : Mp × Int) (u : List UInt8 × Int) => disk_Disk_Crash_pv_smvvvvm.y1 k keep s.1 s.2 u.1 u.2) l (x, (i : Int)) = some (.inl ((((l.map Prod.fst).foldl (lose keep) (x, i)).1, (((l.map Prod.fst).foldl (lose keep) (x, i)).2 : Int))))
  | [], x, i, _, _, _, _ => rfl
  | e :: l, x, i, hx, hn, hg, hi => by
    obtain ⟨u, hu⟩ := hg e (List.mem_cons_self ..)
    have hl : 0 ≤ u.lasts ∧ u.lasts ≤ u.b.length := hx.lasts _ (Zdw hu)
    have hb : u.b.length ≤ 16777216 := by
      have h1 := ZgJ sz e.1 x
      rw [hu] at h1
      simp only [Option.map_some, Option.getD_some, sz] at h1
      have := hx.tot
      omega
    simp only [List.length_cons] at hi
    have hy := ZkT k keep x i e.1 e.2 hu hl hb (by omega)
    have hn' := List.nodup_cons.1 hn
    have hli := ZjK keep (x, i) e.1
    have ih := ZhV k keep hcap l (lose keep (x, i) e.1).1 (lose keep (x, i) e.1).2 (Zh3 hx keep i hu) hn'.2 (fun f hf => by
      obtain ⟨v, hv⟩ := hg f (List.mem_cons_of_mem _ hf)
      exact ⟨v, by rw [ZgE keep i hu _ (fun h => hn'.1 (by rw [← h]; exact List.mem_map.2 ⟨f, hf, rfl⟩))]; exact hv⟩) (by simp only at hli; omega)
    simp only [yrun, hy, List.map_cons, List.foldl_cons]
    exact ih
theorem ZhZ {k : Nat} (hk : 64 < k) (keep : List Int) (s : DS) (h : DInv s) (c f : Int) (d : Bool) (w : Int) : disk_Disk_Crash_pv_smvvvvm k keep c f d w s.x = some (Zfk keep s.x).1 := by
  have hp := ZdN s.x
  have hnl := ZeA s.x
  have hlen := h.len
  have hsl : (names s.x).length = (Zc0 s.x).length := by simp [Zc0]
  have hz : ((names s.x).zip (Zc0 s.x)).map Prod.fst = names s.x := List.map_fst_zip (by omega)
  have hnn : (names s.x).Nodup := (ZdM s.x).symm.nodup h.kn
  have h1 := ZhV k keep h.cap2 ((names s.x).zip (Zc0 s.x)) (Zec s.x) 0 (h.X.perm hp) (by rw [hz]; exact hnn) (fun e he => by
    have : e.1 ∈ names s.x := by rw [← hz]; exact List.mem_map.2 ⟨e, he, rfl⟩
    obtain ⟨u, hu⟩ := Zdd.1 this
    exact ⟨u, by rw [← Zeb h.kn hp]; exact hu⟩) (by rw [List.length_zip]; omega)
  rw [hz] at h1
  have h2 := ZfT (k := k) _ (names s.x) (Zc0 s.x) hsl (by omega) (by omega) h1
  simp only [disk_Disk_Crash_pv_smvvvvm, Zie k s h, ZfA s h hk, Option.bind_some]
  have h2 : disk_Disk_Files_1_ypp_loo k (fun (s : Mp × Int) (u : List UInt8 × Int) => disk_Disk_Crash_pv_smvvvvm.y1 k keep s.1 s.2 u.1 u.2) (Sum.inl (Zec s.x, (0 : Int))) (names s.x) (Zc0 s.x) = _ := h2
  rw [h2]
  rfl
theorem D0 (c : Int) (h1 : 1 ≤ c) (h2 : c ≤ 16777216) : DInv ⟨c, -1, false, 0, []⟩ :=
  ⟨h1, h2, show (-1 : Int) ≤ -1 by decide, show (-1 : Int) ≤ 9223372036854775807 by decide, show (0 : Int) ≤ 0 by decide, by simp, by simp only [tot, List.map_nil, List.sum_nil]; omega, by simp, by simp, by simp⟩
theorem Zj4 (k : Nat) (c : Int) (h1 : 1 ≤ c) (h2 : c ≤ 16777216) : Zdx k c = some (.inl ()) := by
  simp only [Zdx, lt1, Zbq (show ¬ c < 1 by omega), Zbq (show ¬ c > 16777216 by omega), cond_false, Option.bind_some, Bool.false_eq_true, if_false]
theorem ZiR (keep : List Int) (n : List UInt8) (u : Zaf) : (Zfk keep [(n, u)]).1 = (lose keep ([(n, u)], 0) n).1 := by
  have h1 : Zec [(n, u)] = [(n, u)] := List.singleton_perm.1 (ZdN [(n, u)]) |>.symm
  unfold Zfk names
  rw [h1]
  simp only [List.map_cons, List.map_nil, List.mergeSort_singleton, List.foldl_cons, List.foldl_nil]
theorem ZkV {k : Nat} (hk : 1000 ≤ k) : ZcG k = some true := by
  have i0 := D0 9 (by decide) (by decide)
  have a1 : append ⟨9, -1, false, 0, []⟩ [97] [120, 121, 122] = (0, ⟨9, -1, false, 1, [([97], ⟨[120, 121, 122], 0⟩)]⟩) := rfl
  have i1 := (ZeO i0 [97] [120, 121, 122]).1
  have e1 := Zex (k := k) _ i0 (by decide) [97] [120, 121, 122] (by simp; omega) (by decide) (by decide)
  rw [a1] at i1 e1
  have a2 : sync ⟨9, -1, false, 1, [([97], ⟨[120, 121, 122], 0⟩)]⟩ [97] = (0, ⟨9, -1, false, 2, [([97], ⟨[120, 121, 122], 3⟩)]⟩) := rfl
  have i2 := (Zic i1 [97]).1
  have e2 := Zjp (k := k) _ i1 (by decide) [97] (by simp; omega) (by decide)
  rw [a2] at i2 e2
  have a3 : append ⟨9, -1, false, 2, [([97], ⟨[120, 121, 122], 3⟩)]⟩ [97] [117, 118] = (0, ⟨9, -1, false, 3, [([97], ⟨[120, 121, 122, 117, 118], 3⟩)]⟩) := rfl
  have i3 := (ZeO i2 [97] [117, 118]).1
  have e3 := Zex (k := k) _ i2 (by decide) [97] [117, 118] (by simp; omega) (by decide) (by decide)
  rw [a3] at i3 e3
  have e4 := fun c f d w => ZhZ (k := k) (by omega) [1] _ i3 c f d w
  have a4 : (Zfk [1] [([97], (⟨[120, 121, 122, 117, 118], 3⟩ : Zaf))]).1 = [([97], ⟨[120, 121, 122, 117], 4⟩)] := by rw [ZiR]; rfl
  simp only [a4] at e4
  have i4 : DInv ⟨9, -1, false, 0, [([97], ⟨[120, 121, 122, 117], 4⟩)]⟩ :=
    ⟨by decide, by decide, by decide, by decide, by decide, by simp, by simp [tot, sz], by simp, by simp; rfl, by simp⟩
  have e5 := fun c f d w => ZfH (k := k) [97] (by simp; omega) (by decide) _ i4 c f d w
  have a5 : fnd [([97], (⟨[120, 121, 122, 117], 4⟩ : Zaf))] [97] = 0 := rfl
  have b5 : old [([97], (⟨[120, 121, 122, 117], 4⟩ : Zaf))] [97] = ⟨[120, 121, 122, 117], 4⟩ := rfl
  simp only [a5, b5, if_true] at e5
  have e6 := fun c f d w => ZgB (k := k) [97] (by simp; omega) (by decide) [([97], (⟨[120, 121, 122, 117, 118], 3⟩ : Zaf))] c f d w
  have a6 : fnd [([97], (⟨[120, 121, 122, 117, 118], 3⟩ : Zaf))] [97] = 0 := rfl
  have b6 : old [([97], (⟨[120, 121, 122, 117, 118], 3⟩ : Zaf))] [97] = ⟨[120, 121, 122, 117, 118], 3⟩ := rfl
  simp only [a6, b6, if_true] at e6
  have j3 : DInv ⟨9, 1, false, 3, [([97], ⟨[120, 121, 122, 117, 118], 3⟩)]⟩ := i3.of i3.X (by decide) (by decide) (by decide)
  have a7 : ZeC ⟨9, 1, false, 3, [([97], ⟨[120, 121, 122, 117, 118], 3⟩)]⟩ [97] [98] = (0, ⟨9, 0, false, 4, [([98], ⟨[120, 121, 122, 117, 118], 3⟩)]⟩) := rfl
  have i7 := (Zgf j3 [97] [98]).1
  have e7 := ZgR (k := k) _ j3 (by decide) [97] [98] (by simp; omega) (by decide) (by simp; omega) (by decide)
  rw [a7] at i7 e7
  have a8 : append ⟨9, 0, false, 4, [([98], ⟨[120, 121, 122, 117, 118], 3⟩)]⟩ [98] [119] = (8, ⟨9, 0, true, 5, [([98], ⟨[120, 121, 122, 117, 118, 119], 3⟩)]⟩) := rfl
  have i8 := (ZeO i7 [98] [119]).1
  have e8 := Zex (k := k) _ i7 (by decide) [98] [119] (by simp; omega) (by decide) (by decide)
  rw [a8] at i8 e8
  have e9 := fun c f d w => ZfH (k := k) [98] (by simp; omega) (by decide) _ i8 c f d w
  have a9 : fnd [([98], (⟨[120, 121, 122, 117, 118, 119], 3⟩ : Zaf))] [98] = 0 := rfl
  have b9 : old [([98], (⟨[120, 121, 122, 117, 118, 119], 3⟩ : Zaf))] [98] = ⟨[120, 121, 122, 117, 118, 119], 3⟩ := rfl
  simp only [a9, b9, if_true] at e9
  have f9 := fun c f d w => ZfH (k := k) [99] (by simp; omega) (by decide) _ i8 c f d w
  have c9 : fnd [([98], (⟨[120, 121, 122, 117, 118, 119], 3⟩ : Zaf))] [99] = 6 := rfl
  simp only [c9] at f9
  have a10 : cut ⟨9, 0, true, 5, [([98], ⟨[120, 121, 122, 117, 118, 119], 3⟩)]⟩ [98] 0 = (8, ⟨9, 0, true, 5, [([98], ⟨[120, 121, 122, 117, 118, 119], 3⟩)]⟩) := rfl
  have e10 := Zkb (k := k) _ i8 (by decide) [98] 0 (by simp; omega) (by decide)
  rw [a10] at e10
  have a11 : append ⟨9, 0, true, 5, [([98], ⟨[120, 121, 122, 117, 118, 119], 3⟩)]⟩ [66] [120] = (2, ⟨9, 0, true, 5, [([98], ⟨[120, 121, 122, 117, 118, 119], 3⟩)]⟩) := rfl
  have e11 := Zex (k := k) _ i8 (by decide) [66] [120] (by simp; omega) (by decide) (by decide)
  rw [a11] at e11
  have a12 : append ⟨9, 0, true, 5, [([98], ⟨[120, 121, 122, 117, 118, 119], 3⟩)]⟩ [98] (List.replicate 99 0) = (5, ⟨9, 0, true, 5, [([98], ⟨[120, 121, 122, 117, 118, 119], 3⟩)]⟩) := rfl
  have e12 := Zex (k := k) _ i8 (by decide) [98] (List.replicate 99 0) (by simp; omega) (by decide) (by decide)
  rw [a12] at e12
  have m : mkL 1 (99 : Int) (0 : UInt8) = some (List.replicate 99 0) := rfl
  generalize List.replicate 99 (0 : UInt8) = z at m e12
  simp only [tup] at e1 e2 e3 e7 e8 e10 e11 e12
  have fu : maxI 1 (-1) = 1 := rfl
  have w0 : w64 ((0 : Int) + 0) = 0 := Zch (by decide) (by decide)
  simp only [ZcG, Zj4 k 9 (by decide) (by decide), ZaX, Option.bind_some, lt1, e1, e2, e3, w0]
  simp only [show ((0 : Int) != 0) = false from rfl, Bool.false_eq_true, if_false, Option.bind_some, e4, e5, e6, w0, Zhu, fu]
  simp [e4, e5, e6, w0, Zhu, fu, e7, e8, e9, f9, e10, e11, e12, m]
theorem ZfO {S τ : Type} {body : S → Option (S ⊕ τ)} (P : Nat → S → Prop) (Q : τ → Prop) (n : Nat) (hs : ∀ i s, i < n → P i s → (∃ s', body s = some (.inl s') ∧ P (i + 1) s') ∨ ∃ t, body s = some (.inr t) ∧ Q t) (he : ∀ s, P n s → ∃ t, body s = some (.inr t) ∧ Q t) {k : Nat} (hk : n < k) {s : S} (h0 : P 0 s) : ∃ t, Zcl body k s = some t ∧ Q t := by
  have key : ∀ d i k s, i + d = n → d < k → P i s → ∃ t, Zcl body k s = some t ∧ Q t := by
    intro d
    induction d with
    | zero =>
      intro i k s hi hk hP
      obtain ⟨k, rfl⟩ : ∃ j, k = j + 1 := ⟨k - 1, by omega⟩
      have : i = n := by omega
      subst this
      obtain ⟨t, h1, h2⟩ := he s hP
      exact ⟨t, ZdR h1, h2⟩
    | succ d ih =>
      intro i k s hi hk hP
      obtain ⟨k, rfl⟩ : ∃ j, k = j + 1 := ⟨k - 1, by omega⟩
      rcases hs i s (by omega) hP with ⟨s', h1, h2⟩ | ⟨t, h1, h2⟩
      · rw [ZdO h1]
        exact ih (i + 1) k s' (by omega) (by omega) h2
      · exact ⟨t, ZdR h1, h2⟩
  exact key n 0 k s (by omega) hk h0
def Zho (a : Za7) : Prop := a.B.length ≤ 20000 ∧ a.Name.length ≤ 20000 ∧ a.To.length ≤ 20000 ∧ a.Keep.length ≤ 20000
theorem Zkq {k : Nat} (l : List Za7) (most : Int) (hm : most ≤ 1000) (h0 : 0 ≤ most) (hl : l.length ≤ 1466015503701) (hk : 1001 < k) : ∃ b, ref05_Much k l most = some b ∧ (b = false → l.length ≤ most ∧ ∀ a ∈ l, Zho a) := by
  have hL := ZfO (body := fun s => ref05_Much.b1 k l most s.1 s.2) (k := k) (fun i (s : Int × Int) => s.2 = i ∧ 0 ≤ s.1 ∧ s.1 ≤ 20000 ∧ (i ≤ l.length) ∧ (∀ j (h : j < l.length), j < i → Zho l[j])) (fun t => t = .inr true ∨ (t = .inl () ∧ (l.length ≤ most → ∀ a ∈ l, Zho a))) (Nat.min l.length (most.toNat + 1)) (s := (0, 0)) (fun i s hi hP => ?_) (fun s hP => ?_) (by have := Nat.min_le_right l.length (most.toNat + 1); show min _ _ < k; omega) ⟨rfl, by decide, by decide, by omega, fun j h hj => by omega⟩
  · obtain ⟨t, h1, h2⟩ := hL
    rcases h2 with rfl | ⟨rfl, h2⟩
    · exact ⟨true, by simp only [ref05_Much, h1, Option.bind_some], by simp⟩
    · exact ⟨_, by simp only [ref05_Much, h1, Option.bind_some, lt1]; rfl, fun hb => by
        have : ¬ (l.length : Int) > most := of_decide_eq_false hb
        exact ⟨by omega, h2 (by omega)⟩⟩
  · obtain ⟨n, j⟩ := s
    obtain ⟨rfl, p1, p2, p3, p4⟩ := hP
    have hi1 : i < l.length := Nat.lt_of_lt_of_le hi (Nat.min_le_left ..)
    have hi2 : i < most.toNat + 1 := Nat.lt_of_lt_of_le hi (Nat.min_le_right ..)
    have m1 := fun x : Nat => show minI (x : Int) 20001 = ((min x 20001 : Nat) : Int) by unfold minI; split <;> omega
    simp only at p1 p2
    have w1 : w64 (n + ((min l[i].B.length 20001 : Nat) : Int)) = n + ((min l[i].B.length 20001 : Nat) : Int) := Zch (by omega) (by omega)
    have w2 : w64 (n + ((min l[i].B.length 20001 : Nat) : Int) + ((min l[i].Name.length 20001 : Nat) : Int)) = n + ((min l[i].B.length 20001 : Nat) : Int) + ((min l[i].Name.length 20001 : Nat) : Int) := Zch (by omega) (by omega)
    have w3 : w64 (n + ((min l[i].B.length 20001 : Nat) : Int) + ((min l[i].Name.length 20001 : Nat) : Int) + ((min l[i].To.length 20001 : Nat) : Int)) = n + ((min l[i].B.length 20001 : Nat) : Int) + ((min l[i].Name.length 20001 : Nat) : Int) + ((min l[i].To.length 20001 : Nat) : Int) := Zch (by omega) (by omega)
    have w4 : w64 (n + ((min l[i].B.length 20001 : Nat) : Int) + ((min l[i].Name.length 20001 : Nat) : Int) + ((min l[i].To.length 20001 : Nat) : Int) + ((min l[i].Keep.length 20001 : Nat) : Int)) = n + ((min l[i].B.length 20001 : Nat) : Int) + ((min l[i].Name.length 20001 : Nat) : Int) + ((min l[i].To.length 20001 : Nat) : Int) + ((min l[i].Keep.length 20001 : Nat) : Int) := Zch (by omega) (by omega)
    by_cases hb : n + ((min l[i].B.length 20001 : Nat) : Int) + ((min l[i].Name.length 20001 : Nat) : Int) + ((min l[i].To.length 20001 : Nat) : Int) + ((min l[i].Keep.length 20001 : Nat) : Int) > 20000
    · right
      refine ⟨.inr true, ?_, .inl rfl⟩
      simp only [ref05_Much.b1, lt1, Zbz (show (i : Int) < (l.length : Int) by omega), Zbz (show (i : Int) ≤ most by omega), cond_true, Option.bind_some, if_true, Ze6 hi1, m1, w1, w2, w3, w4, Zbz hb]
    · left
      refine ⟨(_, _), by simp only [ref05_Much.b1, lt1, Zbz (show (i : Int) < (l.length : Int) by omega), Zbz (show (i : Int) ≤ most by omega), cond_true, Option.bind_some, if_true, Ze6 hi1, m1, w1, w2, w3, w4, Zbq hb, Bool.false_eq_true, if_false, Zcm (show i < 9223372036854775807 by omega)]; rfl, rfl, ?_, ?_, by omega, fun j h hj => ?_⟩
      · simp only; omega
      · simp only; omega
      · by_cases hj' : j < i
        · exact p4 j h hj'
        · have : j = i := by omega
          subst this
          unfold Zho
          omega
  · obtain ⟨n, j⟩ := s
    obtain ⟨rfl, p1, p2, p3, p4⟩ := hP
    refine ⟨.inl (), ?_, .inr ⟨rfl, fun hlm a ha => ?_⟩⟩
    · by_cases hlt : (((Nat.min l.length (most.toNat + 1)) : Nat) : Int) < (l.length : Int)
      · have : ¬ (((Nat.min l.length (most.toNat + 1)) : Nat) : Int) ≤ most := by
          have : Nat.min l.length (most.toNat + 1) = min l.length (most.toNat + 1) := rfl
          rw [this] at hlt ⊢
          omega
        simp only [ref05_Much.b1, lt1, Zbz hlt, Zbq this, cond_true, Option.bind_some, Bool.false_eq_true, if_false]
      · simp only [ref05_Much.b1, lt1, Zbq hlt, cond_false, Option.bind_some, Bool.false_eq_true, if_false]
    · obtain ⟨j, hj, rfl⟩ := List.getElem_of_mem ha
      have : Nat.min l.length (most.toNat + 1) = min l.length (most.toNat + 1) := rfl
      exact p4 j hj (by rw [this]; omega)
def after (u v : Zaf) : Prop := ∃ m : Nat, u.lasts ≤ m ∧ m ≤ u.b.length ∧ v = ⟨u.b.take m, m⟩
theorem Zim {cap : Int} {x : Mp} (h : XInv cap x) (keep : List Int) (i : Nat) {n : List UInt8} {u : Zaf} (hu : mget n x = some u) : ∃ v, mget n (lose keep (x, i) n).1 = some v ∧ after u v := by
  have hl : 0 ≤ u.lasts ∧ u.lasts ≤ u.b.length := h.lasts _ (Zdw hu)
  unfold lose
  simp only [ZbP hu]
  by_cases hz : (u.b.length : Int) - u.lasts = 0
  · rw [if_pos hz]
    refine ⟨u, hu, u.b.length, by omega, Nat.le_refl _, ?_⟩
    rw [List.take_length]
    have : (u.b.length : Int) = u.lasts := by omega
    rw [this]
  · rw [if_neg hz]
    have hk := ZeK keep i (show 0 < (u.b.length : Int) - u.lasts by omega)
    refine ⟨_, by rw [ZbT, if_pos rfl], (u.lasts + kept keep i ((u.b.length : Int) - u.lasts)).toNat, by omega, by omega, ?_⟩
    rw [Int.toNat_of_nonneg (by omega)]
theorem Zhc {cap : Int} (keep : List Int) : ∀ (l : List (List UInt8)) (x : Mp) (i : Nat), XInv cap x → l.Nodup → (∀ n ∈ l, ∃ u, mget n x = some u) → XInv cap (l.foldl (lose keep) (x, i)).1 ∧ (∀ n, n ∉ l → mget n (l.foldl (lose keep) (x, i)).1 = mget n x) ∧ ∀ n ∈ l, ∀ u, mget n x = some u → ∃ v, mget n (l.foldl (lose keep) (x, i)).1 = some v ∧ after u v
  | [], x, i, hx, _, _ => ⟨hx, fun _ _ => rfl, fun _ h => by cases h⟩
  | m :: l, x, i, hx, hn, hg => by
    have hn := List.nodup_cons.1 hn
    obtain ⟨u, hu⟩ := hg m (List.mem_cons_self ..)
    have hg' : ∀ n ∈ l, mget n (lose keep (x, i) m).1 = mget n x := fun n h => ZgE keep i hu n (fun e => hn.1 (by rw [← e]; exact h))
    obtain ⟨h1, h2, h3⟩ := Zhc keep l (lose keep (x, i) m).1 (lose keep (x, i) m).2 (Zh3 hx keep i hu) hn.2 (fun n h => by rw [hg' n h]; exact hg n (List.mem_cons_of_mem _ h))
    refine ⟨h1, fun n h => ?_, fun n h w hw => ?_⟩
    · rw [List.foldl_cons]
      exact (h2 n (fun h' => h (List.mem_cons_of_mem _ h'))).trans (ZgE keep i hu n (fun e => h (by rw [e]; exact List.mem_cons_self ..)))
    · rw [List.foldl_cons]
      rcases List.mem_cons.1 h with rfl | h
      · obtain ⟨v, v1, v2⟩ := Zim hx keep i hw
        exact ⟨v, (h2 _ hn.1).trans v1, v2⟩
      · exact h3 n h w (by rw [hg' n h]; exact hw)
theorem ZfU (keep : List Int) {cap : Int} {x : Mp} (h : XInv cap x) : XInv cap (Zfk keep x).1 ∧ (∀ n, mget n x = none → mget n (Zfk keep x).1 = none) ∧ ∀ n u, mget n x = some u → ∃ v, mget n (Zfk keep x).1 = some v ∧ after u v := by
  have hp := ZdN x
  obtain ⟨h1, h2, h3⟩ := Zhc (cap := cap) keep (names x) (Zec x) 0 (h.perm hp) ((ZdM x).symm.nodup h.kn) (fun n hn => by
    rw [← Zeb h.kn hp]; exact Zdd.1 hn)
  refine ⟨h1, fun n hn => ?_, fun n u hu => ?_⟩
  · rw [show mget n (Zfk keep x).1 = mget n (Zec x) from h2 n (fun hm => by obtain ⟨u, hu⟩ := Zdd.1 hm; rw [hn] at hu; cases hu), ← Zeb h.kn hp]
    exact hn
  · exact h3 n (Zdd.2 ⟨u, hu⟩) u (by rw [← Zeb h.kn hp]; exact hu)
noncomputable def step (s : DS) (a : Za7) : Int × DS :=
  if a.Kind = 1 then append s a.Name a.B else if a.Kind = 2 then sync s a.Name else if a.Kind = 3 then cut s a.Name a.N else if a.Kind = 4 then ZeC s a.Name a.To else if a.Kind = 5 then ZeT s a.Name
  else if a.Kind = 6 then (0, { s with fuse := maxI a.N (-1) }) else if a.Kind = 7 then (0, ⟨s.cap, -1, false, 0, (Zfk a.Keep s.x).1⟩) else (0, s)
theorem ZhS {s : DS} (h : DInv s) (a : Za7) (hN : a.N ≤ 9223372036854775807) : DInv (step s a).2 ∧ (step s a).2.cap = s.cap ∧ (step s a).2.writes ≤ s.writes + 1 := by
  have hw := h.wr1
  unfold step
  split
  · exact ZeO h _ _
  split
  · exact Zic h _
  split
  · exact Zkz h _ _
  split
  · exact Zgf h _ _
  split
  · exact Ziw h _
  split
  · refine ⟨h.of h.X ?_ ?_ h.wr1, rfl, by show s.writes ≤ s.writes + 1; omega⟩ <;> unfold maxI <;> split <;> omega
  split
  · exact ⟨h.of (ZfU a.Keep h.X).1 (by decide) (by decide) (by decide), rfl, by show (0 : Int) ≤ s.writes + 1; omega⟩
  · exact ⟨h, rfl, by show s.writes ≤ s.writes + 1; omega⟩
theorem Zhw (k : Nat) (x : Mp) (n b y : List UInt8) (hb : b.length ≤ 1000000) (hs : (old x n).b.length + b.length ≤ 140737488355328) : ∀ c f d w, ∃ o, ZaR k (mget n x) x c f d w n 0 b.length (b ++ y) = some (lay x n b, o) := by
  intro c f d w
  have hv : ZhF (b ++ y) 0 b.length = some b := by
    unfold ZhF
    by_cases h0 : b.length = 0
    · rw [if_pos h0, List.length_eq_zero_iff.1 h0]
    · rw [if_neg h0, if_pos (by simp)]
      simp
  have ha : ∀ z : List UInt8, z.length + b.length ≤ 140737488355328 → apV 1 z (b ++ y) 0 b.length = some (z ++ b) := fun z hz => by
    unfold apV
    rw [hv]
    exact ZcD (by omega)
  cases hg : mget n x with
  | none =>
    have ho : old x n = ⟨[], 0⟩ := by simp [old, hg]
    have e1 : ZbF (some (mput n (⟨[], 0⟩ : Zaf) x)) n = some ⟨[], 0⟩ := by show mget n _ = _; rw [ZbT, if_pos rfl]
    have e2 : Zdz (mput n (⟨[], 0⟩ : Zaf) x) n (fun u => { u with b := [] ++ b }) = some (lay x n b) := by
      unfold Zdz
      rw [ZbT, if_pos rfl]
      simp only [Option.map_some, Zfc, lay, ho]
    rw [ho] at hs
    refine ⟨some default, ?_⟩
    simp only [ZaR, lt1, Option.isNone_none, if_true, Option.bind_some, e1, Zgp k [] (by simp), ha [] (by simpa using hs), e2]
  | some u =>
    have ho : old x n = u := by simp [old, hg]
    have e1 : ZbF (some x) n = some u := hg
    rw [ho] at hs
    have e2 : Zdz x n (fun v => { v with b := u.b ++ b }) = some (lay x n b) := by
      unfold Zdz
      rw [hg]
      simp only [Option.map_some, lay, ho]
    refine ⟨some u, ?_⟩
    simp only [ZaR, lt1, Option.isNone_some, Bool.false_eq_true, if_false, Option.bind_some, e1, Zgp k u.b (by omega), ha u.b (by omega), e2]
theorem Ziv {k : Nat} (s : DS) (h : DInv s) (hw : s.writes < 9223372036854775807) (n b y : List UInt8) (hk : n.length < k) (hn : n.length ≤ 1000000) (hb : b.length ≤ 1000000) : ZaM k n 0 b.length s.cap s.fuse s.dead s.writes s.x (b ++ y) = some (tup (append s n b)) := by
  have hm := Zeh n hk hn
  unfold append
  by_cases hn' : mayN n = true
  · have e0 : (if mayN n = false then ((2 : Int), s) else if full s n b then (5, s) else wr s (lay s.x n b) (lay s.x n b)) = if full s n b then (5, s) else wr s (lay s.x n b) (lay s.x n b) := by rw [if_neg (by rw [hn']; decide)]
    rw [e0]
    have hf : ∀ (v : Bool) , (disk_Disk_Room_p_smvvvvm k s.cap s.fuse v s.writes s.x).bind (fun v_19 => if decide ((b.length : Int) > v_19) = true then some true else if (mget n s.x).isNone = true then some (decide ((s.x.length : Int) ≥ 64)) else some false) = some (decide (full s n b)) := by
      intro v
      rw [ZgM k s h]
      simp only [Option.bind_some]
      by_cases h1 : (b.length : Int) > s.cap - (tot sz s.x : Int)
      · rw [Zbz h1, if_pos rfl, Zbz (show full s n b from .inl h1)]
      · rw [Zbq h1, if_neg (by decide)]
        cases hg : mget n s.x with
        | none =>
          simp only [Option.isNone_none, if_true]
          by_cases h2 : s.x.length ≥ 64
          · rw [Zbz (show (s.x.length : Int) ≥ 64 by omega), Zbz (show full s n b from .inr ⟨hg, h2⟩)]
          · rw [Zbq (show ¬ (s.x.length : Int) ≥ 64 by omega), Zbq (show ¬ full s n b from fun h => h.elim h1 fun h => h2 h.2)]
        | some u =>
          simp only [Option.isNone_some, Bool.false_eq_true, if_false]
          rw [Zbq (show ¬ full s n b from fun h => h.elim h1 fun h => by rw [hg] at h; cases h.1)]
    by_cases hfl : full s n b
    · rw [if_pos hfl]
      simp only [Zbz hfl] at hf
      have hg : ZbF (some s.x) n = mget n s.x := rfl
      have hgd : (Option.getD (some s.x) []) = s.x := rfl
      simp only [ZaM, ZcT, Option.bind_some, hm, hn', lt1, Bool.not_true, Bool.false_eq_true, if_false, hg, hgd, hf, if_true]
      rfl
    · rw [if_neg hfl]
      simp only [Zbq hfl] at hf
      have hg : ZbF (some s.x) n = mget n s.x := rfl
      have hgd : (Option.getD (some s.x) []) = s.x := rfl
      have ha := fun c f d w => Zhw k s.x n b y hb (by have := Zia h n; omega) c f d w
      have e1 : w64 (s.writes + 1) = s.writes + 1 := Zch (by have := h.wr1; omega) (by omega)
      unfold wr
      by_cases hd : s.dead = true
      · rw [if_pos hd]
        simp only [ZaM, ZcT, Option.bind_some, hm, hn', lt1, Bool.not_true, Bool.false_eq_true, if_false, hg, hgd, hf, ZaG, hd, if_true]
        rw [tup, hd]
      · have hd' : s.dead = false := by simpa using hd
        rw [if_neg hd]
        by_cases hz : s.fuse = 0
        · rw [if_pos hz]
          obtain ⟨o, ho⟩ := ha s.cap s.fuse true (s.writes + 1)
          have hz' : (s.fuse == 0) = true := by rw [hz]; rfl
          simp only [ZaM, ZcT, Option.bind_some, hm, hn', lt1, Bool.not_true, Bool.false_eq_true, if_false, hg, hgd, hf, ZaG, hd', e1, hz', if_true, ho]
          rfl
        · rw [if_neg hz]
          have hz' : (s.fuse == 0) = false := by simpa using hz
          by_cases hp : s.fuse > 0
          · obtain ⟨o, ho⟩ := ha s.cap (s.fuse - 1) false (s.writes + 1)
            have e2 : w64 (s.fuse - 1) = s.fuse - 1 := Zch (by omega) (by have := h.fuse2; omega)
            simp only [ZaM, ZcT, Option.bind_some, hm, hn', lt1, Bool.not_true, Bool.false_eq_true, if_false, hg, hgd, hf, ZaG, hd', e1, hz', Zbz hp, if_true, e2, ho]
            rw [tup, if_pos hp]
          · obtain ⟨o, ho⟩ := ha s.cap s.fuse false (s.writes + 1)
            simp only [ZaM, ZcT, Option.bind_some, hm, hn', lt1, Bool.not_true, Bool.false_eq_true, if_false, hg, hgd, hf, ZaG, hd', e1, hz', Zbq hp, ho]
            rw [tup, if_neg hp]
  · have hn' : mayN n = false := by simpa using hn'
    rw [if_pos hn']
    simp only [ZaM, ZcT, Option.bind_some, hm, hn', lt1, Bool.not_false, if_true]
    rfl
theorem ZjA {k : Nat} (y : List UInt8) (hk : y.length < k) (hy : y.length ≤ 1000000) : ∃ r, Zcl (fun s => law05_do_pv_smvvvvm.b1 k s.1 s.2) k (y, (0 : Int)) = some r := by
  have hL := ZfO (body := fun s => law05_do_pv_smvvvvm.b1 k s.1 s.2) (k := k) (fun i (s : List UInt8 × Int) => s.1.length = y.length ∧ s.2 = i) (fun _ => True) y.length (s := (y, 0)) (fun i s hi hP => ?_) (fun s hP => ?_) hk ⟨rfl, rfl⟩
  · obtain ⟨t, h1, _⟩ := hL
    exact ⟨t, h1⟩
  · obtain ⟨z, j⟩ := s
    obtain ⟨p1, rfl⟩ := hP
    simp only at p1
    left
    have e1 : inO z (i : Int) = some i := by rw [ZeR (by omega) (by omega)]; simp
    have e2 : ZfP z i (9 : UInt8) = some (z.set i 9) := if_pos (by omega)
    exact ⟨(z.set i 9, _), by simp only [law05_do_pv_smvvvvm.b1, lt1, Zbz (show (i : Int) < (z.length : Int) by omega), if_true, e1, e2, Option.bind_some, Zcm (show i < 9223372036854775807 by omega)], by simpa using p1, rfl⟩
  · obtain ⟨z, j⟩ := s
    obtain ⟨p1, rfl⟩ := hP
    simp only at p1
    exact ⟨(), by simp only [law05_do_pv_smvvvvm.b1, lt1, Zbq (show ¬ (y.length : Int) < (z.length : Int) by omega), Bool.false_eq_true, if_false], trivial⟩
theorem Zk2 {k : Nat} (s : DS) (h : DInv s) (hw : s.writes < 9223372036854775807) (a : Za7) (ha : Zho a) (hk : 100000 ≤ k) : law05_do_pv_smvvvvm k a s.cap s.fuse s.dead s.writes s.x = some (tup (step s a)) := by
  obtain ⟨a1, a2, a3, a4⟩ := ha
  have hb : ∀ c : Int, a.Kind ≠ c → (a.Kind == c) = false := fun c h => by simpa using h
  by_cases k1 : a.Kind = 1
  · have e1 := Ziv (k := k) s h hw a.Name a.B [7] (by omega) (by omega) (by omega)
    have e2 : Zhx 0 (a.B ++ [7]).length 0 (a.B.length : Int) = some (0, a.B.length) := by
      unfold Zhx; rw [if_pos ⟨by decide, by omega, by simp; omega⟩]; simp
    obtain ⟨r, hr⟩ := ZjA (k := k) (a.B ++ [7]) (by simp; omega) (by simp; omega)
    have hs : step s a = append s a.Name a.B := if_pos k1
    have kb : (a.Kind == 1) = true := by rw [k1]; rfl
    simp only [law05_do_pv_smvvvvm, lt1, kb, if_true, ZcD (show (([] : List UInt8).length + a.B.length) * 1 ≤ 140737488355328 by simp; omega), List.nil_append, ZcD (show (a.B.length + ([7] : List UInt8).length) * 1 ≤ 140737488355328 by simp; omega), Option.bind_some, e2, e1, hr, ZaX, hs, tup]
  by_cases k2 : a.Kind = 2
  · have e1 := Zjp (k := k) s h hw a.Name (by omega) (by omega)
    have hs : step s a = sync s a.Name := by unfold step; rw [if_neg k1, if_pos k2]
    have kb : (a.Kind == 2) = true := by rw [k2]; rfl
    simp only [law05_do_pv_smvvvvm, lt1, hb 1 k1, kb, Bool.false_eq_true, if_false, if_true, e1, Option.bind_some, ZaX, hs, tup]
  by_cases k3 : a.Kind = 3
  · have e1 := Zkb (k := k) s h hw a.Name a.N (by omega) (by omega)
    have hs : step s a = cut s a.Name a.N := by unfold step; rw [if_neg k1, if_neg k2, if_pos k3]
    have kb : (a.Kind == 3) = true := by rw [k3]; rfl
    simp only [law05_do_pv_smvvvvm, lt1, hb 1 k1, hb 2 k2, kb, Bool.false_eq_true, if_false, if_true, e1, Option.bind_some, ZaX, hs, tup]
  by_cases k4 : a.Kind = 4
  · have e1 := ZgR (k := k) s h hw a.Name a.To (by omega) (by omega) (by omega) (by omega)
    have hs : step s a = ZeC s a.Name a.To := by unfold step; rw [if_neg k1, if_neg k2, if_neg k3, if_pos k4]
    have kb : (a.Kind == 4) = true := by rw [k4]; rfl
    simp only [law05_do_pv_smvvvvm, lt1, hb 1 k1, hb 2 k2, hb 3 k3, kb, Bool.false_eq_true, if_false, if_true, e1, Option.bind_some, ZaX, hs, tup]
  by_cases k5 : a.Kind = 5
  · have e1 := ZiS (k := k) s h hw a.Name (by omega) (by omega)
    have hs : step s a = ZeT s a.Name := by unfold step; rw [if_neg k1, if_neg k2, if_neg k3, if_neg k4, if_pos k5]
    have kb : (a.Kind == 5) = true := by rw [k5]; rfl
    simp only [law05_do_pv_smvvvvm, lt1, hb 1 k1, hb 2 k2, hb 3 k3, hb 4 k4, kb, Bool.false_eq_true, if_false, if_true, e1, Option.bind_some, ZaX, hs, tup]
  by_cases k6 : a.Kind = 6
  · have hs : step s a = (0, { s with fuse := maxI a.N (-1) }) := by unfold step; rw [if_neg k1, if_neg k2, if_neg k3, if_neg k4, if_neg k5, if_pos k6]
    have kb : (a.Kind == 6) = true := by rw [k6]; rfl
    simp only [law05_do_pv_smvvvvm, lt1, hb 1 k1, hb 2 k2, hb 3 k3, hb 4 k4, hb 5 k5, kb, Bool.false_eq_true, if_false, if_true, Zhu, Option.bind_some, ZaX, hs, tup]
  by_cases k7 : a.Kind = 7
  · have e1 := ZhZ (k := k) (by omega) a.Keep s h s.cap s.fuse s.dead s.writes
    have hs : step s a = (0, ⟨s.cap, -1, false, 0, (Zfk a.Keep s.x).1⟩) := by unfold step; rw [if_neg k1, if_neg k2, if_neg k3, if_neg k4, if_neg k5, if_neg k6, if_pos k7]
    have kb : (a.Kind == 7) = true := by rw [k7]; rfl
    simp only [law05_do_pv_smvvvvm, lt1, hb 1 k1, hb 2 k2, hb 3 k3, hb 4 k4, hb 5 k5, hb 6 k6, kb, Bool.false_eq_true, if_false, if_true, e1, Option.bind_some, ZaX, hs, tup]
  · have hs : step s a = (0, s) := by unfold step; rw [if_neg k1, if_neg k2, if_neg k3, if_neg k4, if_neg k5, if_neg k6, if_neg k7]
    simp only [law05_do_pv_smvvvvm, lt1, hb 1 k1, hb 2 k2, hb 3 k3, hb 4 k4, hb 5 k5, hb 6 k6, hb 7 k7, Bool.false_eq_true, if_false, Option.bind_some, hs, tup]
theorem Zhj (x : Mp) (h : (x.map Prod.fst).Nodup) : (names x).Pairwise fun a b => a < b := by
  have h1 : (names x).Pairwise fun a b => (decide (a ≤ b)) = true := List.pairwise_mergeSort (le := fun a b => decide (a ≤ b)) (fun a b c h1 h2 => decide_eq_true (List.le_trans (of_decide_eq_true h1) (of_decide_eq_true h2))) (fun a b => by
    rcases List.le_total a b with h | h <;> simp [h]) _
  have h2 : (names x).Nodup := (ZdM x).symm.nodup h
  exact (h1.and h2).imp fun {a b} hab => by
    have : ¬ b < a := of_decide_eq_true hab.1
    rcases List.le_iff_lt_or_eq.1 (show a ≤ b from this) with h | h
    · exact h
    · exact absurd h hab.2
theorem ZiO (x : Mp) (h : (x.map Prod.fst).Nodup) : ((names x).map fun n => (old x n).b.length).sum = tot sz x := by
  rw [((ZdM x).map _).sum_nat, List.map_map]
  unfold tot
  congr 1
  apply List.map_congr_left
  intro e he
  have : mget e.1 x = some e.2 := Zem h he
  simp [ZbP this, sz]
theorem Zfi (x : Mp) : (names x).zip (Zc0 x) = (names x).map fun n => (n, ((old x n).b.length : Int)) := by
  unfold Zc0
  generalize names x = l
  induction l with
  | nil => rfl
  | cons a l ih => simp [ih]
theorem ZhY (k : Nat) (x y : Mp) : ∀ (l : List (List UInt8 × Int)), (∀ e ∈ l, ∃ u, mget e.1 x = some u) → (yrun (fun (s : Unit) (u : List UInt8 × Int) => disk_Disk_Same_pp_smvvvvmsmvvvvm.y1 k x y u.1 u.2) l () = some (.inl ()) ∧ ∀ e ∈ l, mget e.1 x = mget e.1 y) ∨ (yrun (fun (s : Unit) (u : List UInt8 × Int) => disk_Disk_Same_pp_smvvvvmsmvvvvm.y1 k x y u.1 u.2) l () = some (.inr ()) ∧ ∃ e ∈ l, mget e.1 x ≠ mget e.1 y)
  | [], _ => .inl ⟨rfl, fun _ h => by cases h⟩
  | e :: l, h => by
    obtain ⟨u, hu⟩ := h e (List.mem_cons_self ..)
    have g1 : ZbF (some x) e.1 = some u := hu
    cases hv : mget e.1 y with
    | none =>
      right
      have g2 : ZbF (some y) e.1 = none := hv
      have hy : disk_Disk_Same_pp_smvvvvmsmvvvvm.y1 k x y e.1 e.2 = some (.inr ()) := by
        simp only [disk_Disk_Same_pp_smvvvvmsmvvvvm.y1, lt1, g1, g2, Option.isNone_none, if_true, Option.bind_some]
      exact ⟨by simp only [yrun, hy], e, List.mem_cons_self .., by rw [hu, hv]; intro h; cases h⟩
    | some v =>
      have g2 : ZbF (some y) e.1 = some v := hv
      by_cases hb : u.b = v.b
      · have b1 : (u.b == v.b) = true := by rw [hb]; simp
        by_cases hl : u.lasts = v.lasts
        · have b2 : (u.lasts != v.lasts) = false := by rw [hl]; simp
          have hy : disk_Disk_Same_pp_smvvvvmsmvvvvm.y1 k x y e.1 e.2 = some (.inl ()) := by
            simp only [disk_Disk_Same_pp_smvvvvmsmvvvvm.y1, lt1, g1, g2, Option.isNone_some, Bool.false_eq_true, if_false, Option.bind_some, Zdo, b1, b2, Bool.not_true]
          have huv : u = v := by cases u; cases v; simp only at hb hl; rw [hb, hl]
          rcases ZhY k x y l (fun f hf => h f (List.mem_cons_of_mem _ hf)) with ⟨h1, h2⟩ | ⟨h1, f, h2, h3⟩
          · exact .inl ⟨by simp only [yrun, hy, h1], fun f hf => by
              rcases List.mem_cons.1 hf with rfl | hf
              · rw [hu, hv, huv]
              · exact h2 f hf⟩
          · exact .inr ⟨by simp only [yrun, hy, h1], f, List.mem_cons_of_mem _ h2, h3⟩
        · right
          have b2 : (u.lasts != v.lasts) = true := by simpa using hl
          have hy : disk_Disk_Same_pp_smvvvvmsmvvvvm.y1 k x y e.1 e.2 = some (.inr ()) := by
            simp only [disk_Disk_Same_pp_smvvvvmsmvvvvm.y1, lt1, g1, g2, Option.isNone_some, Bool.false_eq_true, if_false, Option.bind_some, Zdo, b1, b2, Bool.not_true, if_true]
          exact ⟨by simp only [yrun, hy], e, List.mem_cons_self .., by rw [hu, hv]; intro h; cases h; exact hl rfl⟩
      · right
        have b1 : (u.b == v.b) = false := by simpa using hb
        have hy : disk_Disk_Same_pp_smvvvvmsmvvvvm.y1 k x y e.1 e.2 = some (.inr ()) := by
          simp only [disk_Disk_Same_pp_smvvvvmsmvvvvm.y1, lt1, g1, g2, Option.isNone_some, Bool.false_eq_true, if_false, Option.bind_some, Zdo, b1, Bool.not_false, if_true]
        exact ⟨by simp only [yrun, hy], e, List.mem_cons_self .., by rw [hu, hv]; intro h; cases h; exact hb rfl⟩
def ZkK (x y : Mp) : Prop := x.length = y.length ∧ ∀ n u, mget n x = some u → mget n y = some u
theorem Zks {k : Nat} (hk : 100 < k) (s : DS) (h : DInv s) (y : Mp) (c f : Int) (d : Bool) (w : Int) (c' f' : Int) (d' : Bool) (w' : Int) : ∃ b, disk_Disk_Same_pp_smvvvvmsmvvvvm k c f d w s.x c' f' d' w' y = some b ∧ (b = true ↔ c = c' ∧ ZkK s.x y) := by
  have hlen := h.len
  have hnl := ZeA s.x
  have hfi := ZfA (k := k) s h (by omega) c f d w
  have hm : ∀ e ∈ (names s.x).zip (Zc0 s.x), ∃ u, mget e.1 s.x = some u := fun e he => by
    rw [Zfi] at he
    obtain ⟨n, hn, rfl⟩ := List.mem_map.1 he
    exact Zdd.1 hn
  rcases ZhY k s.x y _ hm with ⟨h1, h2⟩ | ⟨h1, e, h2, h3⟩
  · have h4 := ZfT (k := k) _ (names s.x) (Zc0 s.x) (by simp [Zc0]) (by omega) (by omega) h1
    have h4 : disk_Disk_Files_1_ypp_loo k (fun (s' : Unit) (u : List UInt8 × Int) => disk_Disk_Same_pp_smvvvvmsmvvvvm.y1 k s.x y u.1 u.2) (Sum.inl ()) (names s.x) (Zc0 s.x) = some (.inl ()) := h4
    have h5 : ∀ n u, mget n s.x = some u → mget n y = some u := fun n u hu => by
      have := h2 (n, ((old s.x n).b.length : Int)) (by rw [Zfi]; exact List.mem_map.2 ⟨n, Zdd.2 ⟨u, hu⟩, rfl⟩)
      rw [← this]; exact hu
    have hg : ∀ z : Mp, (Option.getD (some z) []) = z := fun _ => rfl
    by_cases hc : c = c'
    · have cb : (c == c') = true := by rw [hc]; simp
      refine ⟨_, by simp only [disk_Disk_Same_pp_smvvvvmsmvvvvm, ZcT, Option.bind_some, hfi, h4, lt1, cb, if_true, hg]; rfl, ?_⟩
      rw [beq_iff_eq]
      exact ⟨fun hl => ⟨hc, by omega, h5⟩, fun hl => by rw [hl.2.1]⟩
    · have cb : (c == c') = false := by simpa using hc
      exact ⟨false, by simp only [disk_Disk_Same_pp_smvvvvmsmvvvvm, ZcT, Option.bind_some, hfi, h4, lt1, cb, Bool.false_eq_true, if_false], by simp [hc]⟩
  · have h4 := ZfT (k := k) _ (names s.x) (Zc0 s.x) (by simp [Zc0]) (by omega) (by omega) h1
    have h4 : disk_Disk_Files_1_ypp_loo k (fun (s' : Unit) (u : List UInt8 × Int) => disk_Disk_Same_pp_smvvvvmsmvvvvm.y1 k s.x y u.1 u.2) (Sum.inl ()) (names s.x) (Zc0 s.x) = some (.inr ()) := h4
    refine ⟨false, by simp only [disk_Disk_Same_pp_smvvvvmsmvvvvm, ZcT, Option.bind_some, hfi, h4, lt1], ?_⟩
    constructor
    · intro h; cases h
    · rintro ⟨_, _, h5⟩
      obtain ⟨u, hu⟩ := hm e h2
      exact absurd (by rw [hu, h5 _ _ hu]) h3
def vw (e : Zah) : Zaf := ⟨e.B, e.Lasts⟩
structure RL (L : List Zah) (x : Mp) : Prop where
  srt : L.Pairwise fun a b => a.Name < b.Name
  mem : ∀ e, e ∈ L ↔ mget e.Name x = some (vw e)
theorem RL.congr {L : List Zah} {x y : Mp} (h : RL L x) (hxy : ∀ n, mget n x = mget n y) : RL L y := ⟨h.srt, fun e => by rw [h.mem, hxy]⟩
theorem RL.get {L : List Zah} {x : Mp} (h : RL L x) {n : List UInt8} {u : Zaf} (hu : mget n x = some u) : (⟨n, u.b, u.lasts⟩ : Zah) ∈ L := (h.mem _).2 hu
theorem RL.names {L : List Zah} {x : Mp} (h : RL L x) (hk : (x.map Prod.fst).Nodup) : L.map (·.Name) = names x := by
  have h1 : (L.map (·.Name)).Pairwise (· < ·) := List.pairwise_map.2 h.srt
  have h2 := Zhj x hk
  have nd : ∀ {l : List (List UInt8)}, l.Pairwise (· < ·) → l.Nodup := fun h => h.imp fun {a b} hab e => by rw [e] at hab; exact List.lt_irrefl _ hab
  refine List.Perm.eq_of_pairwise (le := (· < ·)) (fun a b _ _ h1 h2 => absurd h2 (List.lt_asymm h1)) h1 h2 ?_
  rw [List.perm_ext_iff_of_nodup (nd h1) (nd h2)]
  intro n
  rw [Zdd]
  constructor
  · intro hn
    obtain ⟨e, he, rfl⟩ := List.mem_map.1 hn
    exact ⟨_, (h.mem e).1 he⟩
  · rintro ⟨u, hu⟩
    exact List.mem_map.2 ⟨_, h.get hu, rfl⟩
theorem RL.len {L : List Zah} {x : Mp} (h : RL L x) (hk : (x.map Prod.fst).Nodup) : L.length = x.length := by
  have := congrArg List.length (h.names hk)
  rw [List.length_map, ZeA] at this
  exact this
theorem RL.tot {L : List Zah} {x : Mp} (h : RL L x) (hk : (x.map Prod.fst).Nodup) : (L.map fun e => e.B.length).sum = tot sz x := by
  rw [← ZiO x hk, ← h.names hk, List.map_map]
  congr 1
  apply List.map_congr_left
  intro e he
  simp [ZbP ((h.mem e).1 he), vw]
theorem RL.put {L1 L2 : List Zah} {y : Mp} {n b : List UInt8} {l : Int} (h : RL (L1 ++ L2) y) (h1 : ∀ e ∈ L1, e.Name < n) (h2 : ∀ e ∈ L2, n < e.Name) (hn : mget n y = none) : RL (L1 ++ ⟨n, b, l⟩ :: L2) (mput n ⟨b, l⟩ y) := by
  have hs := List.pairwise_append.1 h.srt
  refine ⟨List.pairwise_append.2 ⟨hs.1, List.pairwise_cons.2 ⟨h2, hs.2.1⟩, fun a ha c hc => ?_⟩, fun e => ?_⟩
  · rcases List.mem_cons.1 hc with rfl | hc
    · exact h1 a ha
    · exact hs.2.2 a ha c hc
  · rw [ZbT]
    have hm : e ∈ L1 ++ (⟨n, b, l⟩ : Zah) :: L2 ↔ e = ⟨n, b, l⟩ ∨ e ∈ L1 ++ L2 := by
      simp only [List.mem_append, List.mem_cons]
      constructor
      · rintro (h | h | h)
        · exact .inr (.inl h)
        · exact .inl h
        · exact .inr (.inr h)
      · rintro (h | h | h)
        · exact .inr (.inl h)
        · exact .inl h
        · exact .inr (.inr h)
    rw [hm]
    by_cases he : e.Name = n
    · rw [if_pos he]
      constructor
      · rintro (rfl | h')
        · rfl
        · rcases List.mem_append.1 h' with h' | h'
          · have := h1 e h'; rw [he] at this; exact absurd this (List.lt_irrefl _)
          · have := h2 e h'; rw [he] at this; exact absurd this (List.lt_irrefl _)
      · intro h'
        left
        have h' := Option.some.inj h'
        cases e
        simp only [vw, Zaf.mk.injEq] at h' he
        rw [he, h'.1, h'.2]
    · rw [if_neg he, ← h.mem]
      constructor
      · rintro (rfl | h')
        · exact absurd rfl he
        · exact h'
      · exact .inr
theorem RL.drop {L1 L2 : List Zah} {e : Zah} {x : Mp} (h : RL (L1 ++ e :: L2) x) (hk : (x.map Prod.fst).Nodup) : RL (L1 ++ L2) (mdel e.Name x) ∧ (∀ f ∈ L1, f.Name < e.Name) ∧ ∀ f ∈ L2, e.Name < f.Name := by
  have hs := List.pairwise_append.1 h.srt
  have hs2 := List.pairwise_cons.1 hs.2.1
  have g1 : ∀ f ∈ L1, f.Name < e.Name := fun f hf => hs.2.2 f hf e (List.mem_cons_self ..)
  refine ⟨⟨List.pairwise_append.2 ⟨hs.1, hs2.2, fun a ha c hc => hs.2.2 a ha c (List.mem_cons_of_mem _ hc)⟩, fun f => ?_⟩, g1, hs2.1⟩
  rw [Zeg hk]
  by_cases hf : f.Name = e.Name
  · rw [if_pos hf]
    constructor
    · intro h'
      rcases List.mem_append.1 h' with h' | h'
      · have := g1 f h'; rw [hf] at this; exact absurd this (List.lt_irrefl _)
      · have := hs2.1 f h'; rw [hf] at this; exact absurd this (List.lt_irrefl _)
    · intro h; cases h
  · rw [if_neg hf, ← h.mem]
    simp only [List.mem_append, List.mem_cons]
    constructor
    · rintro (h | h)
      · exact .inl h
      · exact .inr (.inr h)
    · rintro (h | h | h)
      · exact .inl h
      · exact absurd (by rw [h]) hf
      · exact .inr h
theorem RL.set {L1 L2 : List Zah} {e : Zah} {x : Mp} (h : RL (L1 ++ e :: L2) x) (hk : (x.map Prod.fst).Nodup) (b : List UInt8) (l : Int) : RL (L1 ++ ⟨e.Name, b, l⟩ :: L2) (mput e.Name ⟨b, l⟩ x) := by
  obtain ⟨h1, h2, h3⟩ := h.drop hk
  refine (h1.put (b := b) (l := l) h2 h3 (by rw [Zeg hk, if_pos rfl])).congr fun n => ?_
  rw [ZbT, ZbT, Zeg hk]
  split <;> rfl
theorem ZgV (n : List UInt8) : ∀ (L : List Zah), L.Pairwise (fun a b => a.Name < b.Name) → (∃ L1 e L2, L = L1 ++ e :: L2 ∧ e.Name = n ∧ ∀ f ∈ L1, f.Name < n) ∨ (∃ L1 L2, L = L1 ++ L2 ∧ (∀ f ∈ L1, f.Name < n) ∧ (∀ f ∈ L2, n < f.Name))
  | [], _ => .inr ⟨[], [], rfl, fun _ h => by simp at h, fun _ h => by simp at h⟩
  | a :: L, h => by
    have h' := List.pairwise_cons.1 h
    by_cases h1 : a.Name < n
    · rcases ZgV n L h'.2 with ⟨L1, e, L2, rfl, h2, h3⟩ | ⟨L1, L2, rfl, h2, h3⟩
      · exact .inl ⟨a :: L1, e, L2, rfl, h2, fun f hf => by
          rcases List.mem_cons.1 hf with rfl | hf
          · exact h1
          · exact h3 f hf⟩
      · exact .inr ⟨a :: L1, L2, rfl, fun f hf => by
          rcases List.mem_cons.1 hf with rfl | hf
          · exact h1
          · exact h2 f hf, h3⟩
    · rcases List.le_iff_lt_or_eq.1 (show n ≤ a.Name from h1) with h2 | h2
      · exact .inr ⟨[], a :: L, rfl, fun _ h => by simp at h, fun f hf => by
          rcases List.mem_cons.1 hf with rfl | hf
          · exact h2
          · exact List.lt_trans h2 (h'.1 f hf)⟩
      · exact .inl ⟨[], a, L, rfl, h2.symm, fun _ h => by simp at h⟩
theorem RL.split {L : List Zah} {x : Mp} (h : RL L x) (n : List UInt8) : (∃ L1 e L2, L = L1 ++ e :: L2 ∧ e.Name = n ∧ (∀ f ∈ L1, f.Name < n) ∧ mget n x = some (vw e)) ∨ (∃ L1 L2, L = L1 ++ L2 ∧ (∀ f ∈ L1, f.Name < n) ∧ (∀ f ∈ L2, n < f.Name) ∧ mget n x = none) := by
  rcases ZgV n L h.srt with ⟨L1, e, L2, rfl, h2, h3⟩ | ⟨L1, L2, rfl, h2, h3⟩
  · exact .inl ⟨L1, e, L2, rfl, h2, h3, by rw [← h2]; exact (h.mem e).1 (by simp)⟩
  · refine .inr ⟨L1, L2, rfl, h2, h3, ?_⟩
    cases hg : mget n x with
    | none => rfl
    | some u =>
      rcases List.mem_append.1 (h.get hg) with h' | h'
      · exact absurd (h2 _ h') (List.lt_irrefl _)
      · exact absurd (h3 _ h') (List.lt_irrefl _)
theorem Zdf {T : Type} (A : List T) (e : T) (C : List T) : inO (A ++ e :: C) (A.length : Int) = some A.length := by rw [ZeR (by omega) (by simp)]; simp
theorem Zcp {T : Type} (A : List T) (e : T) (C : List T) : (A ++ e :: C)[A.length]? = some e := by simp
theorem ZfY {T : Type} (A : List T) (e : T) (C : List T) (f : T → T) : setF (A ++ e :: C) A.length f = some (A ++ f e :: C) := by
  unfold setF ZfP
  rw [Zcp, Option.bind_some, if_pos (by simp)]
  simp
theorem Zji {k : Nat} (A C : List Zah) (n : List UInt8) (h1 : ∀ e ∈ A, e.Name < n) (h2 : ∀ e, C.head? = some e → ¬ e.Name < n) (hk : A.length < k) (hA : A.length ≤ 1000000) : Zcl (fun s => ref05_Disk_at_pv_sovvvv.b1 k (A ++ C) n s) k (0 : Int) = some (A.length : Int) := by
  refine Zi8 (fun i : Nat => (i : Int)) A.length _ rfl (fun i hi => ?_) ?_ hk
  · have e1 : inO (A ++ C) (i : Int) = some i := by rw [ZeR (by omega) (by simp; omega)]; simp
    have e2 : (A ++ C)[i]? = some A[i] := by rw [List.getElem?_append_left hi, List.getElem?_eq_getElem hi]
    simp only [ref05_Disk_at_pv_sovvvv.b1, lt1, Zbz (show (i : Int) < ((A ++ C).length : Int) by simp; omega), if_true, e1, e2, Option.bind_some, Zbz (h1 _ (List.getElem_mem hi)), Zcm (show i < 9223372036854775807 by omega)]
  · cases C with
    | nil =>
      simp only [ref05_Disk_at_pv_sovvvv.b1, lt1, Zbq (show ¬ (A.length : Int) < ((A ++ []).length : Int) by simp), Bool.false_eq_true, if_false, Option.bind_some]
    | cons c C =>
      simp only [ref05_Disk_at_pv_sovvvv.b1, lt1, Zbz (show (A.length : Int) < ((A ++ c :: C).length : Int) by simp; omega), if_true, Zdf, Zcp, Option.bind_some, Zbq (h2 c rfl), Bool.false_eq_true, if_false]
theorem Zkk {k : Nat} (A : List Zah) (e : Zah) (C : List Zah) (h1 : ∀ f ∈ A, f.Name < e.Name) (hk : A.length < k) (hA : A.length ≤ 1000000) (c f : Int) (d : Bool) (w : Int) : ref05_Disk_at_pv_sovvvv k e.Name c f d w (A ++ e :: C) = some ((A.length : Int), true) := by
  have h := Zji (k := k) A (e :: C) e.Name h1 (fun g hg => by cases hg; exact List.lt_irrefl _) hk hA
  simp only [ref05_Disk_at_pv_sovvvv, h, Option.bind_some, lt1, Zbz (show (A.length : Int) < ((A ++ e :: C).length : Int) by simp; omega), if_true, Zdf, Zcp, beq_self_eq_true]
theorem ZiU {k : Nat} (A C : List Zah) (n : List UInt8) (h1 : ∀ f ∈ A, f.Name < n) (h2 : ∀ f ∈ C, n < f.Name) (hk : A.length < k) (hA : A.length ≤ 1000000) (c f : Int) (d : Bool) (w : Int) : ref05_Disk_at_pv_sovvvv k n c f d w (A ++ C) = some ((A.length : Int), false) := by
  have h := Zji (k := k) A C n h1 (fun g hg => by
    cases C with
    | nil => cases hg
    | cons g' C =>
      have e : g' = g := by simpa using hg
      rw [← e]; exact List.lt_asymm (h2 g' (List.mem_cons_self ..))) hk hA
  cases C with
  | nil => simp only [ref05_Disk_at_pv_sovvvv, h, Option.bind_some, lt1, Zbq (show ¬ (A.length : Int) < ((A ++ []).length : Int) by simp), Bool.false_eq_true, if_false]
  | cons g C =>
    have : (g.Name == n) = false := by
      rw [beq_eq_false_iff_ne]
      intro e
      have := h2 g (List.mem_cons_self ..)
      rw [e] at this
      exact List.lt_irrefl _ this
    simp only [ref05_Disk_at_pv_sovvvv, h, Option.bind_some, lt1, Zbz (show (A.length : Int) < ((A ++ g :: C).length : Int) by simp; omega), if_true, Zdf, Zcp, this]
theorem Zei {k : Nat} (n : List UInt8) (hk : 32 < k) : ref05_MayName k n = some (mayN n) := by
  by_cases h1 : n.length < 1
  · have : mayN n = false := by unfold mayN; rw [Zbq (show ¬ 1 ≤ n.length by omega)]; simp
    simp only [ref05_MayName, lt1, Zbz (show (n.length : Int) < 1 by omega), cond_true, Option.bind_some, if_true, this]
  by_cases h2 : n.length > 32
  · have : mayN n = false := by unfold mayN; rw [Zbq (show ¬ n.length ≤ 32 by omega)]; simp
    simp only [ref05_MayName, lt1, Zbq (show ¬ (n.length : Int) < 1 by omega), Zbz (show (n.length : Int) > 32 by omega), cond_false, Option.bind_some, if_true, this]
  have h3 : mayN n = n.all okC := by unfold mayN; rw [Zbz (show 1 ≤ n.length by omega), Zbz (show n.length ≤ 32 by omega)]; simp
  have hl := Zih (body := fun s => ref05_MayName.b1 k n s) n.length (fun i => ∀ h : i < n.length, okC n[i] = true) (b := false) (k := k) ?_ ?_ (by omega)
  · simp only [ref05_MayName, lt1, Zbq (show ¬ (n.length : Int) < 1 by omega), Zbq (show ¬ (n.length : Int) > 32 by omega), cond_false, Option.bind_some, Bool.false_eq_true, if_false, hl, h3]
    by_cases ha : n.all okC = true
    · have : ∀ i, i < n.length → ∀ h : i < n.length, okC n[i] = true := fun i _ h => List.all_eq_true.1 ha _ (List.getElem_mem h)
      rw [if_pos this, ha]
      rfl
    · have : ¬ ∀ i, i < n.length → ∀ h : i < n.length, okC n[i] = true := fun h => ha (List.all_eq_true.2 fun c hc => by
        obtain ⟨i, hi, rfl⟩ := List.getElem_of_mem hc
        exact h i hi hi)
      rw [if_neg this]
      have ha : n.all okC = false := by simpa using ha
      rw [ha]
      rfl
  · intro i hi
    have hle : ∀ a b : UInt8, decide (a ≤ b) = !decide (b < a) := fun a b => by
      by_cases h : a ≤ b
      · rw [Zbz h, Zbq (UInt8.not_lt.2 h)]; rfl
      · rw [Zbq h, Zbz (UInt8.not_le.1 h)]; rfl
    have hi' : idxL n (i : Int) = some n[i] := Ze6 hi
    have hs := Zcm (show i < 9223372036854775807 by omega)
    have hb : ref05_MayName.b1 k n (i : Int) = if okC n[i] = true then some (.inl ((i + 1 : Nat) : Int)) else some (.inr (.inr false)) := by
      simp only [ref05_MayName.b1, lt1, Zbz (show (i : Int) < (n.length : Int) by omega), if_true, hi', Option.bind_some, hle, hs]
      unfold okC
      cases h1 : decide (n[i] < 97) <;> cases h2 : decide (122 < n[i]) <;> cases h3 : decide (n[i] < 48) <;> cases h4 : decide (57 < n[i]) <;> cases h5 : (n[i] == 46) <;> cases h6 : (n[i] == 45) <;> (simp only [h1, h2, h3, h4, h5, h6, Bool.not_true, Bool.not_false, cond_true, cond_false, if_true, if_false, Option.bind_some, Bool.and_true, Bool.and_false, Bool.true_and, Bool.false_and, Bool.or_true, Bool.or_false, Bool.true_or, Bool.false_or, Bool.false_eq_true, reduceCtorEq]; try rfl)
    rw [hb]
    by_cases hc : okC n[i] = true
    · rw [if_pos hc, if_pos (show ∀ h : i < n.length, okC n[i] = true from fun _ => hc)]
    · rw [if_neg hc, if_neg (show ¬ ∀ h : i < n.length, okC n[i] = true from fun h => hc (h hi))]
  · simp only [ref05_MayName.b1, lt1, Zbq (show ¬ (n.length : Int) < (n.length : Int) by omega), Bool.false_eq_true, if_false]
theorem Zhp {k : Nat} (hk : 100 < k) {L : List Zah} {x : Mp} (h : RL L x) (hl : L.length ≤ 64) (n : List UInt8) (c f : Int) (d : Bool) (w : Int) : ∃ p, ZaO k n c f d w L = some (p, fnd x n) ∧ (fnd x n = 0 → ∃ L1 e L2, L = L1 ++ e :: L2 ∧ e.Name = n ∧ p = (L1.length : Int) ∧ (∀ f ∈ L1, f.Name < n) ∧ mget n x = some (vw e)) := by
  have hm := Zei (k := k) n (by omega)
  rcases Zca x n with ⟨f1, f2⟩ | ⟨f1, f2, f3⟩ | ⟨f1, f2, u, f3⟩
  · exact ⟨0, by simp only [ZaO, hm, f2, Option.bind_some, lt1, Bool.not_false, if_true, f1], fun h => by rw [f1] at h; cases h⟩
  · rcases h.split n with ⟨L1, e, L2, rfl, h2, h3, h4⟩ | ⟨L1, L2, rfl, h2, h3, h4⟩
    · rw [f3] at h4; cases h4
    · have ha := ZiU (k := k) L1 L2 n h2 h3 (by simp at hl; omega) (by simp at hl; omega) c f d w
      exact ⟨0, by simp only [ZaO, hm, f2, Option.bind_some, lt1, Bool.not_true, Bool.not_false, Bool.false_eq_true, if_false, if_true, f1, ha], fun h => by rw [f1] at h; cases h⟩
  · rcases h.split n with ⟨L1, e, L2, rfl, rfl, h3, h4⟩ | ⟨L1, L2, rfl, h2, h3, h4⟩
    · have ha := Zkk (k := k) L1 e L2 h3 (by simp at hl; omega) (by simp at hl; omega) c f d w
      exact ⟨_, by simp only [ZaO, hm, f2, Option.bind_some, lt1, Bool.not_true, Bool.false_eq_true, if_false, f1, ha], fun _ => ⟨L1, e, L2, rfl, rfl, rfl, h3, h4⟩⟩
    · rw [f3] at h4; cases h4
theorem Zfh (k : Nat) (s : DS) (h : DInv s) (hw : s.writes < 9223372036854775807) (F : Int) (hF : s.dead = false → F = s.fuse) (c : Int) (L : List Zah) : ∃ ok torn F' d' w', ZaK k c F s.dead s.writes L = some (ok, torn, F', d', w') ∧ ∀ a b, (wr s a b).1 = (if ok = true then 0 else 8) ∧ (wr s a b).2.x = (if ok = true then a else if torn = true then b else s.x) ∧ (wr s a b).2.dead = d' ∧ (wr s a b).2.writes = w' ∧ ((wr s a b).2.dead = false → F' = (wr s a b).2.fuse) := by
  have e1 : w64 (s.writes + 1) = s.writes + 1 := Zch (by have := h.wr1; omega) (by omega)
  by_cases hd : s.dead = true
  · refine ⟨false, false, F, true, s.writes, by simp only [ZaK, hd, if_true], fun a b => ?_⟩
    unfold wr
    rw [if_pos hd]
    exact ⟨rfl, rfl, hd, rfl, fun h => by rw [hd] at h; cases h⟩
  · have hd' : s.dead = false := by simpa using hd
    have hF := hF hd'
    subst hF
    by_cases hz : s.fuse = 0
    · have hz' : (s.fuse == 0) = true := by rw [hz]; rfl
      refine ⟨false, true, s.fuse, true, s.writes + 1, by simp only [ZaK, hd', Bool.false_eq_true, if_false, lt1, e1, hz', if_true], fun a b => ?_⟩
      unfold wr
      rw [if_neg hd, if_pos hz]
      exact ⟨rfl, rfl, rfl, rfl, fun _ => rfl⟩
    · have hz' : (s.fuse == 0) = false := by simpa using hz
      by_cases hp : s.fuse > 0
      · have e2 : w64 (s.fuse - 1) = s.fuse - 1 := Zch (by omega) (by have := h.fuse2; omega)
        refine ⟨true, false, s.fuse - 1, false, s.writes + 1, by simp only [ZaK, hd', Bool.false_eq_true, if_false, lt1, e1, hz', Zbz hp, if_true, e2, Option.bind_some], fun a b => ?_⟩
        unfold wr
        rw [if_neg hd, if_neg hz, if_pos hp]
        exact ⟨rfl, rfl, hd', rfl, fun _ => rfl⟩
      · refine ⟨true, false, s.fuse, false, s.writes + 1, by simp only [ZaK, hd', Bool.false_eq_true, if_false, lt1, e1, hz', Zbq hp, Option.bind_some], fun a b => ?_⟩
        unfold wr
        rw [if_neg hd, if_neg hz, if_neg hp]
        exact ⟨rfl, rfl, hd', rfl, fun _ => rfl⟩
def OpR (o : Option (Int × List Zah × Int × Bool × Int)) (r : Int × DS) : Prop := ∃ L' F', o = some (r.1, L', F', r.2.dead, r.2.writes) ∧ RL L' r.2.x ∧ (r.2.dead = false → F' = r.2.fuse)
theorem ZdV (k : Nat) (b : Bool) : Zc3 k b = some (if b = true then 0 else 8) := by cases b <;> rfl
theorem ZkU {k : Nat} (hk : 100 < k) (s : DS) (h : DInv s) (hw : s.writes < 9223372036854775807) {L : List Zah} {F : Int} (hR : RL L s.x) (hF : s.dead = false → F = s.fuse) (n : List UInt8) (c : Int) : OpR (Zbk k n c F s.dead s.writes L) (sync s n) := by
  have hl : L.length ≤ 64 := by rw [hR.len h.kn]; exact h.len
  obtain ⟨p, e1, e2⟩ := Zhp hk hR hl n c F s.dead s.writes
  unfold sync
  by_cases h0 : fnd s.x n = 0
  · rw [if_pos h0]
    obtain ⟨L1, e, L2, rfl, rfl, rfl, h1, h2⟩ := e2 h0
    obtain ⟨ok, torn, F', d', w', w1, w2⟩ := Zfh k s h hw F hF c (L1 ++ e :: L2)
    obtain ⟨q1, q2, q3, q4, q5⟩ := w2 (mput e.Name { old s.x e.Name with lasts := ((old s.x e.Name).b.length : Int) } s.x) s.x
    have e0 : ((0 : Int) != 0) = false := rfl
    cases ok with
    | false =>
      refine ⟨L1 ++ e :: L2, F', ?_, ?_, q5⟩
      · rw [q1, q3, q4]
        simp only [Zbk, e1, h0, Option.bind_some, lt1, e0, Bool.false_eq_true, if_false, w1, ZdV]
      · rw [q2]; cases torn <;> exact hR
    | true =>
      refine ⟨L1 ++ { e with Lasts := (e.B.length : Int) } :: L2, F', ?_, ?_, q5⟩
      · rw [q1, q3, q4]
        simp only [Zbk, e1, h0, Option.bind_some, lt1, e0, Bool.false_eq_true, if_false, w1, ZdV, if_true, Zdf, Zcp, ZfY]
      · rw [q2, if_pos rfl, ZbP h2]; exact hR.set h.kn _ _
  · rw [if_neg h0]
    have e0 : (fnd s.x n != 0) = true := by simpa using h0
    exact ⟨L, F, by simp only [Zbk, e1, Option.bind_some, lt1, e0, if_true], hR, hF⟩
theorem Zk6 {k : Nat} (hk : 100 < k) (s : DS) (h : DInv s) (hw : s.writes < 9223372036854775807) {L : List Zah} {F : Int} (hR : RL L s.x) (hF : s.dead = false → F = s.fuse) (n : List UInt8) (m : Int) (c : Int) : OpR (ZaI k n m c F s.dead s.writes L) (cut s n m) := by
  have hl : L.length ≤ 64 := by rw [hR.len h.kn]; exact h.len
  obtain ⟨p, e1, e2⟩ := Zhp hk hR hl n c F s.dead s.writes
  unfold cut
  rcases Zca s.x n with ⟨f1, _⟩ | ⟨f1, _, _⟩ | ⟨f1, _, _⟩
  · rw [if_neg (by rw [f1]; decide), if_neg (by rw [f1]; intro h; exact absurd h.1 (by decide)), f1]
    rw [f1] at e1
    exact ⟨L, F, by simp only [ZaI, e1, Option.bind_some, lt1, show ((2 : Int) == 2) = true from rfl, cond_true, if_true], hR, hF⟩
  · rw [if_neg (by rw [f1]; decide)]
    rw [f1] at e1
    by_cases hm : m < 0
    · rw [if_pos ⟨f1, hm⟩]
      exact ⟨L, F, by simp only [ZaI, e1, Option.bind_some, lt1, show ((6 : Int) == 2) = false from rfl, cond_false, Zbz hm, if_true], hR, hF⟩
    · rw [if_neg (fun h => hm h.2), f1]
      exact ⟨L, F, by simp only [ZaI, e1, Option.bind_some, lt1, show ((6 : Int) == 2) = false from rfl, show ((6 : Int) == 0) = false from rfl, show ((6 : Int) != 0) = true from rfl, cond_false, Zbq hm, if_true, Bool.false_eq_true, if_false], hR, hF⟩
  · rw [if_pos f1]
    obtain ⟨L1, e, L2, rfl, rfl, rfl, h1, h2⟩ := e2 f1
    rw [f1] at e1
    have ho : old s.x e.Name = vw e := ZbP h2
    by_cases hm : m < 0
    · rw [if_pos (.inl hm)]
      exact ⟨_, F, by simp only [ZaI, e1, Option.bind_some, lt1, show ((0 : Int) == 2) = false from rfl, cond_false, Zbz hm, if_true], hR, hF⟩
    · by_cases hml : m > (e.B.length : Int)
      · rw [if_pos (.inr (by rw [ho]; exact hml))]
        exact ⟨_, F, by simp only [ZaI, e1, Option.bind_some, lt1, show ((0 : Int) == 2) = false from rfl, show ((0 : Int) == 0) = true from rfl, cond_false, Zbq hm, if_true, Bool.false_eq_true, if_false, Zdf, Zcp, Zbz hml], hR, hF⟩
      · rw [if_neg (by rw [ho]; rintro (h | h); exact hm h; exact hml h)]
        obtain ⟨ok, torn, F', d', w', w1, w2⟩ := Zfh k s h hw F hF c (L1 ++ e :: L2)
        obtain ⟨q1, q2, q3, q4, q5⟩ := w2 (mput e.Name (cutF (old s.x e.Name) m) s.x) s.x
        have e0 : ((0 : Int) != 0) = false := rfl
        cases ok with
        | false =>
          refine ⟨L1 ++ e :: L2, F', ?_, ?_, q5⟩
          · rw [q1, q3, q4]
            simp only [ZaI, e1, Option.bind_some, lt1, e0, show ((0 : Int) == 2) = false from rfl, show ((0 : Int) == 0) = true from rfl, cond_false, Zbq hm, if_true, Bool.false_eq_true, if_false, Zdf, Zcp, Zbq hml, w1, ZdV]
          · rw [q2]; cases torn <;> exact hR
        | true =>
          have hs : subL e.B 0 m = some (e.B.take m.toNat) := by rw [ZeY (by omega) (by omega) (by omega)]; simp
          by_cases hg : e.Lasts > m
          · refine ⟨L1 ++ ⟨e.Name, e.B.take m.toNat, m⟩ :: L2, F', ?_, ?_, q5⟩
            · rw [q1, q3, q4]
              simp only [ZaI, e1, Option.bind_some, lt1, e0, show ((0 : Int) == 2) = false from rfl, show ((0 : Int) == 0) = true from rfl, cond_false, Zbq hm, if_true, Bool.false_eq_true, if_false, Zdf, Zcp, Zbq hml, w1, ZdV, hs, ZfY, Zbz hg]
            · rw [q2, if_pos rfl, ho]
              have : cutF (vw e) m = ⟨e.B.take m.toNat, m⟩ := by unfold cutF vw minI; congr 1; simp only; split <;> omega
              rw [this]; exact hR.set h.kn _ _
          · refine ⟨L1 ++ ⟨e.Name, e.B.take m.toNat, e.Lasts⟩ :: L2, F', ?_, ?_, q5⟩
            · rw [q1, q3, q4]
              simp only [ZaI, e1, Option.bind_some, lt1, e0, show ((0 : Int) == 2) = false from rfl, show ((0 : Int) == 0) = true from rfl, cond_false, Zbq hm, if_true, Bool.false_eq_true, if_false, Zdf, Zcp, Zbq hml, w1, ZdV, hs, ZfY, Zbq hg]
            · rw [q2, if_pos rfl, ho]
              have : cutF (vw e) m = ⟨e.B.take m.toNat, e.Lasts⟩ := by unfold cutF vw minI; congr 1; simp only; split <;> omega
              rw [this]; exact hR.set h.kn _ _
theorem ZjM (A : List Zah) (C : List Zah) : subL (A ++ C) 0 (A.length : Int) = some A := by rw [ZeY (by omega) (by omega) (by rw [List.length_append]; omega)]; simp
theorem Zkv (A C : List Zah) : subL (A ++ C) (A.length : Int) ((A ++ C).length : Int) = some C := by
  rw [ZeY (by omega) (by rw [List.length_append]; omega) (by omega)]
  simp only [Int.toNat_natCast, List.drop_left]
  congr 1
  apply List.take_of_length_le
  rw [List.length_append]
  omega
theorem Zjg (k : Nat) (A : List Zah) (e : Zah) (C : List Zah) (hl : (A ++ e :: C).length ≤ 1000) (c f : Int) (d : Bool) (w : Int) : Zbl k (A.length : Int) c f d w (A ++ e :: C) = some (A ++ C) := by
  simp only [List.length_append, List.length_cons] at hl
  have h2 : subL (A ++ e :: C) ((A.length + 1 : Nat) : Int) ((A ++ e :: C).length : Int) = some C := by
    rw [ZeY (by omega) (by simp; omega) (by omega)]
    have : A ++ e :: C = (A ++ [e]) ++ C := by simp
    rw [this]
    have h3 : ((A.length + 1 : Nat) : Int).toNat = (A ++ [e]).length := by simp
    rw [h3, List.drop_left]
    congr 1
    apply List.take_of_length_le
    simp; omega
  simp only [Zbl, ZjM, Option.bind_some, ZcD (show (([] : List Zah).length + A.length) * 48 ≤ 140737488355328 by simp; omega), List.nil_append, lt1, Zcm (show A.length < 9223372036854775807 by omega), h2, ZcD (show (A.length + C.length) * 48 ≤ 140737488355328 by omega)]
theorem Zj2 {k : Nat} (hk : 100 < k) (s : DS) (h : DInv s) (hw : s.writes < 9223372036854775807) {L : List Zah} {F : Int} (hR : RL L s.x) (hF : s.dead = false → F = s.fuse) (n : List UInt8) (c : Int) : OpR (Zbd k n c F s.dead s.writes L) (ZeT s n) := by
  have hl : L.length ≤ 64 := by rw [hR.len h.kn]; exact h.len
  obtain ⟨p, e1, e2⟩ := Zhp hk hR hl n c F s.dead s.writes
  unfold ZeT
  by_cases h0 : fnd s.x n = 0
  · rw [if_pos h0]
    obtain ⟨L1, e, L2, rfl, rfl, rfl, h1, h2⟩ := e2 h0
    obtain ⟨ok, torn, F', d', w', w1, w2⟩ := Zfh k s h hw F hF c (L1 ++ e :: L2)
    obtain ⟨q1, q2, q3, q4, q5⟩ := w2 (mdel e.Name s.x) s.x
    have e0 : ((0 : Int) != 0) = false := rfl
    cases ok with
    | false =>
      refine ⟨L1 ++ e :: L2, F', ?_, ?_, q5⟩
      · rw [q1, q3, q4]
        simp only [Zbd, e1, h0, Option.bind_some, lt1, e0, Bool.false_eq_true, if_false, w1, ZdV]
      · rw [q2]; cases torn <;> exact hR
    | true =>
      refine ⟨L1 ++ L2, F', ?_, ?_, q5⟩
      · rw [q1, q3, q4]
        simp only [Zbd, e1, h0, Option.bind_some, lt1, e0, Bool.false_eq_true, if_false, w1, ZdV, if_true, Zjg k L1 e L2 (by omega)]
      · rw [q2, if_pos rfl]; exact (hR.drop h.kn).1
  · rw [if_neg h0]
    have e0 : (fnd s.x n != 0) = true := by simpa using h0
    exact ⟨L, F, by simp only [Zbd, e1, Option.bind_some, lt1, e0, if_true], hR, hF⟩
theorem Zj8 {k : Nat} (L : List Zah) (cap : Int) (h1 : 0 ≤ cap) (h2 : cap ≤ 16777216) (h3 : (((L.map fun e => e.B.length).sum : Nat) : Int) ≤ 16777216) (hk : L.length < k) (hl : L.length ≤ 64) (f : Int) (d : Bool) (w : Int) : ref05_Disk_Room_p_sovvvv k cap f d w L = some (cap - ((L.map fun e => e.B.length).sum : Nat)) := by
  have hloop : Zcl (fun s => ref05_Disk_Room_p_sovvvv.b1 k L s.1 s.2) k (cap, (0 : Int)) = some (cap - ((L.map fun e => e.B.length).sum : Nat)) := by
    refine Zi8 (fun i : Nat => (cap - (((L.take i).map fun e => e.B.length).sum : Nat), (i : Int))) L.length _ (by simp) (fun i hi => ?_) ?_ hk
    · have e1 : inO L (i : Int) = some i := by rw [ZeR (by omega) (by omega)]; simp
      have e2 : L[i]? = some L[i] := List.getElem?_eq_getElem hi
      have e3 : ((L.take (i + 1)).map fun e => e.B.length).sum = ((L.take i).map fun e => e.B.length).sum + L[i].B.length := by
        rw [List.take_succ_eq_append_getElem hi, List.map_append, List.sum_append_nat]; simp
      have e4 : ((L.take (i + 1)).map fun e => e.B.length).sum ≤ (L.map fun e => e.B.length).sum := by
        have : (L.map fun e => e.B.length).sum = ((L.take (i + 1)).map fun e => e.B.length).sum + ((L.drop (i + 1)).map fun e => e.B.length).sum := by
          rw [← List.sum_append_nat, ← List.map_append, List.take_append_drop]
        omega
      have e5 : w64 (cap - (((L.take i).map fun e => e.B.length).sum : Nat) - (L[i].B.length : Int)) = cap - (((L.take (i + 1)).map fun e => e.B.length).sum : Nat) := by
        rw [Zch (by omega) (by omega)]; omega
      simp only [ref05_Disk_Room_p_sovvvv.b1, lt1, Zbz (show (i : Int) < (L.length : Int) by omega), if_true, e1, e2, Option.bind_some, e5, Zcm (show i < 9223372036854775807 by omega)]
    · simp only [ref05_Disk_Room_p_sovvvv.b1, lt1, Zbq (show ¬ (L.length : Int) < (L.length : Int) by omega), Bool.false_eq_true, if_false]
      rw [List.take_of_length_le (Nat.le_refl _)]
  simp only [ref05_Disk_Room_p_sovvvv, hloop, Option.bind_some]
theorem ZjJ {k : Nat} (hk : 100 < k) (s : DS) (h : DInv s) (hw : s.writes < 9223372036854775807) {L : List Zah} {F : Int} (hR : RL L s.x) (hF : s.dead = false → F = s.fuse) (n b : List UInt8) (hb : b.length ≤ 1000000) : OpR (Zay k n b s.cap F s.dead s.writes L) (append s n b) := by
  have hlen := hR.len h.kn
  have hl : L.length ≤ 64 := by rw [hlen]; exact h.len
  have hm := Zei (k := k) n (by omega)
  have htot := hR.tot h.kn
  have ht := h.tot
  have hc2 := h.cap2
  have hc1 := h.cap1
  have hroom := fun f d w => Zj8 (k := k) L s.cap (by omega) h.cap2 (by rw [htot]; omega) (by omega) hl f d w
  rw [htot] at hroom
  unfold append
  by_cases hn : mayN n = false
  · rw [if_pos hn]
    exact ⟨L, F, by simp only [Zay, hm, hn, Option.bind_some, lt1, Bool.not_false, if_true], hR, hF⟩
  rw [if_neg hn]
  have hn : mayN n = true := by simpa using hn
  rcases hR.split n with ⟨L1, e, L2, rfl, rfl, g1, g2⟩ | ⟨L1, L2, rfl, g1, g2, g3⟩
  · have ha := fun c f d w => Zkk (k := k) L1 e L2 g1 (by simp at hl; omega) (by simp at hl; omega) c f d w
    by_cases hr : (b.length : Int) > s.cap - (tot sz s.x : Int)
    · rw [if_pos (.inl hr)]
      exact ⟨_, F, by simp only [Zay, hm, hn, Option.bind_some, lt1, Bool.not_true, Bool.false_eq_true, if_false, ha, hroom, Zbz hr, if_true], hR, hF⟩
    · rw [if_neg (show ¬ full s e.Name b by rintro (h | h); exact hr h; rw [g2] at h; cases h.1)]
      obtain ⟨ok, torn, F', d', w', w1, w2⟩ := Zfh k s h hw F hF s.cap (L1 ++ e :: L2)
      obtain ⟨q1, q2, q3, q4, q5⟩ := w2 (lay s.x e.Name b) (lay s.x e.Name b)
      have hel : e.B.length ≤ 16777216 := h.size (n := e.Name) g2
      have hlay : RL (L1 ++ { e with B := e.B ++ b } :: L2) (lay s.x e.Name b) := by
        unfold lay; rw [ZbP g2]; exact hR.set h.kn _ _
      have a1 := ZcD (show (([] : List UInt8).length + e.B.length) * 1 ≤ 140737488355328 by simp; omega)
      have a2 := ZcD (show (e.B.length + b.length) * 1 ≤ 140737488355328 by omega)
      by_cases hw : (bif ok then true else torn) = true
      · refine ⟨L1 ++ { e with B := e.B ++ b } :: L2, F', ?_, ?_, q5⟩
        · rw [q1, q3, q4]
          simp only [Zay, hm, hn, Option.bind_some, lt1, Bool.not_true, Bool.false_eq_true, if_false, ha, hroom, Zbq hr, w1, hw, if_true, Zdf, Zcp, a1, List.nil_append, a2, ZfY, ZdV]
        · rw [q2]
          cases ok <;> cases torn <;> first | exact hlay | cases hw
      · have hw : (bif ok then true else torn) = false := by simpa using hw
        refine ⟨L1 ++ e :: L2, F', ?_, ?_, q5⟩
        · rw [q1, q3, q4]
          simp only [Zay, hm, hn, Option.bind_some, lt1, Bool.not_true, Bool.false_eq_true, if_false, ha, hroom, Zbq hr, w1, hw, ZdV]
        · rw [q2]
          cases ok <;> cases torn <;> first | exact hR | cases hw
  · have ha := fun c f d w => ZiU (k := k) L1 L2 n g1 g2 (by simp at hl; omega) (by simp at hl; omega) c f d w
    by_cases hr : (b.length : Int) > s.cap - (tot sz s.x : Int)
    · rw [if_pos (.inl hr)]
      exact ⟨_, F, by simp only [Zay, hm, hn, Option.bind_some, lt1, Bool.not_true, Bool.false_eq_true, if_false, ha, hroom, Zbz hr, if_true], hR, hF⟩
    · by_cases h6 : s.x.length ≥ 64
      · rw [if_pos (.inr ⟨g3, h6⟩)]
        exact ⟨_, F, by simp only [Zay, hm, hn, Option.bind_some, lt1, Bool.not_true, Bool.not_false, Bool.false_eq_true, if_false, ha, hroom, Zbq hr, if_true, Zbz (show ((L1 ++ L2).length : Int) ≥ 64 by omega)], hR, hF⟩
      rw [if_neg (show ¬ full s n b by rintro (h | h); exact hr h; exact h6 h.2)]
      obtain ⟨ok, torn, F', d', w', w1, w2⟩ := Zfh k s h hw F hF s.cap (L1 ++ L2)
      obtain ⟨q1, q2, q3, q4, q5⟩ := w2 (lay s.x n b) (lay s.x n b)
      have hlay : RL (L1 ++ ⟨n, [] ++ b, 0⟩ :: L2) (lay s.x n b) := by
        unfold lay
        have : old s.x n = ⟨[], 0⟩ := by unfold old; rw [g3]; rfl
        rw [this]; exact hR.put g1 g2 g3
      have hll : L1.length + L2.length ≤ 64 := by simpa using hl
      have b1 := ZcD (show (([] : List Zah).length + L1.length) * 48 ≤ 140737488355328 by simp; omega)
      have b2 := ZcD (show (L1.length + ([(Zah.mk n ([] : (List UInt8)) (0 : Int))] : List Zah).length) * 48 ≤ 140737488355328 by simp; omega)
      have b3 := ZcD (show ((L1 ++ [(Zah.mk n ([] : (List UInt8)) (0 : Int))]).length + L2.length) * 48 ≤ 140737488355328 by simp; omega)
      have b4 : L1 ++ [(Zah.mk n ([] : (List UInt8)) (0 : Int))] ++ L2 = L1 ++ (Zah.mk n ([] : (List UInt8)) (0 : Int)) :: L2 := by simp
      have a1 := ZcD (show (([] : List UInt8).length + ([] : List UInt8).length) * 1 ≤ 140737488355328 by simp)
      have a2 := ZcD (show (([] : List UInt8).length + b.length) * 1 ≤ 140737488355328 by simp; omega)
      by_cases hw : (bif ok then true else torn) = true
      · refine ⟨L1 ++ ⟨n, [] ++ b, 0⟩ :: L2, F', ?_, ?_, q5⟩
        · rw [q1, q3, q4]
          simp only [Zay, hm, hn, Option.bind_some, lt1, Bool.not_true, Bool.not_false, Bool.false_eq_true, if_false, ha, hroom, Zbq hr, Zbq (show ¬ ((L1 ++ L2).length : Int) ≥ 64 by omega), w1, hw, if_true, ZjM, Zkv, b1, List.nil_append, b2, b3, b4, Zdf, Zcp, a1, a2, ZfY, ZdV]
        · rw [q2]
          cases ok <;> cases torn <;> first | exact hlay | cases hw
      · have hw : (bif ok then true else torn) = false := by simpa using hw
        refine ⟨L1 ++ L2, F', ?_, ?_, q5⟩
        · rw [q1, q3, q4]
          simp only [Zay, hm, hn, Option.bind_some, lt1, Bool.not_true, Bool.not_false, Bool.false_eq_true, if_false, ha, hroom, Zbq hr, Zbq (show ¬ ((L1 ++ L2).length : Int) ≥ 64 by omega), if_true, w1, hw, ZdV]
        · rw [q2]
          cases ok <;> cases torn <;> first | exact hR | cases hw
theorem ZjD {k : Nat} (hk : 100 < k) (s : DS) (h : DInv s) (hw : s.writes < 9223372036854775807) {L : List Zah} {F : Int} (hR : RL L s.x) (hF : s.dead = false → F = s.fuse) (n t : List UInt8) (c : Int) : OpR (Zaz k n t c F s.dead s.writes L) (ZeC s n t) := by
  have hl : L.length ≤ 64 := by rw [hR.len h.kn]; exact h.len
  have hm := Zei (k := k) t (by omega)
  obtain ⟨p, e1, e2⟩ := Zhp hk hR hl n c F s.dead s.writes
  unfold ZeC
  rcases Zca s.x n with ⟨f1, _⟩ | ⟨f1, _, _⟩ | ⟨f1, _, _⟩
  · rw [f1] at e1
    have : (if mayN t = false then ((2 : Int), s) else if fnd s.x n = 0 then wr s (mput t (old s.x n) (mdel n s.x)) s.x else (fnd s.x n, s)) = (2, s) := by
      split
      · rfl
      · rw [if_neg (by rw [f1]; decide), f1]
    rw [this]
    exact ⟨L, F, by simp only [Zaz, e1, Option.bind_some, lt1, show ((2 : Int) == 2) = true from rfl, Bool.not_true, Bool.false_eq_true, if_false, cond_true, if_true], hR, hF⟩
  · rw [f1] at e1
    by_cases ht : mayN t = false
    · rw [if_pos ht]
      exact ⟨L, F, by simp only [Zaz, e1, Option.bind_some, lt1, show ((6 : Int) == 2) = false from rfl, Bool.not_false, hm, ht, cond_false, if_true], hR, hF⟩
    · rw [if_neg ht, if_neg (by rw [f1]; decide), f1]
      have ht : mayN t = true := by simpa using ht
      exact ⟨L, F, by simp only [Zaz, e1, Option.bind_some, lt1, show ((6 : Int) == 2) = false from rfl, Bool.not_false, Bool.not_true, hm, ht, cond_false, if_true, Bool.false_eq_true, if_false, show ((6 : Int) != 0) = true from rfl], hR, hF⟩
  · obtain ⟨L1, e, L2, rfl, rfl, rfl, h1, h2⟩ := e2 f1
    rw [f1] at e1
    by_cases ht : mayN t = false
    · rw [if_pos ht]
      exact ⟨_, F, by simp only [Zaz, e1, Option.bind_some, lt1, show ((0 : Int) == 2) = false from rfl, Bool.not_false, hm, ht, cond_false, if_true], hR, hF⟩
    rw [if_neg ht, if_pos f1]
    have ht : mayN t = true := by simpa using ht
    have ho : old s.x e.Name = vw e := ZbP h2
    obtain ⟨ok, torn, F', d', w', w1, w2⟩ := Zfh k s h hw F hF c (L1 ++ e :: L2)
    obtain ⟨q1, q2, q3, q4, q5⟩ := w2 (mput t (old s.x e.Name) (mdel e.Name s.x)) s.x
    have e0 : ((0 : Int) != 0) = false := rfl
    cases ok with
    | false =>
      refine ⟨L1 ++ e :: L2, F', ?_, ?_, q5⟩
      · rw [q1, q3, q4]
        simp only [Zaz, e1, Option.bind_some, lt1, show ((0 : Int) == 2) = false from rfl, Bool.not_false, Bool.not_true, hm, ht, cond_false, if_true, Bool.false_eq_true, if_false, e0, w1, ZdV]
      · rw [q2]; cases torn <;> exact hR
    | true =>
      by_cases hnt : e.Name = t
      · have hb : (e.Name != t) = false := by simpa using hnt
        refine ⟨L1 ++ e :: L2, F', ?_, ?_, q5⟩
        · rw [q1, q3, q4]
          simp only [Zaz, e1, Option.bind_some, lt1, show ((0 : Int) == 2) = false from rfl, Bool.not_false, Bool.not_true, hm, ht, cond_false, cond_true, if_true, Bool.false_eq_true, if_false, e0, w1, ZdV, hb]
        · rw [q2, if_pos rfl, ho, ← hnt]
          refine hR.congr fun m => ?_
          rw [ZbT, Zeg h.kn]
          by_cases hmn : m = e.Name
          · rw [if_pos hmn, hmn, h2]
          · rw [if_neg hmn, if_neg hmn]
      · have hb : (e.Name != t) = true := by simpa using hnt
        obtain ⟨hd, d1, d2⟩ := hR.drop h.kn
        have hdk : ((mdel e.Name s.x).map Prod.fst).Nodup := Zgu h.kn
        have hll : L1.length + L2.length ≤ 63 := by simp at hl; omega
        have dr := fun c f d w => Zjg k L1 e L2 (by omega) c f d w
        rcases hd.split t with ⟨A, g, C, hAC, rfl, g1, g2⟩ | ⟨A, C, hAC, g1, g2, g3⟩
        · rw [hAC] at hd
          have hAl : A.length + C.length ≤ 62 := by
            have := congrArg List.length hAC
            simp only [List.length_append, List.length_cons] at this
            omega
          have ha := fun c f d w => Zkk (k := k) A g C g1 (by omega) (by omega) c f d w
          have dr2 := fun c f d w => Zjg k A g C (by simp; omega) c f d w
          obtain ⟨hd2, k1, k2⟩ := hd.drop hdk
          have b1 := ZcD (show (([] : List Zah).length + A.length) * 48 ≤ 140737488355328 by simp; omega)
          have b2 := ZcD (show (A.length + ([({ e with Name := g.Name } : Zah)] : List Zah).length) * 48 ≤ 140737488355328 by simp; omega)
          have b3 := ZcD (show ((A ++ [({ e with Name := g.Name } : Zah)]).length + C.length) * 48 ≤ 140737488355328 by simp; omega)
          have b4 : A ++ [({ e with Name := g.Name } : Zah)] ++ C = A ++ ({ e with Name := g.Name } : Zah) :: C := by simp
          refine ⟨A ++ { e with Name := g.Name } :: C, F', ?_, ?_, q5⟩
          · rw [q1, q3, q4]
            simp only [Zaz, e1, Option.bind_some, lt1, show ((0 : Int) == 2) = false from rfl, Bool.not_false, Bool.not_true, hm, ht, cond_false, cond_true, if_true, Bool.false_eq_true, if_false, e0, w1, ZdV, hb, Zdf, Zcp, dr, hAC, ha, dr2, ZjM, Zkv, b1, List.nil_append, b2, b3, b4]
          · rw [q2, if_pos rfl, ho]
            refine (hd2.put (n := g.Name) (b := e.B) (l := e.Lasts) k1 k2 (by rw [Zeg hdk, if_pos rfl])).congr fun m => ?_
            rw [ZbT, ZbT, Zeg hdk]
            split <;> rfl
        · rw [hAC] at hd
          have hAl : A.length + C.length ≤ 63 := by
            have := congrArg List.length hAC
            simp only [List.length_append] at this
            omega
          have ha := fun c f d w => ZiU (k := k) A C t g1 g2 (by omega) (by omega) c f d w
          have b1 := ZcD (show (([] : List Zah).length + A.length) * 48 ≤ 140737488355328 by simp; omega)
          have b2 := ZcD (show (A.length + ([({ e with Name := t } : Zah)] : List Zah).length) * 48 ≤ 140737488355328 by simp; omega)
          have b3 := ZcD (show ((A ++ [({ e with Name := t } : Zah)]).length + C.length) * 48 ≤ 140737488355328 by simp; omega)
          have b4 : A ++ [({ e with Name := t } : Zah)] ++ C = A ++ ({ e with Name := t } : Zah) :: C := by simp
          refine ⟨A ++ { e with Name := t } :: C, F', ?_, ?_, q5⟩
          · rw [q1, q3, q4]
            simp only [Zaz, e1, Option.bind_some, lt1, show ((0 : Int) == 2) = false from rfl, Bool.not_false, Bool.not_true, hm, ht, cond_false, cond_true, if_true, Bool.false_eq_true, if_false, e0, w1, ZdV, hb, Zdf, Zcp, dr, hAC, ha, ZjM, Zkv, b1, List.nil_append, b2, b3, b4]
          · rw [q2, if_pos rfl, ho]
            exact hd.put (n := t) (b := e.B) (l := e.Lasts) g1 g2 g3
def cl (keep : List Int) : List Zah → Nat → List Zah
  | [], _ => []
  | e :: l, i => if (e.B.length : Int) - e.Lasts = 0 then e :: cl keep l i else ⟨e.Name, e.B.take (e.Lasts + kept keep i ((e.B.length : Int) - e.Lasts)).toNat, e.Lasts + kept keep i ((e.B.length : Int) - e.Lasts)⟩ :: cl keep l (i + 1)
theorem ZhJ (k : Nat) (keep : List Int) (A C out : List Zah) (e : Zah) (i : Nat) (hl : A.length ≤ 64) (ho : out.length ≤ 64) (hi : i ≤ 1000) (h0 : 0 ≤ e.Lasts) (h1 : e.Lasts ≤ e.B.length) (h2 : e.B.length ≤ 16777216) :
    ref05_Disk_Crash_pv_sovvvv.b1 k (A ++ e :: C) keep out (i : Int) (A.length : Int) = some (.inl (if (e.B.length : Int) - e.Lasts = 0 then (out ++ [e], (i : Int), ((A.length + 1 : Nat) : Int)) else (out ++ [⟨e.Name, e.B.take (e.Lasts + kept keep i ((e.B.length : Int) - e.Lasts)).toNat, e.Lasts + kept keep i ((e.B.length : Int) - e.Lasts)⟩], ((i + 1 : Nat) : Int), ((A.length + 1 : Nat) : Int)))) := by
  have e1 : w64 ((e.B.length : Int) - e.Lasts) = (e.B.length : Int) - e.Lasts := Zch (by omega) (by omega)
  have dl : decide ((A.length : Int) < ((A ++ e :: C).length : Int)) = true := Zbz (by simp; omega)
  have ap : ∀ f : Zah, apL 48 out [f] = some (out ++ [f]) := fun f => ZcD (by simp; omega)
  have s1 := Zcm (show A.length < 9223372036854775807 by omega)
  have s2 := Zcm (show i < 9223372036854775807 by omega)
  have sb : ∀ v : Int, 0 ≤ v → v ≤ e.B.length → subL e.B 0 v = some (e.B.take v.toNat) := fun v g0 g1 => by rw [ZeY (by omega) (by omega) (by omega)]; simp
  by_cases hz : (e.B.length : Int) - e.Lasts = 0
  · rw [if_pos hz]
    have hb : e.B.take e.Lasts.toNat = e.B := List.take_of_length_le (by omega)
    simp only [ref05_Disk_Crash_pv_sovvvv.b1, lt1, dl, if_true, Zdf, Zcp, Option.bind_some, e1, Zbq (show ¬ (e.B.length : Int) - e.Lasts > 0 by omega), Bool.false_eq_true, if_false, sb e.Lasts h0 (by omega), hb, ap, s1]
  · rw [if_neg hz]
    have hp : 0 < (e.B.length : Int) - e.Lasts := by omega
    have hkr := ZeK keep i hp
    have e2 : w64 ((e.B.length : Int) - e.Lasts + 1) = (e.B.length : Int) - e.Lasts + 1 := Zch (by omega) (by omega)
    have e3 : w64 (e.Lasts + kept keep i ((e.B.length : Int) - e.Lasts)) = e.Lasts + kept keep i ((e.B.length : Int) - e.Lasts) := Zch (by omega) (by omega)
    have hm : ∀ v : Int, modI v ((e.B.length : Int) - e.Lasts + 1) = some (v.tmod ((e.B.length : Int) - e.Lasts + 1)) := fun v => by unfold modI; rw [if_neg (by omega)]
    by_cases hlt : i < keep.length
    · have g1 := Ze6 hlt
      have g2 : keep.getD i 0 = keep[i] := by simp [List.getD_eq_getElem?_getD, hlt]
      by_cases hpos : keep[i] > 0
      · have hk : kept keep i ((e.B.length : Int) - e.Lasts) = keep[i].tmod ((e.B.length : Int) - e.Lasts + 1) := by unfold kept; rw [if_pos ⟨hlt, by rw [g2]; exact hpos⟩, g2]
        rw [hk] at e3 hkr ⊢
        simp only [ref05_Disk_Crash_pv_sovvvv.b1, lt1, dl, if_true, Zdf, Zcp, Option.bind_some, e1, Zbz (show (e.B.length : Int) - e.Lasts > 0 by omega), Zbz (show (i : Int) < (keep.length : Int) by omega), g1, Zbz hpos, cond_true, e2, hm, e3, s2, sb _ (show 0 ≤ e.Lasts + keep[i].tmod ((e.B.length : Int) - e.Lasts + 1) by omega) (by omega), ap, s1]
      · have hk : kept keep i ((e.B.length : Int) - e.Lasts) = 0 := by unfold kept; rw [if_neg (fun h => hpos (by rw [← g2]; exact h.2))]
        rw [hk, Int.add_zero] at e3 ⊢
        simp only [ref05_Disk_Crash_pv_sovvvv.b1, lt1, dl, if_true, Zdf, Zcp, Option.bind_some, e1, Zbz (show (e.B.length : Int) - e.Lasts > 0 by omega), Zbz (show (i : Int) < (keep.length : Int) by omega), g1, Zbq hpos, cond_true, Bool.false_eq_true, if_false, s2, sb e.Lasts h0 h1, ap, s1]
    · have hk : kept keep i ((e.B.length : Int) - e.Lasts) = 0 := by unfold kept; rw [if_neg (fun h => hlt h.1)]
      rw [hk, Int.add_zero] at e3 ⊢
      simp only [ref05_Disk_Crash_pv_sovvvv.b1, lt1, dl, if_true, Zdf, Zcp, Option.bind_some, e1, Zbz (show (e.B.length : Int) - e.Lasts > 0 by omega), Zbq (show ¬ (i : Int) < (keep.length : Int) by omega), cond_false, Bool.false_eq_true, if_false, s2, sb e.Lasts h0 h1, ap, s1]
theorem ZeW (k : Nat) (keep : List Int) : ∀ (C A out : List Zah) (i K : Nat), A.length + C.length ≤ 64 → out.length = A.length → i ≤ A.length → (∀ e ∈ C, 0 ≤ e.Lasts ∧ e.Lasts ≤ e.B.length ∧ e.B.length ≤ 16777216) → C.length < K → Zcl (fun s => ref05_Disk_Crash_pv_sovvvv.b1 k (A ++ C) keep s.1 s.2.1 s.2.2) K (out, (i : Int), (A.length : Int)) = some (out ++ cl keep C i)
  | [], A, out, i, 0, _, _, _, _, h => by simp at h
  | [], A, out, i, K + 1, _, _, _, _, _ => by
    refine ZdR ?_
    simp only [ref05_Disk_Crash_pv_sovvvv.b1, lt1, List.append_nil, Zbq (show ¬ (A.length : Int) < (A.length : Int) by omega), Bool.false_eq_true, if_false, cl]
  | e :: C, A, out, i, 0, _, _, _, _, h => by simp at h
  | e :: C, A, out, i, K + 1, hl, ho, hi, hC, hK => by
    simp only [List.length_cons] at hl hK
    obtain ⟨c1, c2, c3⟩ := hC e (List.mem_cons_self ..)
    have hs := ZhJ k keep A C out e i (by omega) (by omega) (by omega) c1 c2 c3
    have hA : A ++ e :: C = (A ++ [e]) ++ C := by simp
    have hAl : ((A ++ [e]).length : Int) = ((A.length + 1 : Nat) : Int) := by simp
    by_cases hz : (e.B.length : Int) - e.Lasts = 0
    · rw [if_pos hz] at hs
      rw [ZdO hs]
      have ih := ZeW k keep C (A ++ [e]) (out ++ [e]) i K (by simp; omega) (by simp [ho]) (by simp; omega) (fun f hf => hC f (List.mem_cons_of_mem _ hf)) (by omega)
      rw [← hA, hAl] at ih
      rw [ih, cl, if_pos hz]
      simp
    · rw [if_neg hz] at hs
      rw [ZdO hs]
      have ih := ZeW k keep C (A ++ [e]) (out ++ [⟨e.Name, e.B.take (e.Lasts + kept keep i ((e.B.length : Int) - e.Lasts)).toNat, e.Lasts + kept keep i ((e.B.length : Int) - e.Lasts)⟩]) (i + 1) K (by simp; omega) (by simp [ho]) (by simp; omega) (fun f hf => hC f (List.mem_cons_of_mem _ hf)) (by omega)
      rw [← hA, hAl] at ih
      rw [ih, cl, if_neg hz]
      simp
theorem Zhv (keep : List Int) : ∀ (l : List Zah) (y : Mp) (i : Nat), l.Pairwise (fun a b => a.Name < b.Name) → (∀ e ∈ l, mget e.Name y = some (vw e)) → (cl keep l i).map (·.Name) = l.map (·.Name) ∧ (∀ e ∈ cl keep l i, mget e.Name ((l.map (·.Name)).foldl (lose keep) (y, i)).1 = some (vw e)) ∧ ∀ n, n ∉ l.map (·.Name) → mget n ((l.map (·.Name)).foldl (lose keep) (y, i)).1 = mget n y
  | [], y, i, _, _ => ⟨rfl, fun e h => by simp [cl] at h, fun n _ => rfl⟩
  | e :: l, y, i, hs, hm => by
    have hs' := List.pairwise_cons.1 hs
    have he := hm e (List.mem_cons_self ..)
    have hne : e.Name ∉ l.map (·.Name) := fun h => by
      obtain ⟨f, hf, hfe⟩ := List.mem_map.1 h
      have := hs'.1 f hf
      rw [hfe] at this
      exact List.lt_irrefl _ this
    by_cases hz : (e.B.length : Int) - e.Lasts = 0
    · have hlo : lose keep (y, i) e.Name = (y, i) := by
        unfold lose; simp only [ZbP he, vw]; rw [if_pos hz]
      obtain ⟨h1, h2, h3⟩ := Zhv keep l y i hs'.2 (fun f hf => hm f (List.mem_cons_of_mem _ hf))
      rw [List.map_cons, List.foldl_cons, hlo, cl, if_pos hz]
      refine ⟨by rw [List.map_cons, h1], fun f hf => ?_, fun n hn => h3 n (fun h => hn (List.mem_cons_of_mem _ h))⟩
      rcases List.mem_cons.1 hf with rfl | hf
      · rw [h3 _ hne]; exact he
      · exact h2 f hf
    · have hlo : lose keep (y, i) e.Name = (mput e.Name ⟨e.B.take (e.Lasts + kept keep i ((e.B.length : Int) - e.Lasts)).toNat, e.Lasts + kept keep i ((e.B.length : Int) - e.Lasts)⟩ y, i + 1) := by
        unfold lose; simp only [ZbP he, vw]; rw [if_neg hz]
      obtain ⟨h1, h2, h3⟩ := Zhv keep l (mput e.Name ⟨e.B.take (e.Lasts + kept keep i ((e.B.length : Int) - e.Lasts)).toNat, e.Lasts + kept keep i ((e.B.length : Int) - e.Lasts)⟩ y) (i + 1) hs'.2 (fun f hf => by
        rw [ZbT, if_neg (fun h => hne (by rw [← h]; exact List.mem_map.2 ⟨f, hf, rfl⟩))]
        exact hm f (List.mem_cons_of_mem _ hf))
      rw [List.map_cons, List.foldl_cons, hlo, cl, if_neg hz]
      refine ⟨by rw [List.map_cons, h1], fun f hf => ?_, fun n hn => ?_⟩
      · rcases List.mem_cons.1 hf with rfl | hf
        · rw [h3 _ hne, ZbT, if_pos rfl]; rfl
        · exact h2 f hf
      · rw [h3 n (fun h => hn (List.mem_cons_of_mem _ h)), ZbT, if_neg (fun h => hn (by rw [h]; exact List.mem_cons_self ..))]
theorem ZjR {s : DS} (h : DInv s) {L : List Zah} (hR : RL L s.x) (keep : List Int) : RL (cl keep L 0) (Zfk keep s.x).1 := by
  have hp := ZdN s.x
  obtain ⟨h1, h2, h3⟩ := Zhv keep L (Zec s.x) 0 hR.srt (fun e he => by rw [← Zeb h.kn hp]; exact (hR.mem e).1 he)
  have hc : Zfk keep s.x = (L.map (·.Name)).foldl (lose keep) (Zec s.x, 0) := by unfold Zfk; rw [hR.names h.kn]
  refine ⟨?_, fun e => ⟨fun he => by rw [hc]; exact h2 e he, fun he => ?_⟩⟩
  · have := List.pairwise_map.2 hR.srt
    have h4 : (L.map (·.Name)).Pairwise (· < ·) := this
    rw [← h1] at h4
    exact List.pairwise_map.1 h4
  · obtain ⟨_, f2, _⟩ := ZfU keep h.X
    cases hg : mget e.Name s.x with
    | none => rw [f2 _ hg] at he; cases he
    | some u =>
      have hm : e.Name ∈ (cl keep L 0).map (·.Name) := by rw [h1, hR.names h.kn]; exact Zdd.2 ⟨u, hg⟩
      obtain ⟨f, hf, hfe⟩ := List.mem_map.1 hm
      have hv := h2 f hf
      rw [← hc] at hv
      rw [hfe, he] at hv
      have hv := Option.some.inj hv
      have : e = f := by cases e; cases f; simp only [vw, Zaf.mk.injEq] at hv hfe; rw [hfe, hv.1, hv.2]
      rw [this]; exact hf
theorem do_r {k : Nat} (hk : 100 < k) (s : DS) (h : DInv s) (hw : s.writes < 9223372036854775807) {L : List Zah} {F : Int} (hR : RL L s.x) (hF : s.dead = false → F = s.fuse) (a : Za7) (ha : Zho a) : OpR (ZaD k a s.cap F s.dead s.writes L) (step s a) := by
  have hb : ∀ c : Int, a.Kind ≠ c → (a.Kind == c) = false := fun c h => by simpa using h
  have hl : L.length ≤ 64 := by rw [hR.len h.kn]; exact h.len
  unfold step
  by_cases k1 : a.Kind = 1
  · obtain ⟨L', F', h1, h2, h3⟩ := ZjJ hk s h hw hR hF a.Name a.B (by have := ha.1; omega)
    rw [if_pos k1]
    have kb : (a.Kind == 1) = true := by rw [k1]; rfl
    exact ⟨L', F', by simp only [ZaD, lt1, kb, if_true, h1, Option.bind_some], h2, h3⟩
  rw [if_neg k1]
  by_cases k2 : a.Kind = 2
  · obtain ⟨L', F', h1, h2, h3⟩ := ZkU hk s h hw hR hF a.Name s.cap
    rw [if_pos k2]
    have kb : (a.Kind == 2) = true := by rw [k2]; rfl
    exact ⟨L', F', by simp only [ZaD, lt1, hb 1 k1, kb, Bool.false_eq_true, if_false, if_true, h1, Option.bind_some], h2, h3⟩
  rw [if_neg k2]
  by_cases k3 : a.Kind = 3
  · obtain ⟨L', F', h1, h2, h3⟩ := Zk6 hk s h hw hR hF a.Name a.N s.cap
    rw [if_pos k3]
    have kb : (a.Kind == 3) = true := by rw [k3]; rfl
    exact ⟨L', F', by simp only [ZaD, lt1, hb 1 k1, hb 2 k2, kb, Bool.false_eq_true, if_false, if_true, h1, Option.bind_some], h2, h3⟩
  rw [if_neg k3]
  by_cases k4 : a.Kind = 4
  · obtain ⟨L', F', h1, h2, h3⟩ := ZjD hk s h hw hR hF a.Name a.To s.cap
    rw [if_pos k4]
    have kb : (a.Kind == 4) = true := by rw [k4]; rfl
    exact ⟨L', F', by simp only [ZaD, lt1, hb 1 k1, hb 2 k2, hb 3 k3, kb, Bool.false_eq_true, if_false, if_true, h1, Option.bind_some], h2, h3⟩
  rw [if_neg k4]
  by_cases k5 : a.Kind = 5
  · obtain ⟨L', F', h1, h2, h3⟩ := Zj2 hk s h hw hR hF a.Name s.cap
    rw [if_pos k5]
    have kb : (a.Kind == 5) = true := by rw [k5]; rfl
    exact ⟨L', F', by simp only [ZaD, lt1, hb 1 k1, hb 2 k2, hb 3 k3, hb 4 k4, kb, Bool.false_eq_true, if_false, if_true, h1, Option.bind_some], h2, h3⟩
  rw [if_neg k5]
  by_cases k6 : a.Kind = 6
  · rw [if_pos k6]
    have kb : (a.Kind == 6) = true := by rw [k6]; rfl
    by_cases hd : s.dead = true
    · exact ⟨L, F, by simp only [ZaD, lt1, hb 1 k1, hb 2 k2, hb 3 k3, hb 4 k4, hb 5 k5, kb, Bool.false_eq_true, if_false, if_true, Option.bind_some, hd, Bool.not_true], hR, fun h => by rw [hd] at h; cases h⟩
    · have hd' : s.dead = false := by simpa using hd
      by_cases hN : a.N < 0
      · refine ⟨L, -1, by simp only [ZaD, lt1, hb 1 k1, hb 2 k2, hb 3 k3, hb 4 k4, hb 5 k5, kb, Bool.false_eq_true, if_false, if_true, Option.bind_some, hd', Bool.not_false, ZbL, Zbz hN], hR, fun _ => ?_⟩
        show (-1 : Int) = maxI a.N (-1)
        unfold maxI; split <;> omega
      · refine ⟨L, a.N, by simp only [ZaD, lt1, hb 1 k1, hb 2 k2, hb 3 k3, hb 4 k4, hb 5 k5, kb, Bool.false_eq_true, if_false, if_true, Option.bind_some, hd', Bool.not_false, ZbL, Zbq hN], hR, fun _ => ?_⟩
        show a.N = maxI a.N (-1)
        unfold maxI; split <;> omega
  rw [if_neg k6]
  by_cases k7 : a.Kind = 7
  · rw [if_pos k7]
    have kb : (a.Kind == 7) = true := by rw [k7]; rfl
    have hc := ZeW k a.Keep L [] [] 0 k (by simpa using hl) rfl (Nat.le_refl _) (fun e he => by
      have hg := (hR.mem e).1 he
      have hl : 0 ≤ (vw e).lasts ∧ (vw e).lasts ≤ (vw e).b.length := h.lasts _ (Zdw hg)
      exact ⟨hl.1, hl.2, h.size hg⟩) (by omega)
    rw [List.nil_append, List.nil_append] at hc
    have hc : Zcl (fun s => ref05_Disk_Crash_pv_sovvvv.b1 k L a.Keep s.1 s.2.1 s.2.2) k (([] : List Zah), (0 : Int), (0 : Int)) = some (cl a.Keep L 0) := hc
    exact ⟨cl a.Keep L 0, -1, by simp only [ZaD, lt1, hb 1 k1, hb 2 k2, hb 3 k3, hb 4 k4, hb 5 k5, hb 6 k6, kb, Bool.false_eq_true, if_false, if_true, Option.bind_some, ref05_Disk_Crash_pv_sovvvv, hc], ZjR h hR a.Keep, fun _ => rfl⟩
  · rw [if_neg k7]
    exact ⟨L, F, by simp only [ZaD, lt1, hb 1 k1, hb 2 k2, hb 3 k3, hb 4 k4, hb 5 k5, hb 6 k6, hb 7 k7, Bool.false_eq_true, if_false, Option.bind_some], hR, hF⟩
theorem ZhC : ∀ {l m : List Zah}, l.Pairwise (fun a b => a.Name < b.Name) → m.Pairwise (fun a b => a.Name < b.Name) → (∀ a ∈ l, a ∈ m) → l.Sublist m
  | [], m, _, _, _ => List.nil_sublist m
  | b :: l, [], _, _, h => by have := h b (List.mem_cons_self ..); simp at this
  | b :: l, a :: m, hl, hm, h => by
    have hl' := List.pairwise_cons.1 hl
    have hm' := List.pairwise_cons.1 hm
    by_cases hab : b = a
    · subst hab
      refine List.Sublist.cons_cons _ (ZhC hl'.2 hm'.2 fun c hc => ?_)
      rcases List.mem_cons.1 (h c (List.mem_cons_of_mem _ hc)) with h1 | h1
      · have := hl'.1 c hc
        rw [h1] at this
        exact absurd this (List.lt_irrefl _)
      · exact h1
    · have hb : b ∈ m := (List.mem_cons.1 (h b (List.mem_cons_self ..))).resolve_left hab
      refine List.Sublist.cons _ (ZhC hl hm'.2 fun c hc => ?_)
      rcases List.mem_cons.1 hc with h1 | h1
      · rw [h1]; exact hb
      · rcases List.mem_cons.1 (h c hc) with h2 | h2
        · have h3 := hl'.1 c h1
          have h4 := hm'.1 b hb
          rw [h2] at h3
          exact absurd h3 (List.lt_asymm h4)
        · exact h2
theorem Zjv {x y : Mp} {L M : List Zah} (hx : RL L x) (hy : RL M y) (kx : (x.map Prod.fst).Nodup) (ky : (y.map Prod.fst).Nodup) : ZkK x y ↔ L = M := by
  have l1 := hx.len kx
  have l2 := hy.len ky
  constructor
  · rintro ⟨h1, h2⟩
    exact (ZhC hx.srt hy.srt fun a ha => (hy.mem a).2 (h2 _ _ ((hx.mem a).1 ha))).eq_of_length (by omega)
  · rintro rfl
    refine ⟨by omega, fun n u hu => ?_⟩
    have := (hy.mem _).1 (hx.get hu)
    exact this
theorem Zjx {k : Nat} (L M : List Zah) (hk : L.length < k) (hl : L.length ≤ 1000) (c f : Int) (d : Bool) (w f' : Int) (d' : Bool) (w' : Int) : ∃ b, ref05_Disk_Same_pp_sovvvvsovvvv k c f d w L c f' d' w' M = some b ∧ (b = true ↔ L = M) := by
  have cb : (c != c) = false := by simp
  by_cases hlm : L.length = M.length
  · have lb : ((L.length : Int) != (M.length : Int)) = false := by rw [hlm]; simp
    have hL := ZfO (body := fun s => ref05_Disk_Same_pp_sovvvvsovvvv.b1 k L M s) (k := k) (fun i (j : Int) => j = i ∧ L.take i = M.take i) (fun t => (t = .inl () ∧ L = M) ∨ (t = .inr false ∧ L ≠ M)) L.length (s := 0) (fun i t hi hP => ?_) (fun t hP => ?_) hk ⟨rfl, by simp⟩
    · obtain ⟨t, t1, t2⟩ := hL
      rcases t2 with ⟨rfl, t2⟩ | ⟨rfl, t2⟩
      · exact ⟨true, by simp only [ref05_Disk_Same_pp_sovvvvsovvvv, lt1, cb, lb, Bool.false_eq_true, if_false, Option.bind_some, t1], by simp [t2]⟩
      · exact ⟨false, by simp only [ref05_Disk_Same_pp_sovvvvsovvvv, lt1, cb, lb, Bool.false_eq_true, if_false, Option.bind_some, t1], by simp [t2]⟩
    · obtain ⟨rfl, hP⟩ := hP
      have hi' : i < M.length := by omega
      have e1 : inO L (i : Int) = some i := by rw [ZeR (by omega) (by omega)]; simp
      have e2 : inO M (i : Int) = some i := by rw [ZeR (by omega) (by omega)]; simp
      have e3 : L[i]? = some L[i] := List.getElem?_eq_getElem hi
      have e4 : M[i]? = some M[i] := List.getElem?_eq_getElem hi'
      have hne : L[i] ≠ M[i] → L ≠ M := fun h e => h (by simp only [e])
      have di : decide ((i : Int) < (L.length : Int)) = true := Zbz (by omega)
      by_cases h1 : L[i].Name = M[i].Name
      · have b1 : (L[i].Name != M[i].Name) = false := by simpa using h1
        by_cases h2 : L[i].B = M[i].B
        · have b2 : (L[i].B != M[i].B) = false := by simpa using h2
          by_cases h3 : L[i].Lasts = M[i].Lasts
          · have b3 : (L[i].Lasts != M[i].Lasts) = false := by simpa using h3
            left
            refine ⟨((i + 1 : Nat) : Int), by simp only [ref05_Disk_Same_pp_sovvvvsovvvv.b1, lt1, di, if_true, e1, e2, e3, e4, Option.bind_some, b1, b2, b3, Bool.false_eq_true, if_false, Zcm (show i < 9223372036854775807 by omega)], rfl, ?_⟩
            rw [List.take_succ_eq_append_getElem hi, List.take_succ_eq_append_getElem hi', hP]
            have : L[i] = M[i] := by
              cases hLi : L[i]; cases hMi : M[i]
              rw [hLi, hMi] at h1 h2 h3
              simp only at h1 h2 h3
              rw [h1, h2, h3]
            rw [this]
          · have b3 : (L[i].Lasts != M[i].Lasts) = true := by simpa using h3
            exact .inr ⟨.inr false, by simp only [ref05_Disk_Same_pp_sovvvvsovvvv.b1, lt1, di, if_true, e1, e2, e3, e4, Option.bind_some, b1, b2, b3, Bool.false_eq_true, if_false], .inr ⟨rfl, hne fun e => h3 (by rw [e])⟩⟩
        · have b2 : (L[i].B != M[i].B) = true := by simpa using h2
          exact .inr ⟨.inr false, by simp only [ref05_Disk_Same_pp_sovvvvsovvvv.b1, lt1, di, if_true, e1, e2, e3, e4, Option.bind_some, b1, b2, Bool.false_eq_true, if_false], .inr ⟨rfl, hne fun e => h2 (by rw [e])⟩⟩
      · have b1 : (L[i].Name != M[i].Name) = true := by simpa using h1
        exact .inr ⟨.inr false, by simp only [ref05_Disk_Same_pp_sovvvvsovvvv.b1, lt1, di, if_true, e1, e2, e3, e4, Option.bind_some, b1], .inr ⟨rfl, hne fun e => h1 (by rw [e])⟩⟩
    · obtain ⟨rfl, hP⟩ := hP
      refine ⟨.inl (), by simp only [ref05_Disk_Same_pp_sovvvvsovvvv.b1, lt1, Zbq (show ¬ (L.length : Int) < (L.length : Int) by omega), Bool.false_eq_true, if_false], .inl ⟨rfl, ?_⟩⟩
      rw [List.take_length, List.take_of_length_le (by omega)] at hP
      exact hP
  · have lb : ((L.length : Int) != (M.length : Int)) = true := by simp; omega
    exact ⟨false, by simp only [ref05_Disk_Same_pp_sovvvvsovvvv, lt1, cb, lb, Bool.false_eq_true, if_false, Option.bind_some, if_true], by simp; intro e; exact hlm (by rw [e])⟩
theorem Zif (k : Nat) (L : List Zah) (most : Int) (hl : L.length ≤ 1000) : ∀ (C A : List Zah), A ++ C = L → ∃ r, yrun (fun (n : Int) (u : List UInt8 × Int) => law05_once_ppv_smvvvvmsovvvv.y1 k L most n u.1 u.2) (C.map fun e => (e.Name, (e.B.length : Int))) (A.length : Int) = some r ∧ (r = .inl (L.length : Int) ∨ ∃ m, r = .inr (true, m))
  | [], A, h => ⟨_, rfl, .inl (by rw [← h]; simp)⟩
  | e :: C, A, h => by
    subst h
    simp only [List.length_append, List.length_cons] at hl
    have dA : decide ((A.length : Int) ≥ ((A ++ e :: C).length : Int)) = false := Zbq (by simp; omega)
    have b1 : (e.Name != e.Name) = false := by simp
    have b2 : ((e.B.length : Int) != (e.B.length : Int)) = false := by simp
    have s1 := Zcm (show A.length < 9223372036854775807 by omega)
    by_cases hm : ((A.length + 1 : Nat) : Int) = most
    · have hb : (((A.length + 1 : Nat) : Int) == most) = true := by simpa using hm
      have hy : law05_once_ppv_smvvvvmsovvvv.y1 k (A ++ e :: C) most (A.length : Int) e.Name (e.B.length : Int) = some (.inr (true, ((A.length + 1 : Nat) : Int))) := by
        simp only [law05_once_ppv_smvvvvmsovvvv.y1, lt1, dA, Bool.false_eq_true, if_false, Zdf, Zcp, Option.bind_some, b1, b2, s1, hb, if_true]
      exact ⟨_, by simp only [List.map_cons, yrun, hy]; rfl, .inr ⟨_, rfl⟩⟩
    · have hb : (((A.length + 1 : Nat) : Int) == most) = false := by simpa using hm
      have hy : law05_once_ppv_smvvvvmsovvvv.y1 k (A ++ e :: C) most (A.length : Int) e.Name (e.B.length : Int) = some (.inl ((A.length + 1 : Nat) : Int)) := by
        simp only [law05_once_ppv_smvvvvmsovvvv.y1, lt1, dA, Bool.false_eq_true, if_false, Zdf, Zcp, Option.bind_some, b1, b2, s1, hb]
      obtain ⟨r, r1, r2⟩ := Zif k (A ++ e :: C) most (by simpa using hl) C (A ++ [e]) (by simp)
      have hAl : ((A ++ [e]).length : Int) = ((A.length + 1 : Nat) : Int) := by simp
      rw [hAl] at r1
      exact ⟨r, by simp only [List.map_cons, yrun, hy]; exact r1, r2⟩
theorem ZjH {L : List Zah} {x : Mp} (h : RL L x) (hk : (x.map Prod.fst).Nodup) : (names x).zip (Zc0 x) = L.map fun e => (e.Name, (e.B.length : Int)) := by
  rw [Zfi, ← h.names hk, List.map_map]
  apply List.map_congr_left
  intro e he
  simp [ZbP ((h.mem e).1 he), vw]
theorem Zkr {k : Nat} (hk : 100 < k) (s : DS) (h : DInv s) {L : List Zah} (hR : RL L s.x) (most : Int) (c f : Int) (d : Bool) (w : Int) (c' f' : Int) (d' : Bool) (w' : Int) : law05_once_ppv_smvvvvmsovvvv k most c f d w s.x c' f' d' w' L = some true := by
  have hlen := h.len
  have hl := hR.len h.kn
  have hnl := ZeA s.x
  have hfi := ZfA (k := k) s h (by omega) c f d w
  obtain ⟨r, r1, r2⟩ := Zif k L most (by omega) L [] rfl
  rw [← ZjH hR h.kn] at r1
  have h4 := ZfT (k := k) _ (names s.x) (Zc0 s.x) (by simp [Zc0]) (by omega) (by omega) r1
  have h4 : disk_Disk_Files_1_ypp_loo k (fun (n : Int) (u : List UInt8 × Int) => law05_once_ppv_smvvvvmsovvvv.y1 k L most n u.1 u.2) (Sum.inl (0 : Int)) (names s.x) (Zc0 s.x) = some r := h4
  rcases r2 with rfl | ⟨m, rfl⟩
  · simp only [law05_once_ppv_smvvvvmsovvvv, hfi, Option.bind_some, h4, lt1, beq_self_eq_true]
  · simp only [law05_once_ppv_smvvvvmsovvvv, hfi, Option.bind_some, h4, lt1]
theorem Zjr {k : Nat} (y : List UInt8) (hk : y.length < k) (hy : y.length ≤ 100000000) : ∃ r, Zcl (fun s => law05_looks_ppvv_smvvvvmsovvvv.b1 k s.1 s.2) k (y, (0 : Int)) = some r := by
  have hL := ZfO (body := fun s => law05_looks_ppvv_smvvvvmsovvvv.b1 k s.1 s.2) (k := k) (fun i (s : List UInt8 × Int) => s.1.length = y.length ∧ s.2 = i) (fun _ => True) y.length (s := (y, 0)) (fun i s hi hP => ?_) (fun s hP => ?_) hk ⟨rfl, rfl⟩
  · obtain ⟨t, h1, _⟩ := hL
    exact ⟨t, h1⟩
  · obtain ⟨z, j⟩ := s
    obtain ⟨p1, rfl⟩ := hP
    simp only at p1
    left
    have e1 : inO z (i : Int) = some i := by rw [ZeR (by omega) (by omega)]; simp
    have e2 : ZfP z i (z[i]'(by omega) + 1) = some (z.set i (z[i]'(by omega) + 1)) := if_pos (by omega)
    have e3 : z[i]? = some (z[i]'(by omega)) := List.getElem?_eq_getElem (by omega)
    exact ⟨(z.set i (z[i]'(by omega) + 1), _), by simp only [law05_looks_ppvv_smvvvvmsovvvv.b1, lt1, Zbz (show (i : Int) < (z.length : Int) by omega), if_true, e1, e2, e3, Option.bind_some, Zcm (show i < 9223372036854775807 by omega)], by simpa using p1, rfl⟩
  · obtain ⟨z, j⟩ := s
    obtain ⟨p1, rfl⟩ := hP
    simp only at p1
    exact ⟨(), by simp only [law05_looks_ppvv_smvvvvmsovvvv.b1, lt1, Zbq (show ¬ (y.length : Int) < (z.length : Int) by omega), Bool.false_eq_true, if_false], trivial⟩
theorem Zid {k : Nat} (hk : 20000000 < k) (s : DS) (h : DInv s) {L : List Zah} (hR : RL L s.x) (n : List UInt8) (hn : n.length ≤ 20000) (most F : Int) : law05_looks_ppvv_smvvvvmsovvvv k n most s.cap s.fuse s.dead s.writes s.x s.cap F s.dead s.writes L = some true := by
  have hlen := hR.len h.kn
  have hl : L.length ≤ 64 := by rw [hlen]; exact h.len
  have htot := hR.tot h.kn
  have ht := h.tot
  have hc2 := h.cap2
  have hc1 := h.cap1
  have hroom := Zj8 (k := k) L s.cap (by omega) h.cap2 (by rw [htot]; omega) (by omega) hl F s.dead s.writes
  rw [htot] at hroom
  have hroom0 := ZgM k s h s.fuse s.dead s.writes
  have ho := fun m => Zkr (k := k) (by omega) s h hR m s.cap s.fuse s.dead s.writes s.cap F s.dead s.writes
  have hrd := ZfH (k := k) n (by omega) (by omega) s h s.cap s.fuse s.dead s.writes
  have hla := ZgB (k := k) n (by omega) (by omega) s.x s.cap s.fuse s.dead s.writes
  obtain ⟨p, e1, e2⟩ := Zhp (k := k) (by omega) hR hl n s.cap F s.dead s.writes
  have hdead : ZbA k s.cap s.fuse s.dead s.writes s.x = some () := rfl
  have hwrites : Zbp k s.cap s.fuse s.dead s.writes s.x = some () := rfl
  have bf : (fnd s.x n != fnd s.x n) = false := by simp
  by_cases h0 : fnd s.x n = 0
  · obtain ⟨L1, e, L2, rfl, rfl, rfl, h1, h2⟩ := e2 h0
    rw [h0, if_pos rfl, ZbP h2] at hrd hla
    rw [h0] at e1 bf
    have hb : e.B.length ≤ 16777216 := h.size (n := e.Name) h2
    obtain ⟨r, hr⟩ := Zjr (k := k) e.B (by omega) (by omega)
    have b1 : (e.B != e.B) = false := by simp
    have b2 : (e.Lasts != e.Lasts) = false := by simp
    simp only [law05_looks_ppvv_smvvvvmsovvvv, hrd, hla, e1, Option.bind_some, ZaX, lt1, bf, Bool.not_false, if_true, cond_false, Bool.false_eq_true, if_false, Zdf, Zcp, vw, b1, b2, hr, hroom0, hroom, beq_self_eq_true, hdead, hwrites, ho]
  · rw [if_neg h0] at hrd hla
    obtain ⟨r, hr⟩ := Zjr (k := k) [] (by simp; omega) (by simp)
    have b0 : (fnd s.x n != 0) = true := by simpa using h0
    have b1 : ((([] : List UInt8).length : Int) != (0 : Int)) = false := rfl
    have b2 : ((0 : Int) != (0 : Int)) = false := rfl
    simp only [law05_looks_ppvv_smvvvvmsovvvv, hrd, hla, e1, Option.bind_some, ZaX, lt1, bf, b0, Bool.not_false, if_true, cond_false, Bool.false_eq_true, if_false, b1, b2, hr, hroom0, hroom, beq_self_eq_true, hdead, hwrites, ho]
theorem Zja {k : Nat} (hk : 1000 ≤ k) (cap : Int) (h1 : 1 ≤ cap) (h2 : cap ≤ 16777216) (most : Int) : law05_looks_ppvv_smvvvvmsnvvvv k [97] most cap (-1) false 0 [] cap (-1) false 0 = some true := by
  obtain ⟨k, rfl⟩ : ∃ j, k = j + 1 := ⟨k - 1, by omega⟩
  have h := D0 cap h1 h2
  have hrd := ZfH (k := k + 1) [97] (by simp; omega) (by simp) _ h cap (-1) false 0
  have hla := ZgB (k := k + 1) [97] (by simp; omega) (by simp) [] cap (-1) false 0
  have hf : fnd [] [97] = 6 := rfl
  simp only [hf] at hrd hla
  rw [if_neg (by decide)] at hrd hla
  have hm : ref05_MayName (k + 1) [97] = some true := Zei (k := k + 1) [97] (by omega)
  have e1 : ZbI (k + 1) [97] cap (-1) false 0 = some 6 := by
    simp only [ZbI, hm, Option.bind_some, lt1, Bool.not_true, Bool.false_eq_true, if_false]
    rfl
  have hro := ZgM (k + 1) _ h (-1) false 0
  have ht : (cap : Int) - (tot sz ([] : Mp) : Int) = cap := by simp [tot]
  simp only [ht] at hro
  have hr2 : ref05_Disk_Room_p_snvvvv (k + 1) cap (-1) false 0 = some () := rfl
  have hn : names ([] : Mp) = [] := by simp [names]
  have hfi := ZfA (k := k + 1) _ h (by omega) cap (-1) false 0
  have hz : Zc0 ([] : Mp) = [] := by unfold Zc0; rw [hn]; rfl
  simp only [hn, hz] at hfi
  have h4 := ZfT (k := k + 1) (fun (s : Unit) (u : List UInt8 × Int) => law05_once_ppv_smvvvvmsnvvvv.y1 (k + 1) u.1 u.2) [] [] rfl (by simp) (by simp) (s := ()) (r := .inl ()) rfl
  have ho : ∀ m, law05_once_ppv_smvvvvmsnvvvv (k + 1) m cap (-1) false 0 [] cap (-1) false 0 = some true := fun m => by
    simp only [law05_once_ppv_smvvvvmsnvvvv, hfi, Option.bind_some, h4]
  have hl : Zcl (fun s => law05_looks_ppvv_smvvvvmsnvvvv.b1 (k + 1) s.1 s.2) (k + 1) (([] : List UInt8), (0 : Int)) = some () := rfl
  have b1 : ((([] : List UInt8).length : Int) != (0 : Int)) = false := rfl
  have hdead : ZbA (k + 1) cap (-1) false 0 [] = some () := rfl
  have hwrites : Zbp (k + 1) cap (-1) false 0 [] = some () := rfl
  simp only [law05_looks_ppvv_smvvvvmsnvvvv, hrd, hla, e1, Option.bind_some, ZaX, lt1, show ((6 : Int) != 6) = false from rfl, show ((6 : Int) != 0) = true from rfl, show ((0 : Int) != 0) = false from rfl, Bool.not_false, if_true, cond_false, Bool.false_eq_true, if_false, b1, hl, hro, hr2, beq_self_eq_true, hdead, hwrites, ho]
theorem Zht {k : Nat} (hk : 20000000 < k) (l : List Za7) (most : Int) (s : DS) (h : DInv s) (hw : s.writes < 9223372036854775806) {L : List Zah} {F : Int} (hR : RL L s.x) (hF : s.dead = false → F = s.fuse) (i : Nat) (hi : i < l.length) (hil : i < 1000000) (ha : Zho l[i]) (hN : l[i].N ≤ 9223372036854775807) :
    ∃ L' F', law05_DiskPlays.b1 k l s.cap most s.x s.fuse s.dead s.writes L F s.dead s.writes (i : Int) = some (.inl ((step s l[i]).2.x, (step s l[i]).2.fuse, (step s l[i]).2.dead, (step s l[i]).2.writes, L', F', (step s l[i]).2.dead, (step s l[i]).2.writes, ((i + 1 : Nat) : Int))) ∧ RL L' (step s l[i]).2.x ∧ ((step s l[i]).2.dead = false → F' = (step s l[i]).2.fuse) := by
  have hdo := Zk2 (k := k) s h (by omega) l[i] ha (by omega)
  obtain ⟨h', hc, hw'⟩ := ZhS h l[i] hN
  obtain ⟨L', F', r1, r2, r3⟩ := do_r (k := k) (by omega) s h (by omega) hR hF l[i] ha
  refine ⟨L', F', ?_, r2, r3⟩
  obtain ⟨a1, a2, a3, a4⟩ := ha
  have hl : L.length ≤ 64 := by rw [hR.len h.kn]; exact h.len
  have hl' : L'.length ≤ 64 := by rw [r2.len h'.kn]; exact h'.len
  have hcp := Zie k s h s.cap s.fuse s.dead s.writes
  have hcr : ZbN k s.cap F s.dead s.writes L = some L := by
    simp only [ZbN, ZcD (show (([] : List Zah).length + L.length) * 48 ≤ 140737488355328 by simp; omega), List.nil_append, Option.bind_some]
  have hp := ZdN s.x
  have hC : DInv ⟨s.cap, s.fuse, s.dead, s.writes, Zec s.x⟩ := h.of (h.X.perm hp) h.fuse1 h.fuse2 h.wr1
  have hRC : RL L (Zec s.x) := hR.congr fun n => Zeb h.kn hp
  have lk2 := Zid hk ⟨s.cap, s.fuse, s.dead, s.writes, Zec s.x⟩ hC hRC l[i].Name a2 0 F
  simp only at lk2
  generalize step s l[i] = r at hdo h' hc hw' r1 r2 r3 ⊢
  obtain ⟨e, s'⟩ := r
  simp only at h' hc hw' r1 r2 r3 ⊢
  simp only [tup] at hdo
  have lk1 := Zid hk s' h' r2 l[i].Name a2 most F'
  rw [hc] at lk1
  obtain ⟨b1, s1, s2⟩ := Zks (k := k) (by omega) s' h' (Zec s.x) s.cap s'.fuse s'.dead s'.writes s.cap s.fuse s.dead s.writes
  obtain ⟨b2, s3, s4⟩ := Zjx (k := k) L' L (by omega) (by omega) s.cap F' s'.dead s'.writes F s.dead s.writes
  have hb : b1 = b2 := by
    have := Zjv r2 hRC h'.kn hC.kn
    have h1 : b1 = true ↔ b2 = true := by rw [s2, s4, ← this]; exact ⟨fun h => h.2, fun h => ⟨rfl, h⟩⟩
    cases b1 <;> cases b2 <;> simp at h1 ⊢
  subst hb
  have bb : (b1 != b1) = false := by simp
  have be : (e != e) = false := by simp
  have m1 := Zeh (k := k) l[i].Name (by omega) (by omega)
  have m2 := Zei (k := k) l[i].Name (by omega)
  have bm : (mayN l[i].Name != mayN l[i].Name) = false := by simp
  simp only [law05_DiskPlays.b1, lt1, Zbz (show (i : Int) < (l.length : Int) by omega), if_true, hcp, Ze6 hi, Option.bind_some, hdo, hcr, r1, be, Bool.not_false, Bool.not_true, Bool.false_eq_true, if_false, lk1, s1, s3, bb, lk2, m1, m2, bm, cond_false, Zcm (show i < 9223372036854775807 by omega)]
theorem Zf9 (y0 : Int) (y1 : (List Za7)) (y2 : Int) (f0 : (IntKind.min .i64 ≤ y0 ∧ y0 ≤ IntKind.max .i64)) (f1 : (List.length y1 * 96 ≤ 140737488351232 ∧ ∀ z0 ∈ y1, ((IntKind.min .i64 ≤ z0.Kind ∧ z0.Kind ≤ IntKind.max .i64) ∧ ((IntKind.min .i64 ≤ z0.N ∧ z0.N ≤ IntKind.max .i64) ∧ ((List.length z0.Name ≤ 140737488351232) ∧ ((List.length z0.To ≤ 140737488351232) ∧ ((List.length z0.B * 1 ≤ 140737488351232 ∧ ∀ z1 ∈ z0.B, True) ∧ ((List.length z0.Keep * 8 ≤ 140737488351232 ∧ ∀ z1 ∈ z0.Keep, (IntKind.min .i64 ≤ z1 ∧ z1 ≤ IntKind.max .i64)) ∧ True)))))))) (f2 : (IntKind.min .i64 ≤ y2 ∧ y2 ≤ IntKind.max .i64)) : ∃ k, law05_DiskPlays k y0 y1 y2 = some true := by
  refine ⟨30000000, ?_⟩
  have hk : 20000000 < 30000000 := by decide
  generalize (30000000 : Nat) = k at hk ⊢
  have hkn := ZkV (k := k) (by omega)
  obtain ⟨b, hb, hs⟩ := Zkq (k := k) y1 150 (by decide) (by decide) (by omega) (by omega)
  by_cases h1 : y0 < 1
  · simp only [law05_DiskPlays, Zdx, lt1, Zbz h1, cond_true, Option.bind_some, if_true, ZaX, hkn]
  by_cases h2 : y0 > 16777216
  · simp only [law05_DiskPlays, Zdx, lt1, Zbq h1, Zbz h2, cond_false, cond_true, Option.bind_some, if_true, ZaX, hkn]
  have hnew := Zj4 k y0 (by omega) (by omega)
  cases b with
  | true => simp only [law05_DiskPlays, hnew, lt1, Zbq h1, Zbq h2, cond_false, Option.bind_some, Bool.false_eq_true, if_false, hb, if_true, hkn]
  | false =>
    obtain ⟨hl, hs⟩ := hs rfl
    have hlk := Zja (k := k) (by omega) y0 (by omega) (by omega) y2
    have hL := ZfO (body := fun s => law05_DiskPlays.b1 k y1 y0 y2 s.1 s.2.1 s.2.2.1 s.2.2.2.1 s.2.2.2.2.1 s.2.2.2.2.2.1 s.2.2.2.2.2.2.1 s.2.2.2.2.2.2.2.1 s.2.2.2.2.2.2.2.2) (k := k) (fun i (t : Mp × Int × Bool × Int × List Zah × Int × Bool × Int × Int) => ∃ s : DS, ∃ L F, DInv s ∧ s.cap = y0 ∧ s.writes ≤ i ∧ RL L s.x ∧ (s.dead = false → F = s.fuse) ∧ t = (s.x, s.fuse, s.dead, s.writes, L, F, s.dead, s.writes, (i : Int))) (fun t => t = .inl ()) y1.length (s := ([], -1, false, 0, [], -1, false, 0, 0)) (fun i t hi hP => ?_) (fun t hP => ?_) (by omega) ⟨⟨y0, -1, false, 0, []⟩, [], -1, D0 y0 (by omega) (by omega), rfl, Int.le_refl _, ⟨List.Pairwise.nil, fun e => by constructor <;> intro h <;> cases h⟩, fun _ => rfl, rfl⟩
    · obtain ⟨t, t1, rfl⟩ := hL
      simp only [law05_DiskPlays, hnew, lt1, Zbq h1, Zbq h2, cond_false, Option.bind_some, Bool.false_eq_true, if_false, hb, hkn, ZaX, hlk, Bool.not_true, t1]
    · obtain ⟨s, L, F, hs1, rfl, hs2, hs3, hs4, rfl⟩ := hP
      left
      have hN : y1[i].N ≤ 9223372036854775807 := (f1.2 y1[i] (List.getElem_mem hi)).2.1.2
      obtain ⟨L', F', hr, q1, q2⟩ := Zht hk y1 y2 s hs1 (by omega) hs3 hs4 i hi (by omega) (hs _ (List.getElem_mem hi)) hN
      obtain ⟨g1, g2, g3⟩ := ZhS hs1 y1[i] hN
      exact ⟨_, hr, (step s y1[i]).2, L', F', g1, g2, by omega, q1, q2, rfl⟩
    · obtain ⟨s, L, F, hs1, rfl, hs2, hs3, hs4, rfl⟩ := hP
      exact ⟨.inl (), by simp only [law05_DiskPlays.b1, lt1, Zbq (show ¬ (y1.length : Int) < (y1.length : Int) by omega), Bool.false_eq_true, if_false], rfl⟩
end Go.Proofs.Ytipchpbcjkhnaaa
