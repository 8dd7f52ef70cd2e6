/- Clearing; the reference's functions; an act done to both. -/
import Derived.Test.YtnadeehdnmgebaaC
namespace Go.Proofs.Ytnadeehdnmgebaa
open Go Fw
set_option linter.unusedVariables false
set_option linter.unusedSimpArgs false

def toB (e : Int) (x : api_Flight) : Bool := x.To == e
def notB (e : Int) (x : api_Flight) : Bool := x.To != e
theorem allF_filter (M : Mp) (E : Nat) (f : net_pair → Bool) : allF (M.filter fun e => f e.1) E = (allF M E).filter fun x => f ⟨x.From, x.To⟩ := by
  unfold allF
  rw [List.filter_flatMap]
  rw [List.flatMap_def, List.flatMap_def]
  congr 1
  refine List.map_congr_left fun p _ => ?_
  have hl : ln (M.filter fun e => f e.1) p = if f p = true then ln M p else [] := by
    unfold ln
    rw [mget_filter]
    split <;> rfl
  unfold row
  rw [hl]
  by_cases h : f p = true
  · rw [if_pos h]
    symm
    exact filter_all fun x hx => by obtain ⟨b, _, rfl⟩ := List.mem_map.1 hx; exact h
  · rw [if_neg h]
    symm
    exact filter_none fun x hx => by obtain ⟨b, _, rfl⟩ := List.mem_map.1 hx; exact Bool.eq_false_iff.2 h
theorem Inv.filter {M : Mp} {E : Nat} (h : Inv M E) (f : net_pair → Bool) : Inv (M.filter fun e => f e.1) E := by
  have hl : ∀ p, ln (M.filter fun e => f e.1) p = if f p = true then ln M p else [] := fun p => by
    unfold ln
    rw [mget_filter]
    split <;> rfl
  refine ⟨h.E16, (List.filter_sublist.map _).nodup h.nd, fun e he => h.rng e (List.mem_filter.1 he).1, fun p => ?_, fun p b hb => ?_⟩
  · rw [hl]
    split
    · exact h.len p
    · simp
  · rw [hl] at hb
    split at hb
    · exact h.small p b hb
    · cases hb
theorem clearFold (k : Nat) (en : Int) : ∀ (l X : Mp) (c : Nat), (X.map Prod.fst).Nodup → c + (l.map fun e => e.2.length).sum ≤ 1000000 →
    foldO (fun s e => net_Net_Clear.b1 k en s.1 s.2 e) (fun s => net_Net_Clear.f1 k s.1 s.2) l (X, (c : Int)) = some (((c + ((l.filter fun e => e.1.to == en).map fun e => e.2.length).sum : Nat) : Int), X.filter fun e => !(e.1.to == en && decide (e.1 ∈ l.map Prod.fst)))
  | [], X, c, hn, h => by
    have : X.filter (fun e => !(e.1.to == en && decide (e.1 ∈ ([] : Mp).map Prod.fst))) = X := filter_all fun x _ => by simp
    simp only [foldO, net_Net_Clear.f1, this]
    simp
  | e :: l, X, c, hn, h => by
    simp only [List.map_cons, List.sum_cons] at h
    by_cases he : e.1.to = en
    · have hw : w64 ((c : Int) + (e.2.length : Int)) = ((c + e.2.length : Nat) : Int) := by rw [w64_id (by omega) (by omega)]; omega
      have hb : (e.1.to == en) = true := by simp [he]
      have hn2 : ((X.filter fun x => decide (x.1 ≠ e.1)).map Prod.fst).Nodup := (List.filter_sublist.map _).nodup hn
      have ih := clearFold k en l (X.filter fun x => decide (x.1 ≠ e.1)) (c + e.2.length) hn2 (by omega)
      simp only [foldO, net_Net_Clear.b1, lt1, hb, if_true, hw, mdel_eq_filter hn]
      simp only [net_Net_Clear.b1, lt1] at ih
      rw [ih]
      have hf : (e :: l).filter (fun e => e.1.to == en) = e :: l.filter (fun e => e.1.to == en) := List.filter_cons_of_pos (p := fun e : net_pair × List (List UInt8) => e.1.to == en) hb
      rw [hf]
      simp only [List.map_cons, List.sum_cons, List.filter_filter, Option.some.injEq, Prod.mk.injEq]
      refine ⟨by omega, List.filter_congr fun x _ => ?_⟩
      by_cases hx : x.1 = e.1
      · simp [hx, he]
      · have hx2 : (x.1 == e.1) = false := beq_eq_false_iff_ne.2 hx
        simp [hx, hx2]
    · have hb : (e.1.to == en) = false := by simp [he]
      have ih := clearFold k en l X c hn (by omega)
      simp only [foldO, net_Net_Clear.b1, lt1, hb, Bool.false_eq_true, if_false]
      simp only [net_Net_Clear.b1, lt1] at ih
      rw [ih]
      have hf : (e :: l).filter (fun e => e.1.to == en) = l.filter (fun e => e.1.to == en) := List.filter_cons_of_neg (p := fun e : net_pair × List (List UInt8) => e.1.to == en) (by simp [he])
      rw [hf]
      simp only [Option.some.injEq, Prod.mk.injEq, true_and]
      refine List.filter_congr fun x _ => ?_
      by_cases hx : x.1 = e.1
      · simp [hx, he]
      · simp only [List.map_cons, List.mem_cons, hx, false_or]
theorem Clear_F (k : Nat) {E : Nat} {M : Mp} (h : Inv M E) (en lost : Int) : ∃ M', net_Net_Clear k en (E : Int) lost M = some ((((allF M E).filter (toB en)).length : Int), M') ∧ Inv M' E ∧ allF M' E = (allF M E).filter (notB en) := by
  have hl := allF_len h
  have hs := sum_M M h.nd fun e he => (h.rng e he).1
  rw [← allF_length] at hs
  have hM1 : Inv (M.filter fun e => (fun p : net_pair => p.to == en) e.1) E := h.filter fun p => p.to == en
  have hs1 := sum_M _ hM1.nd fun e he => (hM1.rng e he).1
  rw [← allF_length, allF_filter M E fun p => p.to == en] at hs1
  refine ⟨M.filter fun e => (fun p : net_pair => p.to != en) e.1, ?_, h.filter fun p => p.to != en, allF_filter M E fun p => p.to != en⟩
  have : rangeM (Option.getD (some M) []) (fun s e => net_Net_Clear.b1 k en s.1 s.2 e) (fun s => net_Net_Clear.f1 k s.1 s.2) (M, (0 : Int)) = some ((((allF M E).filter (toB en)).length : Int), M.filter fun e => (fun p : net_pair => p.to != en) e.1) := by
    refine rangeM_of fun l hp => ?_
    rw [Option.getD_some] at hp
    have hs2 := perm_sum (fun e : net_pair × List (List UInt8) => e.2.length) hp
    have hs3 := perm_sum (fun e : net_pair × List (List UInt8) => e.2.length) (hp.filter fun e => e.1.to == en)
    have := clearFold k en l M 0 h.nd (by omega)
    rw [hs3, hs1, Nat.zero_add] at this
    rw [show ((0 : Int)) = ((0 : Nat) : Int) from rfl, this]
    congr 2
    refine List.filter_congr fun x hx => ?_
    have : x.1 ∈ l.map Prod.fst := List.mem_map.2 ⟨x, hp.mem_iff.2 hx, rfl⟩
    simp only [this, decide_true, Bool.and_true]
    rfl
  simp only [net_Net_Clear, net_Net_there, Option.bind_some, this]
/-! ### the reference -/
theorem same_eq (k : Nat) (a b : api_Flight) : ref12_Same k a b = some (decide (a = b)) := by
  simp only [ref12_Same, lt1, Option.bind_some]
  obtain ⟨a1, a2, a3⟩ := a
  obtain ⟨b1, b2, b3⟩ := b
  simp only [api_Flight.mk.injEq]
  by_cases h1 : a1 = b1
  · by_cases h2 : a2 = b2
    · by_cases h3 : a3 = b3 <;> simp [h1, h2, h3]
    · simp [h1, h2]
  · simp [h1]
/-! ### an act, done to both -/
end Go.Proofs.Ytnadeehdnmgebaa
