/- Clearing; the reference's functions; an act done to both. -/
import Derived.Test.YtnadeehdnmgebaaC
namespace Go.Proofs.Ytnadeehdnmgebaa
open Go Fw
set_option linter.unusedVariables false
set_option linter.unusedSimpArgs false

def toB (e : Int) (x : api_Flight) : Bool := x.To == e
def notB (e : Int) (x : api_Flight) : Bool := x.To != e
theorem allF_filter (M : Mp) (E : Nat) (f : net_pair → Bool) : allF (M.filter fun e => f e.1) E = (allF M E).filter fun x => f ⟨x.From, x.To⟩ := by
  unfold allF
  rw [List.filter_flatMap]
  rw [List.flatMap_def, List.flatMap_def]
  congr 1
  refine List.map_congr_left fun p _ => ?_
  have hl : ln (M.filter fun e => f e.1) p = if f p = true then ln M p else [] := by
    unfold ln
    rw [mget_filter]
    split <;> rfl
  unfold row
  rw [hl]
  by_cases h : f p = true
  · rw [if_pos h]
    symm
    exact filter_all fun x hx => by obtain ⟨b, _, rfl⟩ := List.mem_map.1 hx; exact h
  · rw [if_neg h]
    symm
    exact filter_none fun x hx => by obtain ⟨b, _, rfl⟩ := List.mem_map.1 hx; exact Bool.eq_false_iff.2 h
theorem Inv.filter {M : Mp} {E : Nat} (h : Inv M E) (f : net_pair → Bool) : Inv (M.filter fun e => f e.1) E := by
  have hl : ∀ p, ln (M.filter fun e => f e.1) p = if f p = true then ln M p else [] := fun p => by
    unfold ln
    rw [mget_filter]
    split <;> rfl
  refine ⟨h.E16, (List.filter_sublist.map _).nodup h.nd, fun e he => h.rng e (List.mem_filter.1 he).1, fun p => ?_, fun p b hb => ?_⟩
  · rw [hl]
    split
    · exact h.len p
    · simp
  · rw [hl] at hb
    split at hb
    · exact h.small p b hb
    · cases hb
theorem clearFold (k : Nat) (en : Int) : ∀ (l X : Mp) (c : Nat), (X.map Prod.fst).Nodup → c + (l.map fun e => e.2.length).sum ≤ 1000000 →
    foldO (fun s e => net_Net_Clear.b1 k en s.1 s.2 e) (fun s => net_Net_Clear.f1 k s.1 s.2) l (X, (c : Int)) = some (((c + ((l.filter fun e => e.1.to == en).map fun e => e.2.length).sum : Nat) : Int), X.filter fun e => !(e.1.to == en && decide (e.1 ∈ l.map Prod.fst)))
  | [], X, c, hn, h => by
    have : X.filter (fun e => !(e.1.to == en && decide (e.1 ∈ ([] : Mp).map Prod.fst))) = X := filter_all fun x _ => by simp
    simp only [foldO, net_Net_Clear.f1, this]
    simp
  | e :: l, X, c, hn, h => by
    simp only [List.map_cons, List.sum_cons] at h
    by_cases he : e.1.to = en
    · have hw : w64 ((c : Int) + (e.2.length : Int)) = ((c + e.2.length : Nat) : Int) := by rw [w64_id (by omega) (by omega)]; omega
      have hb : (e.1.to == en) = true := by simp [he]
      have hn2 : ((X.filter fun x => decide (x.1 ≠ e.1)).map Prod.fst).Nodup := (List.filter_sublist.map _).nodup hn
      have ih := clearFold k en l (X.filter fun x => decide (x.1 ≠ e.1)) (c + e.2.length) hn2 (by omega)
      simp only [foldO, net_Net_Clear.b1, lt1, hb, if_true, hw, mdel_eq_filter hn]
      simp only [net_Net_Clear.b1, lt1] at ih
      rw [ih]
      have hf : (e :: l).filter (fun e => e.1.to == en) = e :: l.filter (fun e => e.1.to == en) := List.filter_cons_of_pos (p := fun e : net_pair × List (List UInt8) => e.1.to == en) hb
      rw [hf]
      simp only [List.map_cons, List.sum_cons, List.filter_filter, Option.some.injEq, Prod.mk.injEq]
      refine ⟨by omega, List.filter_congr fun x _ => ?_⟩
      by_cases hx : x.1 = e.1
      · simp [hx, he]
      · have hx2 : (x.1 == e.1) = false := beq_eq_false_iff_ne.2 hx
        simp [hx, hx2]
    · have hb : (e.1.to == en) = false := by simp [he]
      have ih := clearFold k en l X c hn (by omega)
      simp only [foldO, net_Net_Clear.b1, lt1, hb, Bool.false_eq_true, if_false]
      simp only [net_Net_Clear.b1, lt1] at ih
      rw [ih]
      have hf : (e :: l).filter (fun e => e.1.to == en) = l.filter (fun e => e.1.to == en) := List.filter_cons_of_neg (p := fun e : net_pair × List (List UInt8) => e.1.to == en) (by simp [he])
      rw [hf]
      simp only [Option.some.injEq, Prod.mk.injEq, true_and]
      refine List.filter_congr fun x _ => ?_
      by_cases hx : x.1 = e.1
      · simp [hx, he]
      · simp only [List.map_cons, List.mem_cons, hx, false_or]
theorem Clear_F (k : Nat) {E : Nat} {M : Mp} (h : Inv M E) (en lost : Int) : ∃ M', net_Net_Clear k en (E : Int) lost M = some ((((allF M E).filter (toB en)).length : Int), M') ∧ Inv M' E ∧ allF M' E = (allF M E).filter (notB en) := by
  have hl := allF_len h
  have hs := sum_M M h.nd fun e he => (h.rng e he).1
  rw [← allF_length] at hs
  have hM1 : Inv (M.filter fun e => (fun p : net_pair => p.to == en) e.1) E := h.filter fun p => p.to == en
  have hs1 := sum_M _ hM1.nd fun e he => (hM1.rng e he).1
  rw [← allF_length, allF_filter M E fun p => p.to == en] at hs1
  refine ⟨M.filter fun e => (fun p : net_pair => p.to != en) e.1, ?_, h.filter fun p => p.to != en, allF_filter M E fun p => p.to != en⟩
  have : rangeM (Option.getD (some M) []) (fun s e => net_Net_Clear.b1 k en s.1 s.2 e) (fun s => net_Net_Clear.f1 k s.1 s.2) (M, (0 : Int)) = some ((((allF M E).filter (toB en)).length : Int), M.filter fun e => (fun p : net_pair => p.to != en) e.1) := by
    refine rangeM_of fun l hp => ?_
    rw [Option.getD_some] at hp
    have hs2 := perm_sum (fun e : net_pair × List (List UInt8) => e.2.length) hp
    have hs3 := perm_sum (fun e : net_pair × List (List UInt8) => e.2.length) (hp.filter fun e => e.1.to == en)
    have := clearFold k en l M 0 h.nd (by omega)
    rw [hs3, hs1, Nat.zero_add] at this
    rw [show ((0 : Int)) = ((0 : Nat) : Int) from rfl, this]
    congr 2
    refine List.filter_congr fun x hx => ?_
    have : x.1 ∈ l.map Prod.fst := List.mem_map.2 ⟨x, hp.mem_iff.2 hx, rfl⟩
    simp only [this, decide_true, Bool.and_true]
    rfl
  simp only [net_Net_Clear, net_Net_there, Option.bind_some, this]
/-! ### the reference -/
theorem refLine_eq (k : Nat) (L : List api_Flight) (hk : L.length < k) (hl : L.length ≤ 1000000) (f t Ends Lost : Int) : ref12_Net_Line'2 k f t Ends Lost L = some ((lineF L f t).length : Int) := by
  have hlp : loopO (fun s => ref12_Net_Line'2.b1 k L f t s.1 s.2) k ((0 : Int), (0 : Int)) = some ((lineF L f t).length : Int) := by
    refine loop_nat (n := L.length) (fun i => ((lineF (L.take i) f t).length : Int)) _ ?_ ?_ hk (by simp [lineF])
    · intro i hi
      have hle : (lineF (L.take i) f t).length ≤ i := by
        have := List.length_filter_le (isL f t) (L.take i)
        have h2 : (L.take i).length ≤ i := by simp; omega
        unfold lineF; omega
      have hs : lineF (L.take (i + 1)) f t = lineF (L.take i) f t ++ if isL f t L[i] = true then [L[i]] else [] := by
        unfold lineF
        rw [List.take_succ_eq_append_getElem hi, List.filter_append]
        congr 1
        by_cases h : isL f t L[i] = true
        · rw [if_pos h, List.filter_cons_of_pos h]; rfl
        · rw [if_neg h, List.filter_cons_of_neg h]; rfl
      simp only [ref12_Net_Line'2.b1, lt1, dec_t (show (i : Int) < (L.length : Int) by omega), if_true, inO_ok (show 0 ≤ (i : Int) by omega) (show (i : Int).toNat < L.length by omega), Option.bind_some, Int.toNat_natCast, List.getElem?_eq_getElem hi, w64_succ (show i < 9223372036854775807 by omega)]
      rw [hs]
      by_cases h1 : L[i].From = f
      · by_cases h2 : L[i].To = t
        · have h3 : isL f t L[i] = true := isL_iff.2 ⟨h1, h2⟩
          simp only [h1, h2, h3, beq_self_eq_true, if_true, Option.bind_some, w64_succ (show (lineF (L.take i) f t).length < 9223372036854775807 by omega)]
          simp
        · have h3 : ¬ isL f t L[i] = true := fun h => h2 (isL_iff.1 h).2
          simp [h1, h2, h3]
      · have h3 : ¬ isL f t L[i] = true := fun h => h1 (isL_iff.1 h).1
        simp [h1, h3]
    · simp only [ref12_Net_Line'2.b1, lt1, dec_f (show ¬ (L.length : Int) < (L.length : Int) by omega), Bool.false_eq_true, if_false, List.take_length]
  simp only [ref12_Net_Line'2, hlp, Option.bind_some]
theorem takeWhile_len {α : Type} {p : α → Bool} : ∀ {L : List α} {n : Nat}, n ≤ L.length → (∀ j (h : j < n) (h' : j < L.length), p L[j] = true) → (∀ h : n < L.length, p L[n] = false) → L.takeWhile p = L.take n ∧ L.dropWhile p = L.drop n
  | [], n, hn, _, _ => by simp
  | x :: L, 0, _, _, h0 => by
    have := h0 (by simp)
    exact ⟨by rw [List.takeWhile_cons_of_neg (by simpa using this)]; rfl, by rw [List.dropWhile_cons_of_neg (by simpa using this)]; rfl⟩
  | x :: L, n + 1, hn, h1, h0 => by
    have hx : p x = true := h1 0 (by omega) (by simp)
    have ih := takeWhile_len (L := L) (n := n) (by simpa using hn) (fun j hj hj' => h1 (j + 1) (by omega) (by simp; omega)) (fun h => h0 (by simp; omega))
    exact ⟨by rw [List.takeWhile_cons_of_pos hx, ih.1]; rfl, by rw [List.dropWhile_cons_of_pos hx, ih.2]; rfl⟩
theorem reflay_eq (k : Nat) (L : List api_Flight) (hk : L.length < k) (hl : L.length ≤ 1000000) (f : api_Flight) (Ends Lost : Int) : ref12_Net_lay'2 k f Ends Lost L = some (layF f L) := by
  obtain ⟨t, h1, n, rfl, h2, h3, h4⟩ : ∃ t, loopO (fun s => ref12_Net_lay'2.b1 k L f s) k (0 : Int) = some t ∧ ∃ n : Nat, t = (n : Int) ∧ n ≤ L.length ∧ (∀ j (h : j < n) (h' : j < L.length), ahead f L[j] = true) ∧ ∀ h : n < L.length, ahead f L[n] = false := by
    refine loop_inv (I := fun s => ∃ n : Nat, s = (n : Int) ∧ n ≤ L.length ∧ ∀ j (h : j < n) (h' : j < L.length), ahead f L[j] = true) (m := fun s => ((L.length : Int) - s).toNat) _ ?_ k (0 : Int) ⟨0, rfl, Nat.zero_le _, fun j h => by omega⟩ (by omega)
    rintro s ⟨n, rfl, hn, hA⟩
    by_cases hlt : n < L.length
    · have ha : (if decide (L[n].From < f.From) = true then some true else if (L[n].From == f.From) = true then some (decide (L[n].To ≤ f.To)) else some false) = some (ahead f L[n]) := by
        unfold ahead
        by_cases g1 : L[n].From < f.From
        · simp [g1]
        · by_cases g2 : L[n].From = f.From <;> simp [g1, g2]
      simp only [ref12_Net_lay'2.b1, lt1, dec_t (show (n : Int) < (L.length : Int) by omega), if_true, inO_ok (show 0 ≤ (n : Int) by omega) (show (n : Int).toNat < L.length by omega), Option.bind_some, Int.toNat_natCast, List.getElem?_eq_getElem hlt, ha, w64_succ (show n < 9223372036854775807 by omega)]
      cases hh : ahead f L[n]
      · right
        exact ⟨_, rfl, n, rfl, hn, hA, fun _ => hh⟩
      · left
        refine ⟨_, rfl, ⟨n + 1, rfl, by omega, fun j hj hj' => ?_⟩, by omega⟩
        by_cases hjn : j = n
        · subst hjn; exact hh
        · exact hA j (by omega) hj'
    · right
      simp only [ref12_Net_lay'2.b1, lt1, dec_f (show ¬ (n : Int) < (L.length : Int) by omega), Bool.false_eq_true, if_false, Option.bind_some]
      exact ⟨_, rfl, n, rfl, hn, hA, fun h => absurd h hlt⟩
  obtain ⟨e1, e2⟩ := takeWhile_len h2 h3 h4
  have s1 : subL L (0) (n : Int) = some (L.take n) := by rw [subL_ok (by omega) (by omega) (by omega)]; simp
  have s2 : subL L (n : Int) (L.length : Int) = some (L.drop n) := by
    rw [subL_ok (by omega) (by omega) (by omega)]
    congr 1
    exact List.take_of_length_le (by simp)
  simp only [ref12_Net_lay'2, h1, Option.bind_some, s1, s2]
  rw [apL_ok (by simp; omega), Option.bind_some, apL_ok (by simp; omega), Option.bind_some, apL_ok (by simp; omega), Option.bind_some]
  unfold layF
  rw [e1, e2]
  simp
theorem rsend_cond (E : Nat) (f t : Int) (n : Nat) : (if (bif decide (f < (1 : Int)) then true else decide (t < (1 : Int))) = true then some true else if decide (f > (E : Int)) = true then some true else some (bif bif decide (t > (E : Int)) then true else (f == t) then true else decide ((n : Int) > 1048576))) = some (decide (badS E f t n)) := by
  rw [← send_cond]
  by_cases h1 : f < 1
  · simp [h1]
  by_cases h2 : f > (E : Int)
  · by_cases h3 : t < 1 <;> simp [h1, h2, h3]
  by_cases h3 : t < 1
  · simp [h1, h2, h3]
  · simp [h1, h2, h3]
theorem refSend_eq (k : Nat) (E : Nat) (L : List api_Flight) (hk : L.length < k) (hl : L.length ≤ 1000000) (f t : Int) (b : List UInt8) (Lost : Int) : ref12_Net_Send'2 k f t b (E : Int) Lost L = some (sendF E f t b Lost L) := by
  have hc := rsend_cond E f t b.length
  simp only [ref12_Net_Send'2, lt1, Option.bind_some, hc, refLine_eq k L hk hl, sendF]
  by_cases h : badS E f t b.length
  · simp only [h, decide_true, if_true]
  · have hb := (badS_in h).2.2
    simp only [h, decide_false, Bool.false_eq_true, if_false]
    by_cases h2 : 64 ≤ (lineF L f t).length
    · rw [if_pos h2, if_pos (decide_eq_true (show ((lineF L f t).length : Int) ≥ 64 by omega))]
    · rw [if_neg h2, if_neg (by rw [decide_eq_true_eq]; omega), apL_ok (by simp; omega), Option.bind_some, List.nil_append, reflay_eq k L hk hl]
      rfl
theorem refAt_eq (k : Nat) (L : List api_Flight) (place Ends Lost : Int) : ref12_Net_At'2 k place Ends Lost L = some (atM L place) := by
  simp only [ref12_Net_At'2, lt1]
  unfold atM
  by_cases h0 : place < 0
  · simp [h0, zeroF]
  · obtain ⟨p, rfl⟩ : ∃ p : Nat, place = p := ⟨place.toNat, by omega⟩
    by_cases h1 : p < L.length
    · simp only [dec_f h0, Bool.false_eq_true, if_false, dec_f (show ¬ (p : Int) ≥ (L.length : Int) by omega), inO_ok (show 0 ≤ (p : Int) by omega) (show (p : Int).toNat < L.length by omega), Option.bind_some, Int.toNat_natCast, List.getElem?_eq_getElem h1, if_neg h0]
    · simp only [dec_f h0, Bool.false_eq_true, if_false, dec_t (show (p : Int) ≥ (L.length : Int) by omega), if_true, if_neg h0, Int.toNat_natCast, List.getElem?_eq_none (show L.length ≤ p by omega)]
      rfl
theorem refTake_eq (k : Nat) (L : List api_Flight) (hl : L.length ≤ 1000000) (place Ends Lost : Int) : ref12_Net_Take'2 k place Ends Lost L = some ((atM L place).1, (atM L place).2, if (atM L place).2 = 0 then L.eraseIdx place.toNat else L) := by
  simp only [ref12_Net_Take'2, refAt_eq, Option.bind_some, lt1]
  by_cases hz : (atM L place).2 = 0
  · obtain ⟨_, h0, hg⟩ := atM_mem hz
    obtain ⟨p, rfl⟩ : ∃ p : Nat, place = p := ⟨place.toNat, by omega⟩
    rw [Int.toNat_natCast] at hg
    have hp : p < L.length := (List.getElem?_eq_some_iff.1 hg).1
    have s1 : subL L (0) (p : Int) = some (L.take p) := by rw [subL_ok (by omega) (by omega) (by omega)]; simp
    have s2 : subL L ((p + 1 : Nat) : Int) (L.length : Int) = some (L.drop (p + 1)) := by
      rw [subL_ok (by omega) (by omega) (by omega)]
      congr 1
      exact List.take_of_length_le (by simp)
    simp only [hz, beq_self_eq_true, if_true, s1, Option.bind_some, w64_succ (show p < 9223372036854775807 by omega), s2]
    rw [apL_ok (by simp; omega), Option.bind_some, apL_ok (by simp; omega), Option.bind_some, Option.bind_some, Int.toNat_natCast, List.eraseIdx_eq_take_drop_succ, List.nil_append]
  · have hb : ((atM L place).2 == 0) = false := by simpa using hz
    simp only [hb, Bool.false_eq_true, if_false, Option.bind_some, if_neg hz]
theorem refDouble_eq (k : Nat) (L : List api_Flight) (hk : L.length < k) (hl : L.length ≤ 1000000) (place Ends Lost : Int) : ref12_Net_Double'2 k place Ends Lost L = some (dblF L place) := by
  simp only [ref12_Net_Double'2, refAt_eq, Option.bind_some, lt1, dblF]
  by_cases hz : (atM L place).2 = 0
  · simp only [hz, bne_self_eq_false, Bool.false_eq_true, if_false, refLine_eq k L hk hl, Option.bind_some, ne_eq, not_true_eq_false]
    by_cases h64 : 64 ≤ (lineF L (atM L place).1.From (atM L place).1.To).length
    · rw [if_pos (decide_eq_true (show ((lineF L (atM L place).1.From (atM L place).1.To).length : Int) ≥ 64 by omega)), if_pos h64]
    · rw [if_neg (by rw [decide_eq_true_eq]; omega), if_neg h64, reflay_eq k L hk hl]; rfl
  · have hb : ((atM L place).2 != 0) = true := by simpa using hz
    simp only [hb, if_true, ne_eq, hz, not_false_eq_true]
theorem filter_len (L : List api_Flight) (e : Int) : (L.filter (toB e)).length + (L.filter (notB e)).length = L.length := by
  induction L with
  | nil => rfl
  | cons x L ih =>
    by_cases h : x.To = e
    · rw [List.filter_cons_of_pos (show toB e x = true by simp [toB, h]), List.filter_cons_of_neg (show ¬ notB e x = true by simp [notB, h])]
      simp only [List.length_cons]; omega
    · rw [List.filter_cons_of_neg (show ¬ toB e x = true by simp [toB, h]), List.filter_cons_of_pos (show notB e x = true by simp [notB, h])]
      simp only [List.length_cons]; omega
theorem refClear_eq (k : Nat) (L : List api_Flight) (hk : L.length < k) (hl : L.length ≤ 1000000) (e Ends Lost : Int) : ref12_Net_Clear'2 k e Ends Lost L = some (((L.filter (toB e)).length : Int), L.filter (notB e)) := by
  have hlp : loopO (fun s => ref12_Net_Clear'2.b1 k L e s.1 s.2) k (([] : List api_Flight), (0 : Int)) = some (L.filter (notB e)) := by
    refine loop_nat (n := L.length) (fun i => (L.take i).filter (notB e)) _ ?_ ?_ hk (by simp)
    · intro i hi
      have hle : ((L.take i).filter (notB e)).length ≤ i := by
        have := List.length_filter_le (notB e) (L.take i)
        have h2 : (L.take i).length ≤ i := by simp; omega
        omega
      have hs : (L.take (i + 1)).filter (notB e) = (L.take i).filter (notB e) ++ if notB e L[i] = true then [L[i]] else [] := by
        rw [List.take_succ_eq_append_getElem hi, List.filter_append]
        congr 1
        by_cases h : notB e L[i] = true
        · rw [if_pos h, List.filter_cons_of_pos h]; rfl
        · rw [if_neg h, List.filter_cons_of_neg h]; rfl
      simp only [ref12_Net_Clear'2.b1, lt1, dec_t (show (i : Int) < (L.length : Int) by omega), if_true, inO_ok (show 0 ≤ (i : Int) by omega) (show (i : Int).toNat < L.length by omega), Option.bind_some, Int.toNat_natCast, List.getElem?_eq_getElem hi, w64_succ (show i < 9223372036854775807 by omega)]
      rw [hs]
      by_cases h : L[i].To = e
      · have h2 : ¬ notB e L[i] = true := by simp [notB, h]
        simp [h, h2]
      · have h1 : (L[i].To != e) = true := by simp [h]
        have h2 : notB e L[i] = true := h1
        simp only [h1, h2, if_true]
        rw [apL_ok (by simp only [List.length_cons, List.length_nil]; omega), Option.bind_some, Option.bind_some]
    · simp only [ref12_Net_Clear'2.b1, lt1, dec_f (show ¬ (L.length : Int) < (L.length : Int) by omega), Bool.false_eq_true, if_false, List.take_length]
  have h1 := filter_len L e
  have hw : w64 ((L.length : Int) - ((L.filter (notB e)).length : Int)) = ((L.filter (toB e)).length : Int) := by rw [w64_id (by omega) (by omega)]; omega
  simp only [ref12_Net_Clear'2, hlp, Option.bind_some, lt1, hw]
theorem same_eq (k : Nat) (a b : api_Flight) : ref12_Same k a b = some (decide (a = b)) := by
  simp only [ref12_Same, lt1, Option.bind_some]
  obtain ⟨a1, a2, a3⟩ := a
  obtain ⟨b1, b2, b3⟩ := b
  simp only [api_Flight.mk.injEq]
  by_cases h1 : a1 = b1
  · by_cases h2 : a2 = b2
    · by_cases h3 : a3 = b3 <;> simp [h1, h2, h3]
    · simp [h1, h2]
  · simp [h1]
/-! ### an act, done to both -/
theorem lay2_eq (k : Nat) (p : net_pair) (b x : List UInt8) (E lost : Int) (M : Mp) (hv : viewL x 0 b.length = some b) : net_Net_lay'2 k p 0 b.length E lost M x = net_Net_lay k p b E lost M := by
  simp only [net_Net_lay'2, net_Net_lay, slices_Clonebyte_byte'3, slices_Clonebyte_byte, apV, hv, Option.bind_some]
theorem Send2_eq (k : Nat) (f t : Int) (b x : List UInt8) (E lost : Int) (M : Mp) (hv : viewL x 0 b.length = some b) : net_Net_Send'2 k f t 0 b.length E lost M x = net_Net_Send k f t b E lost M := by
  have hc : ∀ c1 c2 c3 c4 c5 c6 : Bool, (if c1 = true then some true else if (bif c2 then true else c3) = true then some true else if (bif c4 then true else c5) = true then some true else some c6) = (if c1 = true then some true else if (bif c2 then true else c3) = true then some true else some (bif bif c4 then true else c5 then true else c6)) := by
    intro c1 c2 c3 c4 c5 c6
    cases c1 <;> cases c2 <;> cases c3 <;> cases c4 <;> cases c5 <;> rfl
  simp only [net_Net_Send'2, net_Net_Send, lay2_eq k _ b x _ _ M hv]
  simp only [lt1, hc]
theorem nines (k : Nat) (x : List UInt8) (hk : x.length < k) (hx : x.length ≤ 1000000) : ∃ t, loopO (fun s => law12_do'2.b1 k s.1 s.2) k (x, (0 : Int)) = some t := by
  have := loop_inv (body := fun s : List UInt8 × Int => law12_do'2.b1 k s.1 s.2) (I := fun s => 0 ≤ s.2 ∧ s.2 ≤ (x.length : Int) ∧ s.1.length = x.length) (m := fun s => ((x.length : Int) - s.2).toNat) (fun _ => True) ?_ k (x, (0 : Int)) ⟨Int.le_refl _, by show (0 : Int) ≤ _; omega, rfl⟩ (by show ((x.length : Int) - 0).toNat < k; omega)
  · obtain ⟨t, h1, _⟩ := this
    exact ⟨t, h1⟩
  · rintro ⟨y, s⟩ ⟨h0, h1, h2⟩
    simp only at h0 h1 h2
    by_cases hlt : s < (x.length : Int)
    · left
      obtain ⟨i, rfl⟩ : ∃ i : Nat, s = i := ⟨s.toNat, by omega⟩
      simp only [law12_do'2.b1, lt1, dec_t (show (i : Int) < (y.length : Int) by omega), if_true, inO_ok (show 0 ≤ (i : Int) by omega) (show (i : Int).toNat < y.length by omega), Int.toNat_natCast, setO'_ok (show i < y.length by omega), Option.bind_some, w64_succ (show i < 9223372036854775807 by omega)]
      exact ⟨_, rfl, ⟨by show (0 : Int) ≤ ((i + 1 : Nat) : Int); omega, by show ((i + 1 : Nat) : Int) ≤ _; omega, by show (y.set _ _).length = _; simp [h2]⟩, by show ((x.length : Int) - ((i + 1 : Nat) : Int)).toNat < ((x.length : Int) - (i : Int)).toNat; omega⟩
    · right
      simp only [law12_do'2.b1, lt1, dec_f (show ¬ s < (y.length : Int) by omega), Bool.false_eq_true, if_false]
      exact ⟨(), by simp⟩
theorem do_eq (k : Nat) (hk : 30000 ≤ k) {E : Nat} {M : Mp} (h : Inv M E) (a : law12_Act) (ha : a.Bytes.length ≤ 20001) (lost : Int) : ∃ M' lost', law12_do'2 k a (E : Int) lost M (E : Int) lost (allF M E) = some (true, M', lost', allF M' E, lost') ∧ Inv M' E := by
  have hnum : ∀ v, law12_num k v = some () := fun _ => rfl
  have hl := allF_len h
  have hS := Send_F k h a.A a.B a.Bytes lost
  obtain ⟨M1, s1, s2, s3⟩ := hS
  have hrS := refSend_eq k E (allF M E) (by omega) (by omega) a.A a.B a.Bytes lost
  obtain ⟨M2, t1, t2, t3⟩ := Take_F k (by omega) h lost a.A
  have hrT := refTake_eq k (allF M E) (by omega) a.A (E : Int) lost
  obtain ⟨M3, d1, d2, d3⟩ := Drop_F k (by omega) h lost a.A
  obtain ⟨M4, b1, b2, b3⟩ := Double_F k (by omega) h lost a.A
  have hrD := refDouble_eq k (allF M E) (by omega) (by omega) a.A (E : Int) lost
  obtain ⟨M5, c1, c2, c3⟩ := Clear_F k h a.A lost
  have hrC := refClear_eq k (allF M E) (by omega) (by omega) a.A (E : Int) lost
  simp only [law12_do'2, lt1]
  by_cases h1 : a.Kind = 1
  · have e1 : (a.Kind == 1) = true := by simp [h1]
    have hv : viewN 0 (a.Bytes ++ [7]).length (0 : Int) (a.Bytes.length : Int) = some (0, a.Bytes.length) := by unfold viewN; rw [if_pos ⟨by omega, by omega, by simp; omega⟩]; simp
    have hv2 : viewL (a.Bytes ++ [7]) 0 a.Bytes.length = some a.Bytes := by
      unfold viewL
      by_cases h0 : a.Bytes.length = 0
      · rw [if_pos h0, List.eq_nil_of_length_eq_zero h0]
      · rw [if_neg h0, if_pos (by simp)]; simp
    obtain ⟨t, ht⟩ := nines k (a.Bytes ++ [7]) (by simp; omega) (by simp; omega)
    simp only [e1, if_true]
    rw [apL_ok (by simp; omega), Option.bind_some, List.nil_append, apL_ok (by simp; omega), Option.bind_some]
    simp only [hv, Option.bind_some, Send2_eq k _ _ _ _ _ _ M hv2, s1, ht, hnum, hrS, beq_self_eq_true]
    exact ⟨M1, _, by rw [s3], s2⟩
  have e1 : (a.Kind == 1) = false := by simp [h1]
  by_cases h2 : a.Kind = 2
  · have e2 : (a.Kind == 2) = true := by simp [h2]
    simp only [e1, e2, Bool.false_eq_true, if_false, if_true, t1, hrT, Option.bind_some, same_eq, decide_true, hnum, beq_self_eq_true, cond_true]
    exact ⟨M2, _, by rw [t3], t2⟩
  have e2 : (a.Kind == 2) = false := by simp [h2]
  by_cases h3 : a.Kind = 3
  · have e3 : (a.Kind == 3) = true := by simp [h3]
    simp only [e1, e2, e3, Bool.false_eq_true, if_false, if_true, d1, hrT, Option.bind_some, hnum, beq_self_eq_true]
    exact ⟨M3, _, by rw [d3], d2⟩
  have e3 : (a.Kind == 3) = false := by simp [h3]
  by_cases h4 : a.Kind = 4
  · have e4 : (a.Kind == 4) = true := by simp [h4]
    simp only [e1, e2, e3, e4, Bool.false_eq_true, if_false, if_true, b1, hrD, Option.bind_some, hnum, beq_self_eq_true]
    exact ⟨M4, _, by rw [b3], b2⟩
  have e4 : (a.Kind == 4) = false := by simp [h4]
  by_cases h5 : a.Kind = 5
  · have e5 : (a.Kind == 5) = true := by simp [h5]
    simp only [e1, e2, e3, e4, e5, Bool.false_eq_true, if_false, if_true, c1, hrC, Option.bind_some, hnum, beq_self_eq_true]
    exact ⟨M5, _, by rw [c3], c2⟩
  have e5 : (a.Kind == 5) = false := by simp [h5]
  by_cases h6 : a.Kind = 6
  · have e6 : (a.Kind == 6) = true := by simp [h6]
    have hlp := loop_inv (body := fun s : Mp × Int × List api_Flight × Int × Int => law12_do'2.b2 k a (E : Int) (E : Int) s.1 s.2.1 s.2.2.1 s.2.2.2.1 s.2.2.2.2)
      (I := fun s => Inv s.1 E ∧ s.2.2.1 = allF s.1 E ∧ s.2.2.2.1 = s.2.1 ∧ 0 ≤ s.2.2.2.2 ∧ s.2.2.2.2 ≤ 70) (m := fun s => (70 - s.2.2.2.2).toNat) (fun t => ∃ M' lost', t = .inl (M', lost', allF M' E, lost') ∧ Inv M' E) ?_ k (M, lost, allF M E, lost, (0 : Int)) ⟨h, rfl, rfl, Int.le_refl _, by show (0 : Int) ≤ 70; omega⟩ (by show (70 - (0 : Int)).toNat < k; omega)
    · obtain ⟨t, g1, M', lost', rfl, g2⟩ := hlp
      simp only [e1, e2, e3, e4, e5, e6, Bool.false_eq_true, if_false, if_true, g1, Option.bind_some]
      exact ⟨M', lost', rfl, g2⟩
    · rintro ⟨X, lo, L, Lo, i⟩ ⟨g1, g2, g3, g4, g5⟩
      simp only at g1 g2 g3 g4 g5
      subst g2; subst g3
      by_cases hlt : i < 70
      · left
        obtain ⟨i, rfl⟩ : ∃ j : Nat, i = j := ⟨i.toNat, by omega⟩
        obtain ⟨M1, s1, s2, s3⟩ := Send_F k g1 a.A a.B a.Bytes Lo
        have hl := allF_len g1
        have hrS := refSend_eq k E (allF X E) (by omega) (by omega) a.A a.B a.Bytes Lo
        simp only [law12_do'2.b2, lt1, dec_t (show (i : Int) < 70 by omega), if_true, s1, hnum, hrS, Option.bind_some, bne_self_eq_false, Bool.false_eq_true, if_false, w64_succ (show i < 9223372036854775807 by omega)]
        exact ⟨_, rfl, ⟨s2, s3.symm, rfl, by show (0 : Int) ≤ ((i + 1 : Nat) : Int); omega, by show ((i + 1 : Nat) : Int) ≤ 70; omega⟩, by show (70 - ((i + 1 : Nat) : Int)).toNat < (70 - (i : Int)).toNat; omega⟩
      · right
        simp only [law12_do'2.b2, lt1, dec_f hlt, Bool.false_eq_true, if_false]
        exact ⟨_, rfl, X, Lo, rfl, g1⟩
  · have e6 : (a.Kind == 6) = false := by simp [h6]
    simp only [e1, e2, e3, e4, e5, e6, Bool.false_eq_true, if_false, Option.bind_some]
    exact ⟨M, lost, rfl, h⟩
end Go.Proofs.Ytnadeehdnmgebaa
