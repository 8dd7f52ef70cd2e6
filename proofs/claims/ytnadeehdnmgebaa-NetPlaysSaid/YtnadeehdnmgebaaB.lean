/- What the net's functions compute. -/
import Derived.Test.YtnadeehdnmgebaaA
namespace Go.Proofs.Ytnadeehdnmgebaa
open Go Fw
set_option linter.unusedVariables false
set_option linter.unusedSimpArgs false

theorem clone_eq (k : Nat) (b : List UInt8) (h : b.length ≤ 2000000) : slices_Clonebyte_byte k b = some b := by
  simp only [slices_Clonebyte_byte, apL_ok (show (([] : List UInt8).length + b.length) * 1 ≤ 140737488355328 by simp; omega), Option.bind_some, List.nil_append]
theorem clone2_eq (k : Nat) (b : List (List UInt8)) (h : b.length ≤ 2000000) : slices_Clonebyte_byte'2 k b = some b := by
  simp only [slices_Clonebyte_byte'2, apL_ok (show (([] : List (List UInt8)).length + b.length) * 24 ≤ 140737488355328 by simp; omega), Option.bind_some, List.nil_append]
theorem getln (M : Mp) (p : net_pair) : Option.getD (mgetO (some M) p) ([] : List (List UInt8)) = ln M p := rfl
/-- laying -/
theorem lay_eq (k : Nat) (p : net_pair) (b : List UInt8) (E lost : Int) (M : Mp) (hb : b.length ≤ 2000000) (hl : (ln M p).length ≤ 100) : net_Net_lay k p b E lost M = some (mput p (ln M p ++ [b]) M) := by
  have hs : subL (ln M p) (0) (List.length (ln M p) : Int) = some (ln M p) := by
    rw [subL_ok (by omega) (by omega) (by omega)]
    simp
  simp only [net_Net_lay, getln]
  simp only [lt1, hs, clone_eq k b hb, Option.bind_some, apL_ok (show ((ln M p).length + [b].length) * 24 ≤ 140737488355328 by simp; omega)]
def badS (E : Nat) (f t : Int) (n : Nat) : Prop := f < 1 ∨ f > E ∨ t < 1 ∨ t > E ∨ f = t ∨ n > 1048576
instance (E : Nat) (f t : Int) (n : Nat) : Decidable (badS E f t n) := inferInstanceAs (Decidable (_ ∨ _))
/-- sending -/
noncomputable def sendM (E : Nat) (f t : Int) (b : List UInt8) (lost : Int) (M : Mp) : Int × Mp × Int :=
  if badS E f t b.length then (2, M, lost) else if 64 ≤ (ln M ⟨f, t⟩).length then (5, M, w64 (lost + 1)) else (0, mput ⟨f, t⟩ (ln M ⟨f, t⟩ ++ [b]) M, lost)
theorem send_cond (E : Nat) (f t : Int) (n : Nat) : (if decide (f < (1 : Int)) = true then some true else if (bif decide (f > (E : Int)) then true else decide (t < (1 : Int))) = true then some true else some (bif bif decide (t > (E : Int)) then true else (f == t) then true else decide ((n : Int) > 1048576))) = some (decide (badS E f t n)) := by
  unfold badS
  by_cases h1 : f < 1
  · simp [h1]
  by_cases h2 : f > (E : Int)
  · simp [h1, h2]
  by_cases h3 : t < 1
  · simp [h1, h2, h3]
  by_cases h4 : t > (E : Int)
  · simp [h1, h2, h3, h4]
  by_cases h5 : f = t
  · subst h5; simp [h1, h2]
  by_cases h6 : n > 1048576
  · simp only [h1, h2, h3, h4, h5, h6, decide_false, Bool.false_eq_true, if_false, cond_false]
    simp; omega
  · simp only [h1, h2, h3, h4, h5, h6, decide_false, Bool.false_eq_true, if_false, cond_false]
    simp [h5]; omega
theorem Send_eq (k : Nat) (E : Nat) (f t : Int) (b : List UInt8) (lost : Int) (M : Mp) : net_Net_Send k f t b (E : Int) lost M = some (sendM E f t b lost M) := by
  have hc := send_cond E f t b.length
  simp only [net_Net_Send, net_Net_there, getln]
  simp only [lt1, Option.bind_some, hc, sendM]
  by_cases h : badS E f t b.length
  · simp only [h, decide_true, if_true]
  · have hb : b.length ≤ 1048576 := by unfold badS at h; omega
    simp only [h, decide_false, Bool.false_eq_true, if_false]
    by_cases h2 : 64 ≤ (ln M ⟨f, t⟩).length
    · rw [if_pos h2, if_pos (decide_eq_true (show ((ln M ⟨f, t⟩).length : Int) ≥ 64 by omega))]
    · rw [if_neg h2, if_neg (by rw [decide_eq_true_eq]; omega), lay_eq k _ b _ _ M (by omega) (by omega)]
      rfl
theorem sendM_inv {E : Nat} {f t : Int} {b : List UInt8} {lost : Int} {M : Mp} (h : Inv M E) : Inv (sendM E f t b lost M).2.1 E := by
  unfold sendM
  split
  · exact h
  · rename_i hb
    split
    · exact h
    · rename_i hl
      unfold badS at hb
      refine h.put (p := ⟨f, t⟩) ⟨by show 1 ≤ f; omega, by show f ≤ E; omega, by show 1 ≤ t; omega, by show t ≤ E; omega⟩ (by show f ≠ t; omega) (by simp; omega) fun c hc => ?_
      rcases List.mem_append.1 hc with hc | hc
      · exact h.small _ c hc
      · simp at hc; subst hc; unfold Big; omega
/-! ### all flights -/
theorem All_eq (k : Nat) (hk : 100 ≤ k) {E : Nat} {M : Mp} (h : Inv M E) (lost : Int) : net_Net_All k (E : Int) lost M = some (allF M E) := by
  have hE := h.E16
  have hlen := allF_len h
  have h3 : ∀ (f t : Nat) (l : List api_Flight), l.length ≤ 20000 → loopO (fun s => net_Net_All.b3 k (ln M ⟨(f : Int), (t : Int)⟩) (f : Int) (t : Int) s.1 s.2) k (l, (0 : Int)) = some (l ++ row M ⟨(f : Int), (t : Int)⟩) := by
    intro f t l hl
    have hln := h.len ⟨(f : Int), (t : Int)⟩
    refine loop_nat (n := (ln M ⟨(f : Int), (t : Int)⟩).length) (fun i => l ++ (row M ⟨(f : Int), (t : Int)⟩).take i) _ ?_ ?_ (by omega) (by simp)
    · intro i hi
      have hr : i < (row M ⟨(f : Int), (t : Int)⟩).length := by unfold row; simpa using hi
      simp only [net_Net_All.b3, lt1, dec_t (show (i : Int) < ((ln M ⟨(f : Int), (t : Int)⟩).length : Int) by omega), if_true, idxL_lt hi, Option.bind_some]
      rw [apL_ok (by simp; omega), Option.bind_some, w64_succ (show i < 9223372036854775807 by omega), List.take_succ_eq_append_getElem hr]
      simp only [row, List.getElem_map, List.append_assoc, fl]
    · have hr : (row M ⟨(f : Int), (t : Int)⟩).take (ln M ⟨(f : Int), (t : Int)⟩).length = row M ⟨(f : Int), (t : Int)⟩ := List.take_of_length_le (by unfold row; simp)
      simp only [net_Net_All.b3, lt1, dec_f (show ¬ ((ln M ⟨(f : Int), (t : Int)⟩).length : Int) < ((ln M ⟨(f : Int), (t : Int)⟩).length : Int) by omega), Bool.false_eq_true, if_false, hr]
  have hrl : ∀ p, (row M p).length ≤ 64 := fun p => by unfold row; rw [List.length_map]; exact h.len p
  have hseg : ∀ (f j : Nat), ((List.range j).flatMap fun j => row M ⟨((f : Nat) : Int), ((j + 1 : Nat) : Int)⟩).length ≤ 64 * j := by
    intro f j
    induction j with
    | zero => simp
    | succ j ih => rw [List.range_succ, List.flatMap_append, List.length_append]; simp only [List.flatMap_cons, List.flatMap_nil, List.append_nil]; have := hrl ⟨(f : Int), ((j + 1 : Nat) : Int)⟩; omega
  have h2 : ∀ (f : Nat) (l : List api_Flight), l.length ≤ 17000 → loopO (fun s => net_Net_All.b2 k (E : Int) M (f : Int) s.1 s.2) k (l, (1 : Int)) = some (l ++ (List.range E).flatMap fun j => row M ⟨(f : Int), ((j + 1 : Nat) : Int)⟩) := by
    intro f l hl
    refine loop_g (n := E) (fun j => (l ++ (List.range j).flatMap fun j => row M ⟨(f : Int), ((j + 1 : Nat) : Int)⟩, ((j + 1 : Nat) : Int))) _ (by simp) ?_ ?_ (by omega)
    · intro j hj
      have hs := hseg f j
      simp only [net_Net_All.b2, lt1, dec_t (show ((j + 1 : Nat) : Int) ≤ (E : Int) by omega), if_true, getln, h3 f (j + 1) _ (show (l ++ (List.range j).flatMap fun j => row M ⟨(f : Int), ((j + 1 : Nat) : Int)⟩).length ≤ 20000 by rw [List.length_append]; omega), Option.bind_some, w64_succ (show j + 1 < 9223372036854775807 by omega)]
      rw [List.range_succ, List.flatMap_append]
      simp
    · simp only [net_Net_All.b2, lt1, dec_f (show ¬ ((E + 1 : Nat) : Int) ≤ (E : Int) by omega), Bool.false_eq_true, if_false]
  have hseg2 : ∀ i : Nat, i ≤ E → ((List.range i).flatMap fun i => (List.range E).flatMap fun j => row M ⟨((i + 1 : Nat) : Int), ((j + 1 : Nat) : Int)⟩).length ≤ 1024 * i := by
    intro i
    induction i with
    | zero => simp
    | succ i ih =>
      intro hi
      rw [List.range_succ, List.flatMap_append, List.length_append]
      simp only [List.flatMap_cons, List.flatMap_nil, List.append_nil]
      have := hseg (i + 1) E
      have := ih (by omega)
      omega
  have h1 : loopO (fun s => net_Net_All.b1 k (E : Int) M s.1 s.2) k (([] : List api_Flight), (1 : Int)) = some (allF M E) := by
    refine loop_g (n := E) (fun i => ((List.range i).flatMap fun i => (List.range E).flatMap fun j => row M ⟨((i + 1 : Nat) : Int), ((j + 1 : Nat) : Int)⟩, ((i + 1 : Nat) : Int))) _ (by simp) ?_ ?_ (by omega)
    · intro i hi
      have hs := hseg2 i (by omega)
      have h2' := h2 (i + 1) _ (Nat.le_trans hs (by omega))
      simp only [net_Net_All.b1, lt1, dec_t (show ((i + 1 : Nat) : Int) ≤ (E : Int) by omega), if_true, h2', Option.bind_some, w64_succ (show i + 1 < 9223372036854775807 by omega)]
      rw [List.range_succ, List.flatMap_append]
      simp
    · simp only [net_Net_All.b1, lt1, dec_f (show ¬ ((E + 1 : Nat) : Int) ≤ (E : Int) by omega), Bool.false_eq_true, if_false, Option.some.injEq, Sum.inr.injEq]
      unfold allF prs
      rw [List.flatMap_assoc]
      congr 1
      funext i
      rw [List.flatMap_map]
  simp only [net_Net_All, net_Net_there, Option.bind_some, h1]
/-- What rounds come to, one flight behind the other. -/
def runY {σ τ : Type} (Y : σ → (Int × api_Flight) → Option (σ ⊕ τ)) : Nat → List api_Flight → σ → Option (σ ⊕ τ)
  | _, [], s => some (.inl s)
  | i, f :: l, s => Option.bind (Y s ((i : Int), f)) fun r => match r with | .inl s' => runY Y (i + 1) l s' | .inr t => some (.inr t)
theorem All1_eq {σ τ : Type} (k : Nat) (Y : σ → (Int × api_Flight) → Option (σ ⊕ τ)) (s : σ) (F : List api_Flight) (hk : F.length < k) (hF : F.length ≤ 1000000) (hs : ∀ f ∈ F, f.Bytes.length ≤ 2000000) {r : σ ⊕ τ} (hr : runY Y 0 F s = some r) : net_Net_All_1 k Y (.inl s) F = some r := by
  have key : ∀ (n i : Nat) (s : σ) (kk : Nat), i + n = F.length → n < kk → runY Y i (F.drop i) s = some r → ∃ t, loopO (fun s => net_Net_All_1.b1 k F Y s.1 s.2) kk ((.inl s : σ ⊕ τ), (i : Int)) = some t ∧ (t = .inl r ∨ t = .inr r) := by
    intro n
    induction n with
    | zero =>
      intro i s kk hi hkk h
      obtain ⟨kk, rfl⟩ : ∃ j, kk = j + 1 := ⟨kk - 1, by omega⟩
      have hd : F.drop i = [] := List.drop_eq_nil_of_le (by omega)
      rw [hd] at h
      have h' : (some (.inl s) : Option (σ ⊕ τ)) = some r := h
      cases h'
      refine ⟨.inl (.inl s), loopO_out ?_, .inl rfl⟩
      simp only [net_Net_All_1.b1, lt1, dec_f (show ¬ (i : Int) < (F.length : Int) by omega), Bool.false_eq_true, if_false]
    | succ n ih =>
      intro i s kk hi hkk h
      obtain ⟨kk, rfl⟩ : ∃ j, kk = j + 1 := ⟨kk - 1, by omega⟩
      have hlt : i < F.length := by omega
      rw [List.drop_eq_getElem_cons hlt] at h
      unfold runY at h
      have hc := clone_eq k F[i].Bytes (hs _ (List.getElem_mem hlt))
      have hb : net_Net_All_1.b1 k F Y (.inl s : σ ⊕ τ) (i : Int) = Option.bind (Y s ((i : Int), F[i])) fun y => if (!(Sum.isLeft y)) = true then some (.inr (.inr y)) else some (.inl (y, ((i + 1 : Nat) : Int))) := by
        simp only [net_Net_All_1.b1, lt1, dec_t (show (i : Int) < (F.length : Int) by omega), if_true, inO_ok (show 0 ≤ (i : Int) by omega) (show (i : Int).toNat < F.length by omega), Option.bind_some, Int.toNat_natCast, List.getElem?_eq_getElem hlt, hc, yldO, w64_succ (show i < 9223372036854775807 by omega)]
      cases hY : Y s ((i : Int), F[i]) with
      | none => rw [hY] at h; cases h
      | some y =>
        rw [hY] at h hb
        cases y with
        | inl s' =>
          obtain ⟨t, h1, h2⟩ := ih (i + 1) s' kk (by omega) (by omega) h
          refine ⟨t, ?_, h2⟩
          rw [loopO_step (s' := ((.inl s' : σ ⊕ τ), ((i + 1 : Nat) : Int))) (by show net_Net_All_1.b1 k F Y _ _ = _; rw [hb]; rfl)]
          exact h1
        | inr u =>
          have h' : (some (.inr u) : Option (σ ⊕ τ)) = some r := h
          cases h'
          exact ⟨.inr (.inr u), loopO_out (by show net_Net_All_1.b1 k F Y _ _ = _; rw [hb]; rfl), .inr rfl⟩
  obtain ⟨t, h1, h2⟩ := key F.length 0 s k (by omega) hk hr
  rcases h2 with rfl | rfl
  · simp only [net_Net_All_1]
    have h1' : loopO (fun s => net_Net_All_1.b1 k F Y s.1 s.2) k ((.inl s : σ ⊕ τ), (0 : Int)) = some (.inl r) := h1
    rw [h1']; rfl
  · simp only [net_Net_All_1]
    have h1' : loopO (fun s => net_Net_All_1.b1 k F Y s.1 s.2) k ((.inl s : σ ⊕ τ), (0 : Int)) = some (.inr r) := h1
    rw [h1']; rfl
def zeroF : api_Flight := api_Flight.mk (0 : Int) (0 : Int) ([] : List UInt8)
/-- What lies at a place. -/
def atM (F : List api_Flight) (place : Int) : api_Flight × Int := if place < 0 then (zeroF, 2) else match F[place.toNat]? with | some f => (f, 0) | none => (zeroF, 6)
theorem runAt (k : Nat) (place : Nat) : ∀ (F : List api_Flight) (i : Nat), i ≤ place → runY (fun (s : Unit) (u : Int × api_Flight) => net_Net_At.y1 k (place : Int) u.1 u.2) i F () = some (match F[place - i]? with | some f => .inr f | none => .inl ())
  | [], i, _ => by simp [runY]
  | f :: F, i, hi => by
    unfold runY
    by_cases h : i = place
    · subst h
      simp [net_Net_At.y1, lt1]
    · have hne : (((i : Nat) : Int) == (place : Int)) = false := by simp; omega
      simp only [net_Net_At.y1, lt1, hne, Bool.false_eq_true, if_false, Option.bind_some]
      have := runAt k place F (i + 1) (by omega)
      simp only [net_Net_At.y1, lt1] at this
      rw [this]
      obtain ⟨d, hd⟩ : ∃ d, place - i = d + 1 := ⟨place - i - 1, by omega⟩
      rw [hd, show place - (i + 1) = d by omega]
      simp
theorem At_eq (k : Nat) (hk : 20000 ≤ k) {E : Nat} {M : Mp} (h : Inv M E) (lost place : Int) : net_Net_At k place (E : Int) lost M = some (atM (allF M E) place) := by
  simp only [net_Net_At, net_Net_there, lt1, Option.bind_some]
  unfold atM
  by_cases h0 : place < 0
  · simp only [h0, decide_true, if_true]; rfl
  · obtain ⟨p, rfl⟩ : ∃ p : Nat, place = p := ⟨place.toNat, by omega⟩
    have hr := runAt k p (allF M E) 0 (by omega)
    have hl := allF_len h
    rw [All_eq k (by omega) h, Option.bind_some, All1_eq k _ () _ (by omega) (by omega) (fun f hf => Nat.le_trans (allF_small h hf) (by decide)) hr]
    simp only [dec_f h0, Bool.false_eq_true, if_false, Nat.sub_zero, Option.bind_some, Int.toNat_natCast, if_neg h0]
    cases (allF M E)[p]? <;> rfl
end Go.Proofs.Ytnadeehdnmgebaa
