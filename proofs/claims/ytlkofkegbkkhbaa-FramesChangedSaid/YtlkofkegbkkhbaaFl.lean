/- More steps: names for values, frozen calls, arrays cut. -/
import Derived.Test.YtlkofkegbkkhbaaFk
namespace Go.Proofs.Ytlkofkegbkkhbaa.Fw
open Go Go.RowKit
set_option linter.unusedVariables false
set_option linter.unusedSimpArgs false

section
variable {M : HM} {P : Program} {Bs : Base} {st st' : St M} {d : Nat} {ty t t' el : TypeId} {pos : String} {af : Array Edge} {g : Option (Nat × Bool)} {x y z : Operand} {Q : Exit → Act → World → Prop} {l : List Oper}
theorem JC.region0 {id : Nat} (h : ∀ ops, JL P Bs ops l st Q) : JC P Bs (.region id l.toArray false) st Q := JC.region (h _)
theorem OpStep.cast {o : Oper} {st'' : St M} (h : OpStep P Bs o st st') (e : st' = st'') : OpStep P Bs o st st'' := e ▸ h
/-- A value under a new name. -/
theorem op_moveS {T : Type} {r : Rep T} {v u : T} (hd : d < Bs.N) (hx : HasO st x (.one (.val (S r v)))) (h : v = u) : OpStep P Bs ⟨some d, .move x, ty, pos, af, g⟩ st (st.set d (.one (.val (S r u)))) := by subst h; exact op_move hd hx
theorem op_assignS {T : Type} {r : Rep T} {v u : T} (hd : d < Bs.N) (hx : HasO st x (.one (.val (S r v)))) (h : v = u) : OpStep P Bs ⟨some d, .assign x, ty, pos, af, g⟩ st (st.set d (.one (.val (S r u)))) := by subst h; exact op_assign hd hx
theorem op_moveA {T : Type} {r : Rep T} {v u : T} (hd : d < Bs.N) (hx : HasO st x (.one (.val (A r v)))) (h : v = u) : OpStep P Bs ⟨some d, .move x, ty, pos, af, g⟩ st (st.set d (.one (.val (A r u)))) := by subst h; exact op_move hd hx
theorem op_assignA {T : Type} {r : Rep T} {v u : T} (hd : d < Bs.N) (hx : HasO st x (.one (.val (A r v)))) (h : v = u) : OpStep P Bs ⟨some d, .assign x, ty, pos, af, g⟩ st (st.set d (.one (.val (A r u)))) := by subst h; exact op_assign hd hx

/-! ### a call whose new row is frozen at once -/
theorem Back.state {e0 : Env} {w0 : World} {bx : List BX} {w' : World} {vs : List Value} {ρ : List (Nat × SV1)} {e' : Env} {β' : List (Option Nat)} (hlt : ∀ ad v, e0.mu ad = some v → ad.block < w0.heap.size) (h2 : e0.le e') (h3 : MuNew e0 e' w0.heap.size) (h4 : Kept w0 w') (h5 : ∀ ad v, e'.mu ad = some v → w'.cell? ad = some v)
    (h6 : List.length β' = bx.length) (h7 : ∀ (j : Nat) (b : BX) (ob : Option Nat), bx[j]? = some b → β'[j]? = some ob → BoxR e' w' b ob) (h8 : ∀ (j b : Nat), β'[j]? = some (some b) → w0.heap.size ≤ b) (h9 : ∀ (i j b : Nat), β'[i]? = some (some b) → β'[j]? = some (some b) → i = j)
    (hρ : ∀ t s, look ρ t = some s → SVR e' β' bx w' s (vs.getD t undef)) : StE (M := HM.none) ⟨vs.length, e0, noF, w0⟩ ⟨ρ, bx, ()⟩ e' β' noF ⟨vs.toArray, []⟩ w' where
  nt := by simp
  df := rfl
  frz := h5
  mus := fun _ _ _ h => h
  hr := fun _ h => h
  fsz := fun _ h => h.elim
  bl := h6
  bx := h7
  bf := fun j b hj => ⟨id, by
    obtain ⟨bb, hb⟩ : ∃ bb, bx[j]? = some bb := ⟨bx[j]'(by rw [← h6]; exact (List.getElem?_eq_some_iff.1 hj).1), List.getElem?_eq_getElem _⟩
    exact (h7 j bb _ hb hj).lt⟩
  bd := h9
  sl := fun t s hs => by
    have := hρ t s hs
    have e : (vs.toArray).getD t undef = vs.getD t undef := by simp [List.getD_eq_getElem?_getD]
    show SVR e' β' bx w' s ((vs.toArray).getD t undef)
    rw [e]; exact this
  base := ⟨h2, h4.os, h4.tape, h4.output, h4.size, fun b hb _ => h4.old b hb, fun _ h => h.elim, fun ad v hm => h3 ad v hm, fun j b hj => h8 j b hj, hlt⟩
theorem look_zip (l : List SW) (n t : Nat) : look ((l.zipIdx n).map fun p => (p.2, SV1.one p.1)) t = if n ≤ t then (l[t - n]?).map SV1.one else none := by
  induction l generalizing n with
  | nil => simp [look]
  | cons p args ih =>
    simp only [List.zipIdx_cons, List.map_cons, look]
    by_cases h : n = t
    · subst h
      have : Nat.beq n n = true := by simp
      simp [this]
    · have hb : Nat.beq n t = false := by rw [← Bool.not_eq_true, Nat.beq_eq]; exact h
      rw [hb, cond_false, ih (n + 1)]
      by_cases h2 : n ≤ t
      · rw [if_pos (by omega), if_pos h2, show t - n = (t - (n + 1)) + 1 from by omega]
        rfl
      · rw [if_neg (by omega), if_neg h2]
/-- One row of the call's own, handed back alone. -/
theorem Sim.frz1 {f : FuncId} {args : List VP} {T : Type} {r : Rep T} {xs : List T} {fz : Nat} (h : Sim P f args [.own T r xs fz] (.one (.own 0))) : Sim P f args [] (.one (.val (S (rL r) xs))) := by
  intro e0 w0 vs hf ha
  have hlt : ∀ ad v, e0.mu ad = some v → ad.block < w0.heap.size := fun ad v hm => World.block_lt_of_cell? w0 ad (hf ad v hm)
  refine (h e0 w0 vs hf ha).mono fun en w' hb => ?_
  obtain ⟨e', v, β', h1, h2, h3, h4, h5, h6, h7, h8, h9, h10⟩ := hb.out
  have hst := Back.state (ρ := [(0, .one (.own 0))]) (vs := [v]) hlt h2 h3 h4 h5 h6 h7 h8 h9 (fun t s ht => by
    by_cases e : 0 = t
    · subst e; rw [look_cons_self] at ht; cases ht; exact h10
    · rw [look_cons_ne _ _ e] at ht; cases ht)
  obtain ⟨e2, β2, F2, h⟩ := Imp.freeze (M := HM.none) (s := 0) (j := 0) rfl rfl _ _ ⟨e', β', noF, hst⟩
  exact ⟨e2, v, [], h1, h.base.le, h.base.mu, Kept.ofBase (Bs := ⟨1, e0, noF, w0⟩) rfl h.base, h.frz, rfl, fun j b ob h => by simp at h, fun j b h => by simp at h, fun i j b h => by simp at h, h.sl 0 (.one (.val (S (rL r) xs))) rfl⟩
/-- One row of the call's own among several results. -/
theorem Sim.frzT {f : FuncId} {args : List VP} {T : Type} {r : Rep T} {xs : List T} {fz i : Nat} {l : List SW} (hi : l[i]? = some (.own 0)) (ho : ∀ k s, l[k]? = some s → k ≠ i → ∃ p, s = .val p) (h : Sim P f args [.own T r xs fz] (.tup l)) : Sim P f args [] (.tup (l.set i (.val (S (rL r) xs)))) := by
  intro e0 w0 vs hf ha
  have hlt : ∀ ad v, e0.mu ad = some v → ad.block < w0.heap.size := fun ad v hm => World.block_lt_of_cell? w0 ad (hf ad v hm)
  refine (h e0 w0 vs hf ha).mono fun en w' hb => ?_
  obtain ⟨e', v, β', h1, h2, h3, h4, h5, h6, h7, h8, h9, rs, h10, h11, h12⟩ := hb.out
  have hil : i < l.length := (List.getElem?_eq_some_iff.1 hi).1
  have hst := Back.state (ρ := (l.zipIdx).map fun p => (p.2, .one p.1)) (vs := rs) hlt h2 h3 h4 h5 h6 h7 h8 h9 (fun t s ht => by
    have hl := look_zip l 0 t
    simp only [Nat.zero_le, if_true, Nat.sub_zero] at hl
    rw [hl] at ht
    obtain ⟨s0, hs0, rfl⟩ := Option.map_eq_some_iff.1 ht
    exact h12 t s0 hs0)
  have hli : look ((l.zipIdx).map fun p => (p.2, SV1.one p.1)) i = some (.one (.own 0)) := by
    have hl := look_zip l 0 i
    simp only [Nat.zero_le, if_true, Nat.sub_zero] at hl
    rw [hl, hi]; rfl
  obtain ⟨e2, β2, F2, h⟩ := Imp.freeze (M := HM.none) (s := i) (j := 0) rfl hli _ _ ⟨e', β', noF, hst⟩
  refine ⟨e2, v, [], h1, h.base.le, h.base.mu, Kept.ofBase (Bs := ⟨rs.length, e0, noF, w0⟩) rfl h.base, h.frz, rfl, fun j b ob h => by simp at h, fun j b h => by simp at h, fun i j b h => by simp at h, rs, h10, by simp [h11], fun k s hs => ?_⟩
  have hget : ∀ k, rs.toArray.getD k undef = rs.getD k undef := fun k => by simp [List.getD_eq_getElem?_getD]
  by_cases hki : i = k
  · subst hki
    rw [List.getElem?_set_self hil] at hs
    cases hs
    have := h.sl i _ (look_cons_self ..)
    show (S (rL r) xs).p e2 (rs.getD i undef)
    rw [← hget]; exact this
  · rw [List.getElem?_set_ne hki] at hs
    obtain ⟨p, rfl⟩ := ho k s hs (Ne.symm hki)
    have hlk : look ((l.zipIdx).map fun p => (p.2, SV1.one p.1)) k = some (.one (.val p)) := by
      have hl := look_zip l 0 k
      simp only [Nat.zero_le, if_true, Nat.sub_zero] at hl
      rw [hl, hs]; rfl
    have := h.sl k (.one (.val p)) (by show look ((i, _) :: _) k = _; rw [look_cons_ne _ _ hki]; exact hlk)
    show p.p e2 (rs.getD k undef)
    rw [← hget]; exact this
/-- The same, at any state. -/
theorem ArgsO.nil : ArgsO st [] [] := trivial

/-! ### ways that meet again -/
theorem JC.seqJ {x y : Code} {stj : St M} (h2 : JC P Bs y stj Q) (h1 : JC P Bs x st (Exit.then (fun a w => StR Bs stj a w) Q)) : JC P Bs (.seq x y) st Q := fun a w hst =>
  wp_seq (Code.wp_mono (fun e a w q => by cases e <;> first | exact q | exact h2 a w q) (h1 a w hst))
theorem JC.seqK {α : Type} {x y : Code} {stj : α → St M} {p : α → Prop} (h2 : ∀ v, p v → JC P Bs y (stj v) Q) (h1 : JC P Bs x st (Exit.then (fun a w => ∃ v, p v ∧ StR Bs (stj v) a w) Q)) : JC P Bs (.seq x y) st Q := fun a w hst =>
  wp_seq (Code.wp_mono (fun e a w q => by
    cases e <;> first | exact q | (obtain ⟨v, hv, hs⟩ := q; exact h2 v hv a w hs)) (h1 a w hst))
theorem JQ.join {stj : St M} (i : Imp Bs st stj) : JQ Bs .normal st (Exit.then (fun a w => StR Bs stj a w) Q) := fun a w hst => i a w hst
theorem JQ.joinK {α : Type} {stj : α → St M} {p : α → Prop} (v : α) (hv : p v) (i : Imp Bs st (stj v)) : JQ Bs .normal st (Exit.then (fun a w => ∃ v, p v ∧ StR Bs (stj v) a w) Q) := fun a w hst => ⟨v, hv, i a w hst⟩
theorem JC.condT {c : Operand} {x y : Code} {b : Bool} (hc : HasO st c (.one (.val (S rB b)))) (hb : b = true) (h : JC P Bs x st Q) : JC P Bs (.cond c x y) st Q := JC.cond hc (fun _ => h) (fun h' => by rw [hb] at h'; cases h')
theorem JC.condF {c : Operand} {x y : Code} {b : Bool} (hc : HasO st c (.one (.val (S rB b)))) (hb : b = false) (h : JC P Bs y st Q) : JC P Bs (.cond c x y) st Q := JC.cond hc (fun h' => by rw [hb] at h'; cases h') (fun _ => h)
theorem iteB_inv {α : Type} {c : Bool} {a b : Option α} {r : α} (h : (if c = true then a else b) = some r) : (c = true ∧ a = some r) ∨ (c = false ∧ b = some r) := by
  cases c
  · exact .inr ⟨rfl, by simpa using h⟩
  · exact .inl ⟨rfl, by simpa using h⟩

/-! ### parts of boxes -/
theorem Comp.at {T U : Type} {r : Rep T} {x : T} {off n : Nat} {s : Rep U} {y : Vector U n} {u : U} (h : Comp r x off (rV n s) y) {i : Nat} (hi : i < n) (hu : y[i] = u) : Comp r x (off + i * s.sz) s u := by
  subst hu
  refine h.trans (Comp.vec s y i hi) ?_
  have := Nat.mul_le_mul_right s.sz (show i + 1 ≤ n by omega)
  rw [Nat.add_mul] at this
  show i * s.sz + s.sz ≤ n * s.sz
  omega
theorem Upd.at {T U : Type} {r : Rep T} {x x' : T} {off n : Nat} {s : Rep U} {y y' : Vector U n} {u : U} (hc : Comp r x off (rV n s) y) {i : Nat} (hi : i < n) (hu : y.set i u hi = y') (h : Upd r x off (rV n s) y' x') : Upd r x (off + i * s.sz) s u x' := by
  subst hu
  exact h.trans hc (Upd.vec s y i hi u)
end
end Go.Proofs.Ytlkofkegbkkhbaa.Fw
