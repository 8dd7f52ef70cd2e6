/- Parts of a variable, lent: lists that are told of memory that is frozen for a call alone. -/
import Derived.Test.YtbflmobpbjnekaaFdb
import Derived.Test.YtbflmobpbjnekaaFdp
namespace Go.Proofs.Ytbflmobpbjnekaa.Fw
open Go Go.RowKit
set_option linter.unusedVariables false
set_option linter.unusedSimpArgs false
section
variable {P : Program} {Bs : Base} {st : St} {d : Nat} {ty t t' el : TypeId} {pos : String} {af : Array Edge} {g : Option (Nat × Bool)} {x y z : Operand}
variable {e : Env} {a : Act} {w : World}

/-- A reading that holds once that is known. -/
def rBo {T : Type} (K : Env → Prop) (r : Rep T) : Rep T :=
  ⟨r.sz, fun e x vs => vs.length = r.sz ∧ (∀ v ∈ vs, one1 v = true) ∧ ∀ e', e.le e' → K e' → r.rel e' x vs, fun h => h.1, fun h => h.2.1, fun h ⟨a, b, c⟩ => ⟨a, b, fun e' he => c e' (h.trans he)⟩⟩
theorem wkBo {K : Env → Prop} {T : Type} {r : Rep T} {x : T} : ∀ e v, (S r x).p e v → (S (rBo K r) x).p e v := fun e v h => ⟨r.len h, r.one h, fun e' he _ => r.mono he h⟩
/-- What is known while the variable is lent. -/
theorem StE.lend (hst : StE Bs st e a w) {T : Type} {r : Rep T} {x0 : T} {j b : Nat} (hX : st.X[j]? = some (cvar b r x0)) :
    ∃ e', e.le e' ∧ KV r x0 b e' ∧ (∀ ad v, e'.mu ad = some v → w.cell? ad = some v) := by
  obtain ⟨cs, el, fr, h1, h2, h3, h4⟩ := hst.xs _ (List.mem_of_getElem? hX)
  have hle : e.le (e.add b 0 cs) := Env.add_le fun ad v hm hb => absurd hb (h4 ad v hm)
  refine ⟨e.add b 0 cs, hle, ⟨cs, r.mono hle h3, Env.add_mu⟩, fun ad v hm => ?_⟩
  rcases Env.add_inv hm with h5 | ⟨h5, h6, h7, h8, h9⟩
  · exact hst.frz ad v h5
  · obtain ⟨b', o', s'⟩ := ad
    simp only at h5 h6 h7 h8 h9
    subst h5; subst h6
    rw [cell_of h1]
    simpa using h9
theorem op_sliceB {T U : Type} {r : Rep U} {x0 : U} {q : Rep T} {n b o : Nat} {v : Vector T n} {ys : List T} {lo hi : Option Operand} {l h : Int} (hd : d < Bs.N) (hu : P.underlying t = some (.array n el)) (hs : tySz P el q.sz = true) (hx : HasO st x (.one (.val (PTR b o)))) (hc : Comp r x0 o (rV n q) v)
    (hl : OptN st lo 0 l) (hh : OptN st hi n h) (k : subL v.toList l h = some ys) : OpStep P Bs ⟨some d, .slice t x lo hi none, ty, pos, af, g⟩ st (st.set d (.one (.val (S (rBo (KV r x0 b) (rL q)) ys)))) :=
  .value hd fun e a w hst => by
    obtain ⟨⟨h0, h1, h2⟩, hr⟩ := subL_some k
    have h2 : h ≤ n := by simpa using h2
    have hv : a.eval x = .pointer (some ⟨b, o, none⟩) := hx.get hst
    have hb := rBounds (P := P) hst (isSl := false) (cap := n) (m := n) hl hh (mx := none) rfl (fun h => absurd rfl h) h0 h1 h2 (Int.le_refl _) (Nat.le_refl _)
    have hylen : ys.length = h.toNat - l.toNat := by subst hr; simp; omega
    refine ⟨.slice (some (if n = l.toNat then ⟨b, o, none⟩ else (⟨b, o, none⟩ : Addr).add (l.toNat * q.sz))) (h.toNat - l.toNat) (n - l.toNat), ?_, rfl, by simp [one1], fun e' he hK => ⟨_, rfl, _, n - l.toNat, by rw [hylen], by omega, (fun h => by cases h), fun hpos => ?_⟩⟩
    · simp only [execOp, hv, Instr.sliceAt, Instr.sureAddr, Sem.run_bind, run_underlying hu, Result.andThen, Sem.run_pure]
      rw [show (none : Option Operand).map a.eval = none from rfl] at hb
      rw [show (Option.map a.eval none) = none from rfl, hb]
      simp only [rSize hs, Result.andThen, Sem.run_bind, Sem.run_pure, Int.toNat_natCast]
    · have hne : ¬ n = l.toNat := by omega
      obtain ⟨cs, hrel0, hmu⟩ := hK
      have hrel := hc e' cs hrel0
      refine ⟨b, o + l.toNat * q.sz, by rw [if_neg hne, add_none], fun i hi => ?_⟩
      have hin : l.toNat + i < n := by omega
      have hget : ys[i] = v[l.toNat + i] := by subst hr; simp
      rw [hget]
      refine ⟨_, hrel.2.2 (l.toNat + i) hin, fun j u hj => ?_⟩
      have hjs : j < q.sz := by
        rcases Nat.lt_or_ge j q.sz with h | h
        · exact h
        · rw [List.getElem?_eq_none (by simp; omega)] at hj; cases hj
      rw [List.getElem?_take_of_lt hjs, List.getElem?_drop] at hj
      have hjn : (l.toNat + i) * q.sz + j < n * q.sz := by
        have := Nat.mul_le_mul_right q.sz (show l.toNat + i + 1 ≤ n by omega)
        rw [Nat.add_mul] at this; omega
      rw [show (rV n q).sz = n * q.sz from rfl, List.getElem?_take_of_lt hjn, List.getElem?_drop] at hj
      have := hmu _ u hj
      rwa [Nat.zero_add, show o + ((l.toNat + i) * q.sz + j) = o + l.toNat * q.sz + i * q.sz + j from by rw [Nat.add_mul]; omega] at this
/-- Arguments that hold once that is known. -/
def ArgsB (K : Env → Prop) : List VP → List VP → Prop
  | [], [] => True
  | p :: ps, q :: qs => (∀ e v, K e → p.p e v → q.p e v) ∧ ArgsB K ps qs
  | _, _ => False
theorem ArgsB.nil {K : Env → Prop} : ArgsB K [] [] := trivial
theorem ArgsB.cons {K : Env → Prop} {p q : VP} {ps qs : List VP} (h : ∀ e v, K e → p.p e v → q.p e v) (k : ArgsB K ps qs) : ArgsB K (p :: ps) (q :: qs) := ⟨h, k⟩
theorem ArgsB.get {K : Env → Prop} {e : Env} (hK : K e) : ∀ {ps qs : List VP} {vs : List Value}, ArgsB K ps qs → ArgsR e ps vs → ArgsR e qs vs
  | [], [], _, _, h => h
  | p :: ps, q :: qs, [], _, h => by have := h.1; simp at this
  | p :: ps, q :: qs, v :: vs, hb, h => by
    have h1 : ArgsR e ps vs := ⟨by have := h.1; simpa using this, fun i p' hp => by have := h.2 (i + 1) p' (by simpa using hp); simpa using this⟩
    obtain ⟨k1, k2⟩ := ArgsB.get hK hb.2 h1
    refine ⟨by simp [k1], fun i p' hp => ?_⟩
    obtain _ | i := i
    · simp at hp; subst hp; have := h.2 0 p (by simp); exact hb.1 e _ hK (by simpa using this)
    · have := k2 i p' (by simpa using hp)
      simpa using this
  | [], _ :: _, _, h, _ => h.elim
  | _ :: _, [], _, h, _ => h.elim
theorem boL {K : Env → Prop} {T : Type} {r : Rep T} {xs : List T} : ∀ e v, K e → (S (rL (rBo K r)) xs).p e v → (S (rL r) xs).p e v := fun e v hk ⟨v', hv, aa, c, h1, h2, h3, h4⟩ => by
  cases hv
  exact ⟨v, rfl, aa, c, h1, h2, h3, fun h0 => let ⟨b, off, ha, h5⟩ := h4 h0; ⟨b, off, ha, fun i hi => let ⟨cs, k1, k2⟩ := h5 i hi; ⟨cs, k1.2.2 e (Env.le.refl e) hk, k2⟩⟩⟩
/-- A call to which a variable's parts are lent; what it hands back does not speak of memory. -/
theorem op_callL {f : FuncId} {fo : Operand} {xs : List Operand} {ats : Array TypeId} {args args' cps : List VP} {U : Type} {r : Rep U} {x0 : U} {b j : Nat} {γ : Type} {X' : γ → List Chunk} {sv : γ → SV1} {dst : Option Nat} (hd : ∀ d, dst = some d → d < Bs.N) (hc : callable P f = true)
    (hX : st.X[j]? = some (cvar b r x0)) (hs : Sim P f (args' ++ cps) [] X' sv) (hf : HasO st fo (.one (.val (CLO f cps)))) (ha : ArgsO st xs args) (hb : ArgsB (KV r x0 b) args args') (hsv : ∀ q e e' v, SVR e (sv q) v → SVR e' (sv q) v) :
    OpX P Bs ⟨dst, .call { callee := .value fo, args := xs.toArray, argTypes := ats }, ty, pos, af, g⟩ st (fun q => setO st dst (sv q)) := by
  intro a w ⟨e, hst⟩ K Q hK
  obtain ⟨e', hle, hk, hfrz⟩ := hst.lend hX
  obtain ⟨cs, hcs, hcr⟩ : ∃ cs : List Value, a.eval fo = .func (.func f) #[] cs.toArray ∧ ArgsR e cps cs := hf.get hst
  have hr := run_call (P := P) (w := w) (ty := ty) (pos := pos) (af := af) (g := g) (xs := xs) (ats := ats) (dst := dst) hc hcs
  refine ⟨fun _ _ => trivial, ?_⟩
  rw [Oper.semAt_eq _ _ _ (nodefer_ne rfl), hr]
  refine ⟨fun h => (by simp at h), ?_⟩
  have hcall := hs e' w _ hfrz (fun c hc => by cases hc) List.Pairwise.nil ((hb.get hk ((ha.get hst).mono hle)).append (hcr.mono hle))
  refine CallsIn.mono (F := WF Bs.ro) hcall fun en w' ⟨q, hbk⟩ => ?_
  obtain ⟨e2, v, rfl, h2, h3, h4, h5, h6, h7, h8, h9⟩ := hbk
  exact hK q _ _ ⟨e, (hst.keep ⟨h4.os, h4.tape, h4.output, h4.size, fun b hb => h4.old b hb fun ⟨c, hc, _⟩ => by cases hc⟩).putO hd (hsv q _ _ _ h9)⟩
/-- Readings that do not speak of memory. -/
def EF {T : Type} (r : Rep T) : Prop := ∀ e e' x vs, r.rel e x vs → r.rel e' x vs
theorem EF.u {U : Type} [UK U] : EF (rU U) := fun _ _ _ _ h => h
theorem EF.i {k : IntKind} : EF (rI k) := fun _ _ _ _ h => h
theorem EF.b : EF rB := fun _ _ _ _ h => h
theorem EF.s : EF rS := fun _ _ _ _ h => h
theorem EF.v {T : Type} {n : Nat} {r : Rep T} (h : EF r) : EF (rV n r) := fun e e' x vs ⟨a, b, c⟩ => ⟨a, b, fun i hi => h e e' _ _ (c i hi)⟩
theorem EF.sA {T : Type} {r : Rep T} {x : T} (h : EF r) : ∀ e e' v, SVR e (.one (.val (A r x))) v → SVR e' (.one (.val (A r x))) v := fun e e' v ⟨vs, h1, h2⟩ => ⟨vs, h1, h e e' _ _ h2⟩
theorem LR.srcB {T : Type} {r : Rep T} {ys : List T} {e' : Env} (hf : EF r) (hfrz : ∀ ad v, e'.mu ad = some v → w.cell? ad = some v) (hL : LR r e' ys (a.eval y)) : ∃ fl, Src P e a w r ys y fl := by
  obtain ⟨aa, c, fl, hv, hc, hn, hl, hr, hm⟩ := hL.flat
  refine ⟨fl, hl, flat_one hl hr, fun i hi => hf _ _ _ _ (hr i hi), fun w => by simp [hv, Builtin.lenOf], fun w' hfr => ?_⟩
  rw [hv]
  rcases Nat.eq_zero_or_pos ys.length with h0 | h0
  · have : fl = [] := List.eq_nil_of_length_eq_zero (by rw [hl, h0]; simp)
    subst this
    rw [h0]
    cases aa with
    | none => simp [Builtin.firstCells]
    | some ad => simp [Builtin.firstCells, loadCells, loadCellsFrom]
  · obtain ⟨b, off, haa, hm'⟩ := hm h0
    subst haa
    simp only [Builtin.firstCells]
    exact rloadCells P hl fun j u hj => by rw [add_none, show w'.cell? _ = w.cell? _ from by unfold World.cell?; rw [hfr]]; exact hfrz _ _ (hm' j u hj)
theorem Src.bor {T U : Type} {r : Rep U} {x0 : U} {q : Rep T} {ys : List T} {j b : Nat} (hX : st.X[j]? = some (cvar b r x0)) (hf : EF q) (hy : HasO st y (.one (.val (S (rBo (KV r x0 b) (rL q)) ys)))) (hst : StE Bs st e a w) : ∃ fl, Src P e a w q ys y fl := by
  obtain ⟨e', hle, hk, hfrz⟩ := hst.lend hX
  obtain ⟨v, hv, hL⟩ := (hy.get hst).2.2 e' hle hk
  cases hv
  exact LR.srcB hf hfrz hL
theorem LR.srcNB {T : Type} {r : Rep T} {ys : List T} {e' : Env} (hf : EF r) (hfrz : ∀ ad v, e'.mu ad = some v → w.cell? ad = some v) (hL : LR r e' ys (a.eval y)) : ∃ fl, SrcN P e a w r ys y fl := by
  obtain ⟨aa, c, fl, hv, hc, hn, hl, hr, hm⟩ := hL.flat
  refine ⟨fl, hl, flat_one hl hr, fun i hi => hf _ _ _ _ (hr i hi), fun w => by simp [hv, Builtin.lenOf], fun m hm' => ?_⟩
  rw [hv]
  rcases Nat.eq_zero_or_pos m with h0 | h0
  · subst h0
    cases aa with
    | none => simp [Builtin.firstCells]
    | some ad => simp [Builtin.firstCells, loadCells, loadCellsFrom]
  · obtain ⟨b, off, haa, hm2⟩ := hm (by omega)
    subst haa
    simp only [Builtin.firstCells]
    have hms : m * r.sz ≤ ys.length * r.sz := Nat.mul_le_mul_right _ hm'
    refine rloadCells P (by simp; omega) fun j u hj => ?_
    have hjl : j < m * r.sz := by
      rcases Nat.lt_or_ge j (m * r.sz) with h | h
      · exact h
      · rw [List.getElem?_eq_none (by simp; omega)] at hj; cases hj
    rw [List.getElem?_take_of_lt hjl] at hj
    rw [add_none]
    exact hfrz _ _ (hm2 j u hj)
theorem SrcN.bor {T U : Type} {r : Rep U} {x0 : U} {q : Rep T} {ys : List T} {j b : Nat} (hX : st.X[j]? = some (cvar b r x0)) (hf : EF q) (hy : HasO st y (.one (.val (S (rBo (KV r x0 b) (rL q)) ys)))) (hst : StE Bs st e a w) : ∃ fl, SrcN P e a w q ys y fl := by
  obtain ⟨e', hle, hk, hfrz⟩ := hst.lend hX
  obtain ⟨v, hv, hL⟩ := (hy.get hst).2.2 e' hle hk
  cases hv
  exact LR.srcNB hf hfrz hL
/-- A lent list behind a row. -/
theorem op_appendB {T U : Type} {r : Rep T} {rb : Rep U} {x0 : U} {xs ys zs : List T} {ob : Option Nat} {fz cap j j' b bytes : Nat} {zv : Value} {dy : TypeDesc} (hd : d < Bs.N) (hu : P.underlying t = some (.slice el)) (hu' : P.underlying t' = some dy) (hni : notInt dy = true) (hel : tyB P el r.sz bytes zv) (hz : zv.cells.size = r.sz) (hsz : 0 < r.sz) (hb0 : 0 < bytes)
    (hX : st.X[j]? = some (cown ob r xs fz cap)) (hx : HasO st x (.one (.val (HDR ob 0 xs.length cap)))) (hXb : st.X[j']? = some (cvar b rb x0)) (hf : EF r) (hy : HasO st y (.one (.val (S (rBo (KV rb x0 b) (rL r)) ys)))) (hb : apL bytes xs ys = some zs) :
    OpX P Bs ⟨some d, .call { callee := .builtin .append, args := #[x, y], argTypes := #[t, t'] }, ty, pos, af, g⟩ st (fun q : Option Nat × Nat => St.set { st with X := st.X.set j (cown q.1 r zs fz q.2) } d (.one (.val (HDR q.1 0 zs.length q.2)))) := by
  obtain ⟨h1, rfl⟩ := apL_some hb
  exact .grows hd fun e a w hst => append_run (d := d) (ty := ty) (pos := pos) (af := af) (g := g) hu hu' hni hel hz hsz hb0 hX hst (hx.get hst) (Src.bor hXb hf hy hst) h1
end
end Go.Proofs.Ytbflmobpbjnekaa.Fw
