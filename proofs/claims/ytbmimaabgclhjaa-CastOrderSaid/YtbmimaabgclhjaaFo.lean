/- Steps in the form in which the printed walks take them, the second part. -/
import Derived.Test.YtbmimaabgclhjaaFn
import Derived.Test.YtbmimaabgclhjaaFk
namespace Go.Proofs.Ytbmimaabgclhjaa.Fw
open Go Go.RowKit
set_option linter.unusedVariables false
set_option linter.unusedSimpArgs false

theorem Zr.w {p : VP} {v : Value} (h1 : one1 v = true) (h : ∀ e, p.p e v := by intro e; rfl) : Zr (rW p) () [v] := fun e => ⟨v, rfl, h e, h1⟩
theorem Zr.two {T U : Type} {r : Rep T} {s : Rep U} {x : T} {y : U} {a b cs : List Value} (ha : Zr r x a) (hb : Zr s y b) (h : a ++ b = cs) : Zr (rP r s) (x, y) cs := by subst h; exact Zr.pair ha hb
theorem UpdR.U {T U : Type} {r : Rep T} {x x' : T} {off : Nat} {s : Rep U} {y' : U} (h : UpdR r x off s y' r x') : Upd r x off s y' x' := ⟨h.1, h.2.2⟩
theorem Wk.st {K : Env → Prop} {T U V : Type} {r : Rep T} {x : T} {s : Rep U} {f : V → U} {y : V} (h : Wk K r x s (f y)) : Wk K r x (rM f s) y := fun e vs hk hr => h e vs hk hr
theorem Wk.un {K : Env → Prop} {U V : Type} {s : Rep U} {f : V → U} {y : V} : Wk K (rM f s) y s (f y) := fun e vs hk hr => hr
theorem wkUI {U : Type} [UK U] {u : U} : ∀ e v, (S (rU U) u).p e v → (S (rI (UK.k U)) (UN.toN u)).p e v := fun e v h => h

/-- A row's head, its elements frozen. -/
def HL (ob : Option Nat) {T : Type} (r : Rep T) (xs : List T) (cap : Nat) : VP := ⟨fun e v => v = .slice (ob.map fun b => ⟨b, 0, none⟩) xs.length cap ∧ LR r e xs v, fun h k => ⟨k.1, k.2.mono h⟩⟩
instance (ob : Option Nat) {T : Type} (r : Rep T) (xs : List T) (cap : Nat) : OneP (HL ob r xs cap) := ⟨fun _ _ h => by rw [h.1]; rfl⟩
section
variable {T : Type} {r : Rep T} {xs : List T} {ob : Option Nat} {cap : Nat} {K : Env → Prop}
theorem wkHH : ∀ e v, (HL ob r xs cap).p e v → (HDR ob 0 xs.length cap).p e v := fun e v h => h.1
theorem wkHL : ∀ e v, (HL ob r xs cap).p e v → (S (rL r) xs).p e v := fun e v h => ⟨v, rfl, h.2⟩
theorem Wk.hh : Wk K (rW (HL ob r xs cap)) () (rW (HDR ob 0 xs.length cap)) () := fun e vs _ ⟨v, h1, h2, h3⟩ => ⟨v, h1, h2.1, h3⟩
theorem Wk.hl : Wk K (rW (HL ob r xs cap)) () (rL r) xs := fun e vs _ ⟨v, h1, h2, h3⟩ => ⟨v, h1, h2.2⟩
theorem Wk.own : Wk (KL r xs ob cap) (rW (HDR ob 0 xs.length cap)) () (rW (HL ob r xs cap)) () := fun e vs hk ⟨v, h1, h2, h3⟩ => ⟨v, h1, ⟨h2, by rw [show v = _ from h2]; exact hk⟩, h3⟩
end
section
variable {P : Program} {Bs : Base} {st st' : St} {d : Nat} {ty t t' el : TypeId} {pos : String} {af : Array Edge} {g : Option (Nat × Bool)} {x y z : Operand} {Q : Exit → Act → World → Prop} {l : List Oper} {ops : Array Oper}
variable {e : Env} {a : Act} {w : World}
theorem Imp.sub {ρ' : List (Nat × SV1)} (hs : SubR st.ρ ρ') : Imp Bs st { st with ρ := ρ' } := fun a w ⟨e, h⟩ => ⟨e, h.weak fun t sv ht => hs.get ht⟩
theorem OpStep.at {o : Oper} (s1 s2 : St) (h : OpStep P Bs o s1 s2) : OpStep P Bs o s1 s2 := h
def nilOk : Value → Bool
  | .pointer none | .nilIface | .nilFunc => false
  | .func (.method _) _ _ => false
  | _ => true
theorem op_nilCheck {p : VP} (hd : d < Bs.N) (hx : HasO st x (.one (.val p))) (hk : ∀ e v, p.p e v → nilOk v = true) : OpStep P Bs ⟨some d, .nilCheck x, ty, pos, af, g⟩ st (st.set d (.one (.val p))) :=
  .value hd fun e a w hst => by
    have h1 := hx.get hst
    have h2 := hk e _ h1
    refine ⟨a.eval x, ?_, h1⟩
    simp only [execOp]
    cases hv : a.eval x <;> rw [hv] at h2 <;> try rfl
    · rename_i o; cases o
      · simp [nilOk] at h2
      · rfl
    · rename_i f _ _; cases f <;> simp [nilOk] at h2 <;> rfl
    · simp [nilOk] at h2
    · simp [nilOk] at h2
theorem op_indexStrUg {U : Type} [UK U] {s : List UInt8} {i : U} {u : UInt8} (hd : d < Bs.N) (hu : P.underlying t = some .string) (hx : HasO st x (.one (.val (S rS s)))) (hy : HasO st y (.one (.val (S (rU U) i)))) (h : idxL s (UN.toN i : Int) = some u) :
    OpStep P Bs ⟨some d, .index t x y, ty, pos, af, g⟩ st (st.set d (.one (.val (S (rU UInt8) u)))) := op_indexStrg hd hu hx (HasO.wk hy wkUI) h

theorem ImpK.slotH {T : Type} {r : Rep T} {xs : List T} {ob : Option Nat} {cap s : Nat} {st'' : St} (hs : look st.ρ s = some (.one (.val (HDR ob 0 xs.length cap)))) (t : ImpK Bs (KL r xs ob cap) { st with ρ := (s, .one (.val (HL ob r xs cap))) :: st.ρ } st'') : ImpK Bs (KL r xs ob cap) st st'' :=
  ImpK.slot (q := HL ob r xs cap) hs (fun e v hk hv => ⟨hv, by rw [show v = _ from hv]; exact hk⟩) t
/-! ### what is done under a condition -/
theorem andL {a b : Bool} (h : (a && b) = true) : a = true := by cases a <;> simp_all
theorem andR {a b : Bool} (h : (a && b) = true) : b = true := by cases a <;> simp_all
theorem andI {a b : Bool} (h : a = true) (k : b = true) : (a && b) = true := by rw [h, k]; rfl
theorem notT {a : Bool} (h : a = false) : (!a) = true := by rw [h]; rfl
theorem notF {a : Bool} (h : (!a) = true) : a = false := by cases a <;> simp_all
theorem ifT {α : Type} {b : Bool} {p q r : α} (h : (if b = true then p else q) = r) (hb : b = true) : p = r := by rw [if_pos hb] at h; exact h
theorem HasO.cnd {q : Bool} {s s' : SV1} (h : HasO st x (bif q then s else s')) (hq : q = true) : HasO st x s := by subst hq; exact h
theorem Guard.isT {gi dg : Nat} {b : Bool} (hdN : dg < Bs.N) (hg : dstOf ops gi = some dg) (hb : look st.ρ dg = some (.one (.val (S rB b)))) : Guard Bs ops st (some (gi, true)) b := by
  have := Guard.val (pol := true) hg hdN hb
  rwa [show (b == true) = b from by cases b <;> rfl] at this
theorem Guard.isF {gi dg : Nat} {b : Bool} (hdN : dg < Bs.N) (hg : dstOf ops gi = some dg) (hb : look st.ρ dg = some (.one (.val (S rB b)))) : Guard Bs ops st (some (gi, false)) (!b) := by
  have := Guard.val (pol := false) hg hdN hb
  rwa [show (b == false) = !b from by cases b <;> rfl] at this
theorem Guard.cT {gi dg : Nat} {q b : Bool} (hdN : dg < Bs.N) (hg : dstOf ops gi = some dg) (hb : look st.ρ dg = some (bif q then .one (.val (S rB b)) else .one .und)) : Guard Bs ops st (some (gi, true)) (q && b) := by
  cases q
  · exact Guard.und hg hdN hb
  · exact Guard.isT hdN hg hb
theorem Guard.cF {gi dg : Nat} {q b : Bool} (hdN : dg < Bs.N) (hg : dstOf ops gi = some dg) (hb : look st.ρ dg = some (bif q then .one (.val (S rB b)) else .one .und)) : Guard Bs ops st (some (gi, false)) (q && !b) := by
  cases q
  · exact Guard.und hg hdN hb
  · exact Guard.isF hdN hg hb
theorem JL.cnd {o : Oper} {os : List Oper} {q : Bool} {sv : SV1} (hg : Guard Bs ops st o.guard q) (hdst : o.dst = some d) (hd : d < Bs.N) (hs : q = true → OpStep P Bs o st (setO st (some d) sv)) (h : JL P Bs ops os (st.set d (bif q then sv else .one .und)) Q) : JL P Bs ops (o :: os) st Q := by
  cases q
  · exact JL.skip hg (fun k hk => by rw [hdst] at hk; cases hk; exact hd) (by rw [hdst]; exact h)
  · exact JL.run hg (hs rfl) h
theorem DStep.cnd {base : List (Nat × SV1)} {fs : Gh → List Fact} {rs : Gh → List RE} {df : List Nat} {i : Nat} {o : Oper} {f : Gh → Fact} {q : Bool} {sv : Gh → SV1} (hfd : ∀ γ, (f γ).d = o.dst) (hf : ∀ γ, (f γ).sv = bif q then sv γ else .one .und) (hdN : ∀ d, o.dst = some d → d < Bs.N) (hl : ∀ γ, chunks (lays i (rs γ)) = chunks (takes i (rs γ)))
    (h : ∀ γ ρ B, Based base ρ → (∀ (k : Nat) (g : Fact) (d : Nat), (fs γ)[k]? = some g → g.d = some d → k ∈ depsOf o → look ρ d = some g.sv) →
      Guard Bs ops (⟨ρ, chunks (takes i (rs γ)) ++ (chunks (looks i (rs γ)) ++ B), df⟩ : St) o.guard q ∧
      (q = true → OpStep P Bs o (⟨ρ, chunks (takes i (rs γ)) ++ (chunks (looks i (rs γ)) ++ B), df⟩ : St) (setO ⟨ρ, chunks (lays i (rs γ)) ++ (chunks (looks i (rs γ)) ++ B), df⟩ (f γ).d (sv γ)))) : DStep P Bs ops base fs rs df i [] o f := by
  cases q
  · exact .skip fun γ ρ B hb hd => ⟨(h γ ρ B hb hd).1, hl γ, hfd γ, by rw [hf]; rfl, hdN⟩
  · exact .run fun γ ρ B hb hd => ⟨(h γ ρ B hb hd).1, by rw [hf]; exact (h γ ρ B hb hd).2 rfl⟩
theorem op_pickCS {T : Type} {r : Rep T} {u v z : T} {c : Operand} {b : Bool} (hd : d < Bs.N) (hc : HasO st c (.one (.val (S rB b)))) (hx : b = true → HasO st x (.one (.val (S r u)))) (hy : b = false → HasO st y (.one (.val (S r v)))) (h : (bif b then u else v) = z) : OpStep P Bs ⟨some d, .pick c x y, ty, pos, af, g⟩ st (st.set d (.one (.val (S r z)))) := by
  subst h
  cases b
  · exact op_pickF hd hc rfl (hy rfl)
  · exact op_pickT hd hc rfl (hx rfl)
/-! ### a variable, frozen -/
def KV {T : Type} (r : Rep T) (x : T) (b : Nat) : Env → Prop := fun e => ∃ cs, r.rel e x cs ∧ Mu e b 0 cs
theorem Imp.frzVar {T : Type} {r : Rep T} {x : T} {j b : Nat} (hX : st.X[j]? = some (cvar b r x)) (k : ImpK Bs (KV r x b) { st with X := st.X.eraseIdx j } st') : Imp Bs st st' := fun a w ⟨e, h⟩ => by
  obtain ⟨cs, el, fr, h1, h2, h3, h4⟩ := h.xs _ (List.mem_of_getElem? hX)
  have hle : e.le (e.add b 0 cs) := Env.add_le fun ad v hm hb => absurd hb (h4 ad v hm)
  refine ⟨e.add b 0 cs, k _ a w ⟨cs, r.mono hle h3, Env.add_mu⟩ ?_⟩
  have := h.turn (A := [cvar b r x]) (B := st.X.eraseIdx j) (C := []) (e' := e.add b 0 cs) (w' := w) (perm_set hX) hle (fun ad v hm => ?_) ⟨rfl, rfl, rfl, Nat.le_refl _, fun _ _ _ => rfl⟩ (fun ad v hm => ?_) (fun c hc => by cases hc) List.Pairwise.nil (fun c hc => by cases hc)
  · exact this
  · rcases Env.add_inv hm with h5 | ⟨h5, _⟩
    · exact .inl h5
    · exact .inr (.inr ⟨_, List.mem_singleton.2 rfl, h5⟩)
  · rcases Env.add_inv hm with h5 | ⟨h5, h6, h7, h8, h9⟩
    · exact h.frz ad v h5
    · obtain ⟨b', o', s'⟩ := ad
      simp only at h5 h6 h7 h8 h9
      subst h5; subst h6
      rw [cell_of h1]
      simpa using h9
theorem ImpK.slotP {T U : Type} {r : Rep T} {x : T} {b off s : Nat} {q : Rep U} {y : U} {st'' : St} (hs : look st.ρ s = some (.one (.val (PTR b off)))) (hc : Comp r x off q y) (t : ImpK Bs (KV r x b) { st with ρ := (s, .one (.val (PT q y))) :: st.ρ } st'') : ImpK Bs (KV r x b) st st'' :=
  ImpK.slot hs (fun e v ⟨cs, h1, h2⟩ hv => by
    subst hv
    refine ⟨b, off, _, rfl, hc e cs h1, fun j u hj => ?_⟩
    have hjs : j < q.sz := by
      rcases Nat.lt_or_ge j q.sz with h | h
      · exact h
      · rw [List.getElem?_eq_none (by simp; omega)] at hj; cases hj
    rw [List.getElem?_take_of_lt hjs, List.getElem?_drop] at hj
    have := h2 _ u hj
    rwa [Nat.zero_add] at this) t
theorem op_sliceP {T : Type} {r : Rep T} {n : Nat} {v : Vector T n} {ys : List T} {lo hi : Option Operand} {l h : Int} (hd : d < Bs.N) (hu : P.underlying t = some (.array n el)) (hs : tySz P el r.sz = true) (hx : HasO st x (.one (.val (PT (rV n r) v))))
    (hl : OptN st lo 0 l) (hh : OptN st hi n h) (k : subL v.toList l h = some ys) : OpStep P Bs ⟨some d, .slice t x lo hi none, ty, pos, af, g⟩ st (st.set d (.one (.val (S (rL r) ys)))) :=
  .value hd fun e a w hst => by
    obtain ⟨⟨h0, h1, h2⟩, hr⟩ := subL_some k
    have h2 : h ≤ n := by simpa using h2
    obtain ⟨b, off, cs, hv, hrel, hmu⟩ := hx.get hst
    have hb := rBounds (P := P) hst (isSl := false) (cap := n) (m := n) hl hh (mx := none) rfl (fun h => absurd rfl h) h0 h1 h2 (Int.le_refl _) (Nat.le_refl _)
    have hylen : ys.length = h.toNat - l.toNat := by subst hr; simp; omega
    refine ⟨.slice (some (if n = l.toNat then ⟨b, off, none⟩ else (⟨b, off, none⟩ : Addr).add (l.toNat * r.sz))) (h.toNat - l.toNat) (n - l.toNat), ?_, _, rfl, _, n - l.toNat, by rw [hylen], by omega, (fun h => by cases h), fun hpos => ?_⟩
    · simp only [execOp, hv, Instr.sliceAt, Instr.sureAddr, Sem.run_bind, run_underlying hu, Result.andThen, Sem.run_pure]
      rw [show (none : Option Operand).map a.eval = none from rfl] at hb
      rw [show (Option.map a.eval none) = none from rfl, hb]
      simp only [rSize hs, Result.andThen, Sem.run_bind, Sem.run_pure, Int.toNat_natCast]
    · have hne : ¬ n = l.toNat := by omega
      refine ⟨b, off + l.toNat * r.sz, by rw [if_neg hne, add_none], fun i hi => ?_⟩
      have hin : l.toNat + i < n := by omega
      have hget : ys[i] = v[l.toNat + i] := by subst hr; simp
      rw [hget]
      refine ⟨_, hrel.2.2 (l.toNat + i) hin, fun j u hj => ?_⟩
      have hjs : j < r.sz := by
        rcases Nat.lt_or_ge j r.sz with h | h
        · exact h
        · rw [List.getElem?_eq_none (by simp; omega)] at hj; cases hj
      rw [List.getElem?_take_of_lt hjs, List.getElem?_drop] at hj
      have := hmu _ u hj
      rwa [show off + l.toNat * r.sz + i * r.sz + j = off + ((l.toNat + i) * r.sz + j) from by rw [Nat.add_mul]; omega]
/-! ### variables that may not be there -/
theorem jc {ops : Array Oper} {os : List Oper} {Q : Exit → Act → World → Prop} {o : Oper} {st' : St} (hs : OpStep P Bs o st st') (h : JL P Bs ops os st' Q) (hg : o.guard = none := by rfl) : JL P Bs ops (o :: os) st Q := JL.cons hg hs h
theorem jx {ops : Array Oper} {os : List Oper} {Q : Exit → Act → World → Prop} {o : Oper} {γ : Type} {st' : γ → St} (hs : OpX P Bs o st st') (h : ∀ g, JL P Bs ops os (st' g) Q) (hg : o.guard = none := by rfl) : JL P Bs ops (o :: os) st Q := JL.consX hg hs h
/-- A step of a statement whose order is open, that touches no piece of memory. -/
theorem dS {ops : Array Oper} {base : List (Nat × SV1)} {fs : Gh → List Fact} {rs : Gh → List RE} {df : List Nat} {i : Nat} {o : Oper} {os : List Oper} {f : Gh → Fact} {gs : Gh → List Fact} {afts : List (List Nat)} (j : Nat)
    (h : ∀ γ ρ B, Based base ρ → (∀ (k : Nat) (g : Fact) (d : Nat), (fs γ)[k]? = some g → g.d = some d → k ∈ depsOf o → look ρ d = some g.sv) → OpStep P Bs o ⟨ρ, B, df⟩ (setO ⟨ρ, B, df⟩ (f γ).d (f γ).sv))
    (t : DSteps P Bs ops base fs rs df j os gs afts) (hj : i + 1 = j := by rfl) (hd : ∀ γ, (f γ).d = o.dst := by exact fun _ => rfl) (hX : ∀ γ, chunks (takes i (rs γ)) = [] ∧ chunks (looks i (rs γ)) = [] ∧ chunks (lays i (rs γ)) = [] := by exact fun _ => ⟨rfl, rfl, rfl⟩) (hg : o.guard = none := by rfl) :
    DSteps P Bs ops base fs rs df i (o :: os) (fun γ => f γ :: gs γ) ([] :: afts) :=
  DSteps.cons hj hd (.run fun γ ρ B hb hdn => by
    obtain ⟨h1, h2, h3⟩ := hX γ
    rw [h1, h2, h3]
    refine ⟨by rw [hg]; exact .none, h γ ρ B hb hdn⟩) t
/-- .. under a condition. -/
theorem dC {ops : Array Oper} {base : List (Nat × SV1)} {fs : Gh → List Fact} {rs : Gh → List RE} {df : List Nat} {i : Nat} {o : Oper} {os : List Oper} {f : Gh → Fact} {gs : Gh → List Fact} {afts : List (List Nat)} (j : Nat) (q : Bool) (sv : Gh → SV1)
    (h : ∀ γ ρ B, Based base ρ → (∀ (k : Nat) (g : Fact) (d : Nat), (fs γ)[k]? = some g → g.d = some d → k ∈ depsOf o → look ρ d = some g.sv) → Guard Bs ops (⟨ρ, B, df⟩ : St) o.guard q ∧ (q = true → OpStep P Bs o ⟨ρ, B, df⟩ (setO ⟨ρ, B, df⟩ (f γ).d (sv γ))))
    (t : DSteps P Bs ops base fs rs df j os gs afts) (hj : i + 1 = j := by rfl) (hd : ∀ γ, (f γ).d = o.dst := by exact fun _ => rfl) (hf : ∀ γ, (f γ).sv = bif q then sv γ else .one .und := by exact fun _ => rfl) (hdN : ∀ d, o.dst = some d → d < Bs.N := by exact fun d h => by cases h; exact ltB rfl) (hX : ∀ γ, chunks (takes i (rs γ)) = [] ∧ chunks (looks i (rs γ)) = [] ∧ chunks (lays i (rs γ)) = [] := by exact fun _ => ⟨rfl, rfl, rfl⟩) :
    DSteps P Bs ops base fs rs df i (o :: os) (fun γ => f γ :: gs γ) ([] :: afts) :=
  DSteps.cons hj hd (.cnd (q := q) (sv := sv) hd hf hdN (fun γ => by obtain ⟨h1, h2, h3⟩ := hX γ; rw [h1, h3]) fun γ ρ B hb hdn => by
    obtain ⟨h1, h2, h3⟩ := hX γ
    rw [h1, h2, h3]
    exact h γ ρ B hb hdn) t
/-- Less is told of the slots; the state is told as it is. -/
theorem JL.sub {ops : Array Oper} {os : List Oper} {Q : Exit → Act → World → Prop} (st' : St) (hs : SubR st.ρ st'.ρ) (hX : st.X = st'.X) (hd : st.df = st'.df) (h : JL P Bs ops os st' Q) : JL P Bs ops os st Q := by
  obtain ⟨ρ, X, df⟩ := st; obtain ⟨ρ', X', df'⟩ := st'
  simp only at hX hd; subst hX; subst hd
  exact JL.pre (Imp.sub hs) h
theorem JL.nrm {ops : Array Oper} {os : List Oper} {Q : Exit → Act → World → Prop} (st' : St) (js : List Nat) {B : List Chunk} (hX : picks st.X js = some (st'.X, B)) (hs : SubR st.ρ st'.ρ) (hd : st.df = st'.df) (h : JL P Bs ops os st' Q) : JL P Bs ops os st Q := by
  obtain ⟨ρ, X, df⟩ := st; obtain ⟨ρ', X', df'⟩ := st'
  simp only at hX hd; subst hd
  exact JL.pre (Imp.norm hX hs) h
end
end Go.Proofs.Ytbmimaabgclhjaa.Fw
