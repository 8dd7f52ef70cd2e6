/- Steps in the form in which the printed walks take them. -/
import Derived.Test.YtbmimaabgclhjaaFl
namespace Go.Proofs.Ytbmimaabgclhjaa.Fw
open Go Go.RowKit
set_option linter.unusedVariables false
set_option linter.unusedSimpArgs false

section
variable {P : Program} {Bs : Base} {st st' : St} {d : Nat} {ty t t' el : TypeId} {pos : String} {af : Array Edge} {g : Option (Nat × Bool)} {x y z : Operand} {Q : Exit → Act → World → Prop} {l : List Oper} {ops : Array Oper}
theorem ltB {d N : Nat} (h : Nat.blt d N = true) : d < N := Nat.le_of_ble_eq_true h
theorem lb {d N : Nat} (h : Nat.blt d N = true := by rfl) : d < N := Nat.le_of_ble_eq_true h
theorem ld {d N : Nat} (h : Nat.blt d N = true := by rfl) : ∀ k, some d = some k → k < N := fun k hk => by cases hk; exact ltB h
theorem tyB.of {sz bytes : Nat} {v : Value} (h : (P.info? t).map (fun i => (i.size, i.bytes, i.zero)) = some (sz, bytes, some v)) : tyB P t sz bytes v := by
  obtain ⟨i, h1, h2⟩ := Option.map_eq_some_iff.1 h
  injection h2 with h3 h4
  injection h4 with h4 h5
  exact ⟨i, h1, h3, h4, h5⟩
theorem bnd_inv {α β : Type} {x : Option α} {K : α → Option β} {r : β} (h : Option.bind x K = some r) : ∃ v, x = some v ∧ K v = some r := Option.bind_eq_some_iff.1 h
theorem iteB_inv {α : Type} {b : Bool} {p q : Option α} {r : α} (h : (if b = true then p else q) = some r) : (b = true ∧ p = some r) ∨ (b = false ∧ q = some r) := by
  cases b
  · exact .inr ⟨rfl, h⟩
  · exact .inl ⟨rfl, h⟩
theorem JC.at {c : Code} (st : St) (h : JC P Bs c st Q) : JC P Bs c st Q := h
/-- A slot's value. -/
abbrev ov (p : VP) : SV1 := .one (.val p)
theorem JL.at {os : List Oper} (st : St) (h : JL P Bs ops os st Q) : JL P Bs ops os st Q := h
theorem JQ.at {ex : Exit} (st : St) (h : JQ Bs ex st Q) : JQ Bs ex st Q := h
theorem JC.condT {c : Operand} {x y : Code} {b : Bool} (hc : HasO st c (.one (.val (S rB b)))) (hb : b = true) (h : JC P Bs x st Q) : JC P Bs (.cond c x y) st Q := JC.cond hc (fun _ => h) (fun hf => by rw [hb] at hf; cases hf)
theorem JC.condF {c : Operand} {x y : Code} {b : Bool} (hc : HasO st c (.one (.val (S rB b)))) (hb : b = false) (h : JC P Bs y st Q) : JC P Bs (.cond c x y) st Q := JC.cond hc (fun hf => by rw [hb] at hf; cases hf) (fun _ => h)
theorem stepR_scope {c : Code} {b : Frame} {a : Act} {k : List Item} {cs : List Frame} {w : World} : step P (lone (b.atR a (.code (.scope c) :: k)) cs w) = .next (lone (b.atR a (.code c :: .inScope c :: k)) cs w) :=
  step_lone_go (by simp [stepG, stepG.exec, Frame.atR])
theorem stepR_inScope {c : Code} {b : Frame} {a : Act} {k : List Item} {cs : List Frame} {w : World} : step P (lone (b.atR a (.inScope c :: k)) cs w) = .next (lone (b.atR a k) cs w) :=
  step_lone_go (by simp [stepG, stepG.exec, Frame.atR])
def noGoto (Q : Exit → Act → World → Prop) : Exit → Act → World → Prop
  | .goto _, _, _ => False
  | e, a, w => Q e a w
/-- A piece of code in which nobody jumps. -/
theorem JC.scope {c : Code} (h : JC P Bs c st (noGoto Q)) : JC P Bs (.scope c) st Q := fun a w hst => by
  intro b k cs hro hb hr
  have h0 : (lone (b.atR a (.code (.scope c) :: k)) cs w).fenced P (WF Bs.ro) := fenced_calm hb hr rfl
  obtain ⟨e, a₁, w₁, hq, harr⟩ := h a w hst b (.inScope c :: k) cs hro hb hr
  cases e with
  | normal => exact ⟨.normal, a₁, w₁, hq, .head h0 stepR_scope (StepsIn.trans harr (.one (fenced_calm hb hr rfl) stepR_inScope))⟩
  | exit id =>
    have hx : exitTo id (.inScope c :: k) = exitTo id k := by simp [exitTo]
    exact ⟨.exit id, a₁, w₁, hq, fun k' hk => .head h0 stepR_scope (harr.1 k' (by rw [hx]; exact hk)),
      fun hr' hk => let ⟨k₁, h1, h2⟩ := harr.2 hr' (by rw [hx]; exact hk); ⟨k₁, h1, .head h0 stepR_scope h2⟩⟩
  | goto l => exact hq.elim
  | ret => exact ⟨_, a₁, w₁, hq, .of_steps (.one h0 stepR_scope) harr⟩
  | panic ch => exact ⟨_, a₁, w₁, hq, .of_steps (.one h0 stepR_scope) harr⟩
  | outgrown => exact ⟨_, a₁, w₁, hq, .of_steps (.one h0 stepR_scope) harr⟩
theorem JQ.scR (h : JQ Bs .ret st Q) : JQ Bs .ret st (noGoto Q) := h
theorem JC.seqJ {x y : Code} {γ : Type} {stj : γ → St} (h2 : ∀ q, JC P Bs y (stj q) Q) (h1 : JC P Bs x st (Exit.then (fun a w => ∃ q, StR Bs (stj q) a w) Q)) : JC P Bs (.seq x y) st Q := fun a w hst =>
  wpIn_seq (wpIn_mono (h1 a w hst) fun e a w q => by cases e <;> first | (obtain ⟨g, q⟩ := q; exact h2 g a w q) | exact q)
theorem JC.seqK {α γ : Type} {x y : Code} {stj : α → γ → St} {p : α → Prop} (h2 : ∀ v q, p v → JC P Bs y (stj v q) Q) (h1 : JC P Bs x st (Exit.then (fun a w => ∃ v q, p v ∧ StR Bs (stj v q) a w) Q)) : JC P Bs (.seq x y) st Q := fun a w hst =>
  wpIn_seq (wpIn_mono (h1 a w hst) fun e a w q => by cases e <;> first | (obtain ⟨v, g, hv, q⟩ := q; exact h2 v g hv a w q) | exact q)
theorem JQ.join {γ : Type} {stj : γ → St} (q : γ) (i : Imp Bs st (stj q)) : JQ Bs .normal st (Exit.then (fun a w => ∃ q, StR Bs (stj q) a w) Q) := fun a w hst => ⟨q, i a w hst⟩
theorem JQ.joinK {α γ : Type} {stj : α → γ → St} {p : α → Prop} (v : α) (q : γ) (hv : p v) (i : Imp Bs st (stj v q)) : JQ Bs .normal st (Exit.then (fun a w => ∃ v q, p v ∧ StR Bs (stj v q) a w) Q) := fun a w hst => ⟨v, q, hv, i a w hst⟩
theorem op_indexAddrIF {n sz b o : Nat} {k : IntKind} {i : Int} {f : Fin n} (hd : d < Bs.N) (ht : tyAr P t n sz = true) (hx : HasO st x (.one (.val (PTR b o)))) (hy : HasO st y (.one (.val (S (rI k) i)))) (h : inV n i = some f) :
    OpStep P Bs ⟨some d, .indexAddr t x y, ty, pos, af, g⟩ st (st.set d (.one (.val (PTR b (o + f.1 * sz))))) := by
  obtain ⟨h0, h1, h2⟩ := inV_some h
  rw [← h2]
  exact op_indexAddrI hd ht hx hy h0 (by omega)
theorem op_indexAddrOF {T : Type} {r : Rep T} {xs : List T} {ob : Option Nat} {fz cap j : Nat} {k : IntKind} {i : Int} {n : Nat} (hd : d < Bs.N) (hu : P.underlying t = some (.slice el)) (hs : tySz P el r.sz = true) (hX : st.X[j]? = some (cown ob r xs fz cap))
    (hx : HasO st x (.one (.val (HDR ob 0 xs.length cap)))) (hy : HasO st y (.one (.val (S (rI k) i)))) (h : inO xs i = some n) :
    OpStep P Bs ⟨some d, .indexAddr t x y, ty, pos, af, g⟩ st (st.set d (.one (.val (EPT ob (n * r.sz))))) := by
  obtain ⟨h0, h1, h2⟩ := inO_some h
  subst h2
  exact op_indexAddrO hd hu hs hX hx hy h0 h1
theorem op_storeOAg {T : Type} {r : Rep T} {xs ys : List T} {ob : Option Nat} {cap j i : Nat} {u : T} (ht : tyA P t r.sz = true) (hX : st.X[j]? = some (cown ob r xs 0 cap)) (hx : HasO st x (.one (.val (EPT ob (i * r.sz))))) (hy : HasO st y (.one (.val (A r u)))) (h : setO' xs i u = some ys) :
    OpStep P Bs ⟨none, .store t x y, ty, pos, af, g⟩ st { st with X := st.X.set j (cown ob r ys 0 cap) } := by
  obtain ⟨hi, he⟩ := setO'_some h
  exact op_storeOA (off := 0) ht hX hx hy (List.getElem?_eq_getElem hi) (Upd.self r _ _) he
theorem op_indexAddrLg {T : Type} {r : Rep T} {xs : List T} {k : IntKind} {i : Int} {u : T} (hd : d < Bs.N) (hu : P.underlying t = some (.slice el)) (hs : tySz P el r.sz = true)
    (hx : HasO st x (.one (.val (S (rL r) xs)))) (hy : HasO st y (.one (.val (S (rI k) i)))) (h : idxL xs i = some u) :
    OpStep P Bs ⟨some d, .indexAddr t x y, ty, pos, af, g⟩ st (st.set d (.one (.val (PT r u)))) := by
  obtain ⟨h0, h1, h2⟩ := idxL_some h
  exact op_indexAddrL hd hu hs hx hy h0 h1 h2
theorem op_indexStrg {s : List UInt8} {k : IntKind} {i : Int} {u : UInt8} (hd : d < Bs.N) (hu : P.underlying t = some .string) (hx : HasO st x (.one (.val (S rS s)))) (hy : HasO st y (.one (.val (S (rI k) i)))) (h : idxL s i = some u) :
    OpStep P Bs ⟨some d, .index t x y, ty, pos, af, g⟩ st (st.set d (.one (.val (S (rU UInt8) u)))) := by
  obtain ⟨h0, h1, h2⟩ := idxL_some h
  exact op_indexStr hd hu hx hy h0 h1 h2
theorem op_indexSg {T : Type} {r : Rep T} {n : Nat} {v : Vector T n} {k : IntKind} {i : Int} {el : TypeId} {u : T} (hd : d < Bs.N) (hu : P.underlying t = some (.array n el)) (ht : tyS P el = true) (hs : r.sz = 1)
    (hx : HasO st x (.one (.val (A (rV n r) v)))) (hy : HasO st y (.one (.val (S (rI k) i)))) (h : idxV v i = some u) : OpStep P Bs ⟨some d, .index t x y, ty, pos, af, g⟩ st (st.set d (.one (.val (S r u)))) := by
  obtain ⟨h0, h1, h2⟩ := idxV_some h
  exact op_indexS hd hu ht hs hx hy h0 h1 h2
theorem op_shrUU {U V : Type} [UK U] [UK V] {m r : U} {n : V} (hd : d < Bs.N) (hx : HasO st x (.one (.val (S (rU U) m)))) (hy : HasO st y (.one (.val (S (rU V) n)))) (hr : UN.shr m (UN.toN n) = r) :
    OpStep P Bs ⟨some d, .binOp .shr t x y t', ty, pos, af, g⟩ st (st.set d (.one (.val (S (rU U) r)))) := op_shUU hd hx hy (by subst hr; simp [shU])
theorem op_pickT {c : Operand} {b : Bool} {sv : SV1} (hd : d < Bs.N) (hc : HasO st c (.one (.val (S rB b)))) (hb : b = true) (hx : HasO st x sv) : OpStep P Bs ⟨some d, .pick c x y, ty, pos, af, g⟩ st (st.set d sv) :=
  op_pick (sv2 := sv) (sv3 := sv) hd hc (fun _ => hx) (fun h => by rw [hb] at h; cases h)
theorem op_pickF {c : Operand} {b : Bool} {sv : SV1} (hd : d < Bs.N) (hc : HasO st c (.one (.val (S rB b)))) (hb : b = false) (hy : HasO st y sv) : OpStep P Bs ⟨some d, .pick c x y, ty, pos, af, g⟩ st (st.set d sv) :=
  op_pick (sv2 := sv) (sv3 := sv) hd hc (fun h => by rw [hb] at h; cases h) (fun _ => hy)
theorem op_appendL {T : Type} {r : Rep T} {xs ys zs : List T} {ob : Option Nat} {fz cap j bytes : Nat} {zv : Value} {dy : TypeDesc} (hd : d < Bs.N) (hu : P.underlying t = some (.slice el)) (hu' : P.underlying t' = some dy) (hni : notInt dy = true) (hel : tyB P el r.sz bytes zv) (hz : zv.cells.size = r.sz) (hsz : 0 < r.sz) (hb0 : 0 < bytes)
    (hX : st.X[j]? = some (cown ob r xs fz cap)) (hx : HasO st x (.one (.val (HDR ob 0 xs.length cap)))) (hy : HasO st y (.one (.val (S (rL r) ys)))) (h : apL bytes xs ys = some zs) :
    OpX P Bs ⟨some d, .call { callee := .builtin .append, args := #[x, y], argTypes := #[t, t'] }, ty, pos, af, g⟩ st (fun q : Option Nat × Nat => St.set { st with X := st.X.set j (cown q.1 r zs fz q.2) } d (.one (.val (HDR q.1 0 zs.length q.2)))) :=
  op_append hd hu hu' hni hel hz hsz hb0 hX hx (fun e a w hst => Src.list hst hy) (apL_some h)
theorem op_sliceLg {T : Type} {r : Rep T} {xs ys : List T} {lo hi : Option Operand} {l h : Int} (hd : d < Bs.N) (hu : P.underlying t = some (.slice el)) (hs : tySz P el r.sz = true) (hx : HasO st x (.one (.val (S (rL r) xs))))
    (hl : OptN st lo 0 l) (hh : OptN st hi xs.length h) (k : subL xs l h = some ys) :
    OpStep P Bs ⟨some d, .slice t x lo hi none, ty, pos, af, g⟩ st (st.set d (.one (.val (S (rL r) ys)))) := by
  obtain ⟨⟨h0, h1, h2⟩, h3⟩ := subL_some k
  exact op_sliceL (m := 0) hd hu hs hx hl hh (.inl rfl) h0 h1 h2 h3
theorem AllLook.nil {ρ : List (Nat × SV1)} : AllLook ρ [] := trivial
theorem AllLook.cons {ρ l : List (Nat × SV1)} {s : Nat} {sv : SV1} (h : look ρ s = some sv) (k : AllLook ρ l) : AllLook ρ ((s, sv) :: l) := ⟨h, k⟩
theorem ArgsR.nil {e : Env} : ArgsR e [] [] := ⟨rfl, fun i p h => by simp at h⟩
theorem ArgsR.cons {e : Env} {p : VP} {ps : List VP} {v : Value} {vs : List Value} (h : p.p e v) (k : ArgsR e ps vs) : ArgsR e (p :: ps) (v :: vs) := ⟨by simp [k.1], fun i q hi => by
  obtain _ | i := i
  · simp at hi; subst hi; exact h
  · simp at hi
    exact k.2 i q hi⟩
theorem hdl {fs : List Fact} {ρ : List (Nat × SV1)} {o : Oper} (hd : ∀ (k : Nat) (g : Fact) (d : Nat), fs[k]? = some g → g.d = some d → k ∈ depsOf o → look ρ d = some g.sv) (k d : Nat) {sv : SV1} (h : fs[k]? = some ⟨some d, sv⟩) (hk : k ∈ depsOf o) : look ρ d = some sv := hd k _ d h rfl hk
theorem hl {fs : List Fact} {ρ : List (Nat × SV1)} {o : Oper} (hd : ∀ (k : Nat) (g : Fact) (d : Nat), fs[k]? = some g → g.d = some d → k ∈ depsOf o → look ρ d = some g.sv) (k d : Nat) {sv : SV1} (h : fs[k]? = some ⟨some d, sv⟩) (hk : k ∈ depsOf o := by decide +kernel) : look ρ d = some sv := hd k _ d h rfl hk
theorem hdq {fs : List Fact} {ρ : List (Nat × SV1)} (hd : ∀ (k : Nat) (g : Fact) (d : Nat), fs[k]? = some g → g.d = some d → look ρ d = some g.sv) (k d : Nat) {sv : SV1} (h : fs[k]? = some ⟨some d, sv⟩) : look ρ d = some sv := hd k _ d h rfl
end
end Go.Proofs.Ytbmimaabgclhjaa.Fw
