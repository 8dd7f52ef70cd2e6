/- Functions by name, as values; calls of one of several. -/
import Derived.Test.YtbmimaabgclhjaaFda
namespace Go.Proofs.Ytbmimaabgclhjaa.Fw
open Go Go.RowKit
set_option linter.unusedVariables false
set_option linter.unusedSimpArgs false

def fnV : Option FuncId → Value
  | none => .nilFunc
  | some f => .func (.func f) #[] #[]
def rFn : Rep (Option FuncId) := ⟨1, fun _ x vs => vs = [fnV x], fun h => by simp [h], fun {e x vs} h => by subst h; intro v hv; simp at hv; subst hv; cases x <;> rfl, fun _ h => h⟩
theorem Zr.fn : Zr rFn none [.nilFunc] := fun _ => rfl
/-! ### methods of a known receiver -/
def BND (f : FuncId) (ps : List VP) : VP := ⟨fun e v => ∃ vs : List Value, v = .func (.func f) vs.toArray #[] ∧ ArgsR e ps vs, fun he ⟨vs, a, b⟩ => ⟨vs, a, b.mono he⟩⟩
instance (f : FuncId) (ps : List VP) : OneP (BND f ps) := ⟨fun _ _ ⟨_, h, _⟩ => by subst h; rfl⟩
section
variable {P : Program} {Bs : Base} {st : St} {d : Nat} {ty : TypeId} {pos : String} {af : Array Edge} {g : Option (Nat × Bool)}
end
/-! ### a function that comes back in two ways -/
/-! ### steps, in fewer words -/
theorem lE {a b : Nat} (h : Nat.ble a b = true) : a ≤ b := Nat.le_of_ble_eq_true h
theorem cT {T V : Type} {r : Rep T} {x : T} {o' : Nat} {q : Rep V} {z : V} (k : Comp r x o' q z) (hl : Nat.ble (o' + q.sz) r.sz = true) : Comp r x (0 + o') q z := Comp.trans (Comp.self r x) k (lE hl)
section
variable {P : Program} {Bs : Base} {st : St} {ops : Array Oper} {os : List Oper} {Q : Exit → Act → World → Prop}
theorem jmv {d t : Nat} {ty : TypeId} {pos : String} {af : Array Edge} {sv : SV1} (hd : Nat.blt d Bs.N = true) (hx : look st.ρ t = some sv) (h : JL P Bs ops os (st.set d sv) Q) : JL P Bs ops (⟨some d, .move (.tmp t), ty, pos, af, none⟩ :: os) st Q := jc (op_move (ltB hd) (.tmp hx)) h
theorem jn {y : Code} (h : JC P Bs y st Q) : JL P Bs ops [] st (Exit.then (fun a w => y.wpIn (WF Bs.ro) 0 P Q a w) Q) := JL.nil (JQ.then h)
theorem jr {id : Nat} {l : List Oper} {y : Code} (h : JL P Bs l.toArray l st (Exit.then (fun a w => y.wpIn (WF Bs.ro) 0 P Q a w) Q)) : JC P Bs (.seq (.region id l.toArray false) y) st Q := JC.seq (JC.region h)
theorem OpStep.lk {o : Oper} (st : St) {d : Option Nat} {sv : SV1} (h : OpStep P Bs o st (setO st d sv)) : OpStep P Bs o st (setO st d sv) := h
theorem lkB {o : Oper} {ρ : List (Nat × SV1)} {B : List Chunk} {df : List Nat} {d : Option Nat} {sv : SV1} (h : OpStep P Bs o ⟨ρ, B, df⟩ (setO ⟨ρ, B, df⟩ d sv)) : OpStep P Bs o ⟨ρ, B, df⟩ (setO ⟨ρ, B, df⟩ d sv) := h
theorem dR {base : List (Nat × SV1)} {fs : Gh → List Fact} {rs : Gh → List RE} {df : List Nat} {i : Nat} {o : Oper} {f : Gh → Fact} {gs : Gh → List Fact} {aft : List Nat} {afts : List (List Nat)} (j : Nat)
    (h : ∀ γ ρ B, Based base ρ → (∀ (k : Nat) (g : Fact) (d : Nat), (fs γ)[k]? = some g → g.d = some d → k ∈ depsOf o → look ρ d = some g.sv) → OpStep P Bs o (⟨ρ, chunks (takes i (rs γ)) ++ (chunks (looks i (rs γ)) ++ B), df⟩ : St) (setO ⟨ρ, chunks (lays i (rs γ)) ++ (chunks (looks i (rs γ)) ++ B), df⟩ (f γ).d (f γ).sv))
    (t : DSteps P Bs ops base fs rs df j os gs afts) (hj : i + 1 = j := by rfl) (hd : ∀ γ, (f γ).d = o.dst := by exact fun _ => rfl) (hg : o.guard = none := by rfl) : DSteps P Bs ops base fs rs df i (o :: os) (fun γ => f γ :: gs γ) (aft :: afts) :=
  DSteps.cons hj hd (.run fun γ ρ B hb hdn => ⟨by rw [hg]; exact .none, h γ ρ B hb hdn⟩) t
theorem dY {base : List (Nat × SV1)} {fs : Gh → List Fact} {rs : Gh → List RE} {df : List Nat} {i : Nat} {o : Oper} {f : Gh → Fact} {gs : Gh → List Fact} {aft : List Nat} {afts : List (List Nat)} (j : Nat)
    (h : ∀ γ ρ B, Based base ρ → (∀ (k : Nat) (g : Fact) (d : Nat), (fs γ)[k]? = some g → g.d = some d → k ∈ depsOf o → look ρ d = some g.sv) → Guard Bs ops (⟨ρ, chunks (takes i (rs γ)) ++ (chunks (looks i (rs γ)) ++ B), df⟩ : St) o.guard true ∧ OpStep P Bs o (⟨ρ, chunks (takes i (rs γ)) ++ (chunks (looks i (rs γ)) ++ B), df⟩ : St) (setO ⟨ρ, chunks (lays i (rs γ)) ++ (chunks (looks i (rs γ)) ++ B), df⟩ (f γ).d (f γ).sv))
    (t : DSteps P Bs ops base fs rs df j os gs afts) (hj : i + 1 = j := by rfl) (hd : ∀ γ, (f γ).d = o.dst := by exact fun _ => rfl) : DSteps P Bs ops base fs rs df i (o :: os) (fun γ => f γ :: gs γ) (aft :: afts) := DSteps.cons hj hd (.run h) t
theorem dK {base : List (Nat × SV1)} {fs : Gh → List Fact} {rs : Gh → List RE} {df : List Nat} {i : Nat} {o : Oper} {f : Gh → Fact} {gs : Gh → List Fact} {aft : List Nat} {afts : List (List Nat)} (j : Nat)
    (h : ∀ γ ρ B, Based base ρ → (∀ (k : Nat) (g : Fact) (d : Nat), (fs γ)[k]? = some g → g.d = some d → k ∈ depsOf o → look ρ d = some g.sv) → Guard Bs ops (⟨ρ, chunks (takes i (rs γ)) ++ (chunks (looks i (rs γ)) ++ B), df⟩ : St) o.guard false)
    (t : DSteps P Bs ops base fs rs df j os gs afts) (hj : i + 1 = j := by rfl) (hd : ∀ γ, (f γ).d = o.dst := by exact fun _ => rfl) (hl : ∀ γ, chunks (lays i (rs γ)) = chunks (takes i (rs γ)) := by exact fun _ => rfl) (hs : ∀ γ, (f γ).sv = .one .und := by exact fun _ => rfl) (hN : ∀ d, o.dst = some d → d < Bs.N := by exact fun d h => by cases h; exact ltB rfl) : DSteps P Bs ops base fs rs df i (o :: os) (fun γ => f γ :: gs γ) (aft :: afts) :=
  DSteps.cons hj hd (.skip fun γ ρ B hb hdn => ⟨h γ ρ B hb hdn, hl γ, hd γ, hs γ, hN⟩) t
theorem tl {fs : List Fact} {ρ : List (Nat × SV1)} {o : Oper} {X : List Chunk} {df : List Nat} (hd : ∀ (k : Nat) (g : Fact) (d : Nat), fs[k]? = some g → g.d = some d → k ∈ depsOf o → look ρ d = some g.sv) (k d : Nat) {sv : SV1} (h : fs[k]? = some ⟨some d, sv⟩ := by rfl) (hk : k ∈ depsOf o := by decide +kernel) : HasO (⟨ρ, X, df⟩ : St) (.tmp d) sv := .tmp (hd k _ d h rfl hk)
theorem lI {G : Prop} {α β : Type} {e : α} {K : α → Option β} {r : β} (h : lt1 e K = some r) (k : ∀ v, e = v → K v = some r → G) : G := k _ rfl h
theorem bI {G : Prop} {α β : Type} {x : Option α} {K : α → Option β} {r : β} (h : Option.bind x K = some r) (k : ∀ v, x = some v → K v = some r → G) : G := match bnd_inv h with | ⟨v, a, b⟩ => k v a b
theorem jif {c : Operand} {x y : Code} {b : Bool} {α : Type} {p q : Option α} {r : α} (hc : HasO st c (.one (.val (S rB b)))) (h : (if b = true then p else q) = some r) (ht : b = true → p = some r → JC P Bs x st Q) (hf : b = false → q = some r → JC P Bs y st Q) : JC P Bs (.cond c x y) st Q := by
  rcases iteB_inv h with ⟨hb, h⟩ | ⟨hb, h⟩
  · exact JC.condT hc hb (ht hb h)
  · exact JC.condF hc hb (hf hb h)
theorem jT {d gi dg : Nat} {o : Oper} {b : Bool} (sv : SV1) (ho : o.guard = some (gi, true)) (hg : dstOf ops gi = some dg) (hb : look st.ρ dg = some (.one (.val (S rB b)))) (hdst : o.dst = some d) (hs : (b) = true → OpStep P Bs o st (setO st (some d) sv)) (h : JL P Bs ops os (st.set d (bif b then sv else .one .und)) Q) (hN : Nat.blt dg Bs.N = true := by rfl) (hd : Nat.blt d Bs.N = true := by rfl) : JL P Bs ops (o :: os) st Q := JL.cnd (by rw [ho]; exact Guard.isT (ltB hN) hg hb) hdst (ltB hd) hs h
theorem jF {d gi dg : Nat} {o : Oper} {b : Bool} (sv : SV1) (ho : o.guard = some (gi, false)) (hg : dstOf ops gi = some dg) (hb : look st.ρ dg = some (.one (.val (S rB b)))) (hdst : o.dst = some d) (hs : (!b) = true → OpStep P Bs o st (setO st (some d) sv)) (h : JL P Bs ops os (st.set d (bif !b then sv else .one .und)) Q) (hN : Nat.blt dg Bs.N = true := by rfl) (hd : Nat.blt d Bs.N = true := by rfl) : JL P Bs ops (o :: os) st Q := JL.cnd (by rw [ho]; exact Guard.isF (ltB hN) hg hb) hdst (ltB hd) hs h
theorem dT {base : List (Nat × SV1)} {fs : Gh → List Fact} {rs : Gh → List RE} {df : List Nat} {i gi : Nat} {o : Oper} {f : Gh → Fact} {gs : Gh → List Fact} {afts : List (List Nat)} (j k d : Nat) (b : Bool) (sv : Gh → SV1) (h : ∀ γ ρ B, Based base ρ → (∀ (k : Nat) (g : Fact) (d : Nat), (fs γ)[k]? = some g → g.d = some d → k ∈ depsOf o → look ρ d = some g.sv) → (b) = true → OpStep P Bs o ⟨ρ, B, df⟩ (setO ⟨ρ, B, df⟩ (f γ).d (sv γ)))
    (t : DSteps P Bs ops base fs rs df j os gs afts) (ho : o.guard = some (gi, true) := by rfl) (hg : dstOf ops gi = some d := by rfl) (hN : Nat.blt d Bs.N = true := by rfl) (hk : ∀ γ, (fs γ)[k]? = some ⟨some d, .one (.val (S rB b))⟩ := by exact fun _ => rfl) (hdep : k ∈ depsOf o := by decide +kernel)
    (hj : i + 1 = j := by rfl) (hd : ∀ γ, (f γ).d = o.dst := by exact fun _ => rfl) (hf : ∀ γ, (f γ).sv = bif b then sv γ else .one .und := by exact fun _ => rfl) (hdN : ∀ d, o.dst = some d → d < Bs.N := by exact fun d h => by cases h; exact ltB rfl) (hX : ∀ γ, chunks (takes i (rs γ)) = [] ∧ chunks (looks i (rs γ)) = [] ∧ chunks (lays i (rs γ)) = [] := by exact fun _ => ⟨rfl, rfl, rfl⟩) : DSteps P Bs ops base fs rs df i (o :: os) (fun γ => f γ :: gs γ) ([] :: afts) :=
  dC j (b) sv (fun γ ρ B hb hdn => ⟨by rw [ho]; exact Guard.isT (ltB hN) hg (hdn k _ d (hk γ) rfl hdep), h γ ρ B hb hdn⟩) t hj hd hf hdN hX
theorem dF {base : List (Nat × SV1)} {fs : Gh → List Fact} {rs : Gh → List RE} {df : List Nat} {i gi : Nat} {o : Oper} {f : Gh → Fact} {gs : Gh → List Fact} {afts : List (List Nat)} (j k d : Nat) (b : Bool) (sv : Gh → SV1) (h : ∀ γ ρ B, Based base ρ → (∀ (k : Nat) (g : Fact) (d : Nat), (fs γ)[k]? = some g → g.d = some d → k ∈ depsOf o → look ρ d = some g.sv) → (!b) = true → OpStep P Bs o ⟨ρ, B, df⟩ (setO ⟨ρ, B, df⟩ (f γ).d (sv γ)))
    (t : DSteps P Bs ops base fs rs df j os gs afts) (ho : o.guard = some (gi, false) := by rfl) (hg : dstOf ops gi = some d := by rfl) (hN : Nat.blt d Bs.N = true := by rfl) (hk : ∀ γ, (fs γ)[k]? = some ⟨some d, .one (.val (S rB b))⟩ := by exact fun _ => rfl) (hdep : k ∈ depsOf o := by decide +kernel)
    (hj : i + 1 = j := by rfl) (hd : ∀ γ, (f γ).d = o.dst := by exact fun _ => rfl) (hf : ∀ γ, (f γ).sv = bif !b then sv γ else .one .und := by exact fun _ => rfl) (hdN : ∀ d, o.dst = some d → d < Bs.N := by exact fun d h => by cases h; exact ltB rfl) (hX : ∀ γ, chunks (takes i (rs γ)) = [] ∧ chunks (looks i (rs γ)) = [] ∧ chunks (lays i (rs γ)) = [] := by exact fun _ => ⟨rfl, rfl, rfl⟩) : DSteps P Bs ops base fs rs df i (o :: os) (fun γ => f γ :: gs γ) ([] :: afts) :=
  dC j (!b) sv (fun γ ρ B hb hdn => ⟨by rw [ho]; exact Guard.isF (ltB hN) hg (hdn k _ d (hk γ) rfl hdep), h γ ρ B hb hdn⟩) t hj hd hf hdN hX
theorem dB {base : List (Nat × SV1)} {fs : Gh → List Fact} {rs : Gh → List RE} {df : List Nat} {i gi : Nat} {o : Oper} {f : Gh → Fact} {gs : Gh → List Fact} {afts : List (List Nat)} (j k d : Nat) (q b : Bool) (sv : Gh → SV1) (h : ∀ γ ρ B, Based base ρ → (∀ (k : Nat) (g : Fact) (d : Nat), (fs γ)[k]? = some g → g.d = some d → k ∈ depsOf o → look ρ d = some g.sv) → (q && !b) = true → OpStep P Bs o ⟨ρ, B, df⟩ (setO ⟨ρ, B, df⟩ (f γ).d (sv γ)))
    (t : DSteps P Bs ops base fs rs df j os gs afts) (ho : o.guard = some (gi, false) := by rfl) (hg : dstOf ops gi = some d := by rfl) (hN : Nat.blt d Bs.N = true := by rfl) (hk : ∀ γ, (fs γ)[k]? = some ⟨some d, bif q then .one (.val (S rB b)) else .one .und⟩ := by exact fun _ => rfl) (hdep : k ∈ depsOf o := by decide +kernel)
    (hj : i + 1 = j := by rfl) (hd : ∀ γ, (f γ).d = o.dst := by exact fun _ => rfl) (hf : ∀ γ, (f γ).sv = bif q && !b then sv γ else .one .und := by exact fun _ => rfl) (hdN : ∀ d, o.dst = some d → d < Bs.N := by exact fun d h => by cases h; exact ltB rfl) (hX : ∀ γ, chunks (takes i (rs γ)) = [] ∧ chunks (looks i (rs γ)) = [] ∧ chunks (lays i (rs γ)) = [] := by exact fun _ => ⟨rfl, rfl, rfl⟩) : DSteps P Bs ops base fs rs df i (o :: os) (fun γ => f γ :: gs γ) ([] :: afts) :=
  dC j (q && !b) sv (fun γ ρ B hb hdn => ⟨by rw [ho]; exact Guard.cF (ltB hN) hg (hdn k _ d (hk γ) rfl hdep), h γ ρ B hb hdn⟩) t hj hd hf hdN hX
theorem eT {base : List (Nat × SV1)} {fs : Gh → List Fact} {rs : Gh → List RE} {df : List Nat} {i gi : Nat} {o : Oper} {f : Gh → Fact} {gs : Gh → List Fact} {afts : List (List Nat)} (j k d : Nat) (b : Bool) (sv : Gh → SV1) (h : ∀ γ ρ B, Based base ρ → (∀ (k : Nat) (g : Fact) (d : Nat), (fs γ)[k]? = some g → g.d = some d → k ∈ depsOf o → look ρ d = some g.sv) → (b) = true → OpStep P Bs o (⟨ρ, chunks (takes i (rs γ)) ++ (chunks (looks i (rs γ)) ++ B), df⟩ : St) (setO ⟨ρ, chunks (lays i (rs γ)) ++ (chunks (looks i (rs γ)) ++ B), df⟩ (f γ).d (sv γ)))
    (t : DSteps P Bs ops base fs rs df j os gs afts) (ho : o.guard = some (gi, true) := by rfl) (hg : dstOf ops gi = some d := by rfl) (hN : Nat.blt d Bs.N = true := by rfl) (hk : ∀ γ, (fs γ)[k]? = some ⟨some d, .one (.val (S rB b))⟩ := by exact fun _ => rfl) (hdep : k ∈ depsOf o := by decide +kernel)
    (hj : i + 1 = j := by rfl) (hd : ∀ γ, (f γ).d = o.dst := by exact fun _ => rfl) (hf : ∀ γ, (f γ).sv = bif b then sv γ else .one .und := by exact fun _ => rfl) (hdN : ∀ d, o.dst = some d → d < Bs.N := by exact fun d h => by cases h; exact ltB rfl) (hl : ∀ γ, chunks (lays i (rs γ)) = chunks (takes i (rs γ)) := by exact fun _ => rfl) : DSteps P Bs ops base fs rs df i (o :: os) (fun γ => f γ :: gs γ) ([] :: afts) :=
  DSteps.cons hj hd (.cnd (q := b) (sv := sv) hd hf hdN hl fun γ ρ B hb hdn => ⟨by rw [ho]; exact Guard.isT (ltB hN) hg (hdn k _ d (hk γ) rfl hdep), h γ ρ B hb hdn⟩) t
theorem eF {base : List (Nat × SV1)} {fs : Gh → List Fact} {rs : Gh → List RE} {df : List Nat} {i gi : Nat} {o : Oper} {f : Gh → Fact} {gs : Gh → List Fact} {afts : List (List Nat)} (j k d : Nat) (b : Bool) (sv : Gh → SV1) (h : ∀ γ ρ B, Based base ρ → (∀ (k : Nat) (g : Fact) (d : Nat), (fs γ)[k]? = some g → g.d = some d → k ∈ depsOf o → look ρ d = some g.sv) → (!b) = true → OpStep P Bs o (⟨ρ, chunks (takes i (rs γ)) ++ (chunks (looks i (rs γ)) ++ B), df⟩ : St) (setO ⟨ρ, chunks (lays i (rs γ)) ++ (chunks (looks i (rs γ)) ++ B), df⟩ (f γ).d (sv γ)))
    (t : DSteps P Bs ops base fs rs df j os gs afts) (ho : o.guard = some (gi, false) := by rfl) (hg : dstOf ops gi = some d := by rfl) (hN : Nat.blt d Bs.N = true := by rfl) (hk : ∀ γ, (fs γ)[k]? = some ⟨some d, .one (.val (S rB b))⟩ := by exact fun _ => rfl) (hdep : k ∈ depsOf o := by decide +kernel)
    (hj : i + 1 = j := by rfl) (hd : ∀ γ, (f γ).d = o.dst := by exact fun _ => rfl) (hf : ∀ γ, (f γ).sv = bif !b then sv γ else .one .und := by exact fun _ => rfl) (hdN : ∀ d, o.dst = some d → d < Bs.N := by exact fun d h => by cases h; exact ltB rfl) (hl : ∀ γ, chunks (lays i (rs γ)) = chunks (takes i (rs γ)) := by exact fun _ => rfl) : DSteps P Bs ops base fs rs df i (o :: os) (fun γ => f γ :: gs γ) ([] :: afts) :=
  DSteps.cons hj hd (.cnd (q := !b) (sv := sv) hd hf hdN hl fun γ ρ B hb hdn => ⟨by rw [ho]; exact Guard.isF (ltB hN) hg (hdn k _ d (hk γ) rfl hdep), h γ ρ B hb hdn⟩) t
theorem eB {base : List (Nat × SV1)} {fs : Gh → List Fact} {rs : Gh → List RE} {df : List Nat} {i gi : Nat} {o : Oper} {f : Gh → Fact} {gs : Gh → List Fact} {afts : List (List Nat)} (j k d : Nat) (q b : Bool) (sv : Gh → SV1) (h : ∀ γ ρ B, Based base ρ → (∀ (k : Nat) (g : Fact) (d : Nat), (fs γ)[k]? = some g → g.d = some d → k ∈ depsOf o → look ρ d = some g.sv) → (q && !b) = true → OpStep P Bs o (⟨ρ, chunks (takes i (rs γ)) ++ (chunks (looks i (rs γ)) ++ B), df⟩ : St) (setO ⟨ρ, chunks (lays i (rs γ)) ++ (chunks (looks i (rs γ)) ++ B), df⟩ (f γ).d (sv γ)))
    (t : DSteps P Bs ops base fs rs df j os gs afts) (ho : o.guard = some (gi, false) := by rfl) (hg : dstOf ops gi = some d := by rfl) (hN : Nat.blt d Bs.N = true := by rfl) (hk : ∀ γ, (fs γ)[k]? = some ⟨some d, bif q then .one (.val (S rB b)) else .one .und⟩ := by exact fun _ => rfl) (hdep : k ∈ depsOf o := by decide +kernel)
    (hj : i + 1 = j := by rfl) (hd : ∀ γ, (f γ).d = o.dst := by exact fun _ => rfl) (hf : ∀ γ, (f γ).sv = bif q && !b then sv γ else .one .und := by exact fun _ => rfl) (hdN : ∀ d, o.dst = some d → d < Bs.N := by exact fun d h => by cases h; exact ltB rfl) (hl : ∀ γ, chunks (lays i (rs γ)) = chunks (takes i (rs γ)) := by exact fun _ => rfl) : DSteps P Bs ops base fs rs df i (o :: os) (fun γ => f γ :: gs γ) ([] :: afts) :=
  DSteps.cons hj hd (.cnd (q := q && !b) (sv := sv) hd hf hdN hl fun γ ρ B hb hdn => ⟨by rw [ho]; exact Guard.cF (ltB hN) hg (hdn k _ d (hk γ) rfl hdep), h γ ρ B hb hdn⟩) t
theorem tR {t : Nat} {sv : SV1} (h : look st.ρ t = some sv := by rfl) : HasO st (.tmp t) sv := .tmp h
theorem so {α : Type} {a b : α} (h : some a = some b) : a = b := Option.some.inj h
theorem cs {α : Type} {a b : α} (h : a = b) : some a = some b := congrArg some h
theorem jk {o : Oper} {gi dg : Nat} {pol b : Bool} (ho : o.guard = some (gi, pol)) (hc : b = !pol) (h : JL P Bs ops os (setO st o.dst (.one .und)) Q) (hg : dstOf ops gi = some dg := by rfl) (hN : Nat.blt dg Bs.N = true := by rfl) (hb : look st.ρ dg = some (.one (.val (S rB b))) := by rfl) (hd : ∀ d, o.dst = some d → d < Bs.N := by exact fun d h => by cases h; exact ltB rfl) : JL P Bs ops (o :: os) st Q :=
  JL.skip (by rw [ho]; exact Guard.no hg (ltB hN) hb hc) hd h
theorem kn {base : List (Nat × SV1)} {fs : Gh → List Fact} {rs : Gh → List RE} {df : List Nat} {i : Nat} {o : Oper} {f : Gh → Fact} {gs : Gh → List Fact} {aft : List Nat} {afts : List (List Nat)} {gi : Nat} {pol b : Bool} (j k d : Nat) (ho : o.guard = some (gi, pol)) (hc : b = !pol)
    (t : DSteps P Bs ops base fs rs df j os gs afts) (hg : dstOf ops gi = some d := by rfl) (hN : Nat.blt d Bs.N = true := by rfl) (hk : ∀ γ, (fs γ)[k]? = some ⟨some d, .one (.val (S rB b))⟩ := by exact fun _ => rfl) (hdep : k ∈ depsOf o := by decide +kernel)
    (hj : i + 1 = j := by rfl) (hd : ∀ γ, (f γ).d = o.dst := by exact fun _ => rfl) (hl : ∀ γ, chunks (lays i (rs γ)) = chunks (takes i (rs γ)) := by exact fun _ => rfl) (hs : ∀ γ, (f γ).sv = .one .und := by exact fun _ => rfl) (hNo : ∀ d, o.dst = some d → d < Bs.N := by exact fun d h => by cases h; exact ltB rfl) : DSteps P Bs ops base fs rs df i (o :: os) (fun γ => f γ :: gs γ) (aft :: afts) :=
  dK j (fun γ ρ B hb hdn => by rw [ho]; exact .no hg (ltB hN) (hdn k _ d (hk γ) rfl hdep) hc) t hj hd hl hs hNo
theorem dm {base : List (Nat × SV1)} {fs : Gh → List Fact} {rs : Gh → List RE} {df : List Nat} {i d' : Nat} {ty : TypeId} {pos : String} {af : Array Edge} {f : Gh → Fact} {gs : Gh → List Fact} {afts : List (List Nat)} (j k d : Nat)
    (t : DSteps P Bs ops base fs rs df j os gs afts) (hN : Nat.blt d' Bs.N = true := by rfl) (hd : ∀ γ, (f γ).d = some d' := by exact fun _ => rfl) (hk : ∀ γ, (fs γ)[k]? = some ⟨some d, (f γ).sv⟩ := by exact fun _ => rfl) (hdep : k ∈ depsOf (⟨some d', .move (.tmp d), ty, pos, af, none⟩ : Oper) := by decide +kernel)
    (hj : i + 1 = j := by rfl) (hX : ∀ γ, chunks (takes i (rs γ)) = [] ∧ chunks (looks i (rs γ)) = [] ∧ chunks (lays i (rs γ)) = [] := by exact fun _ => ⟨rfl, rfl, rfl⟩) : DSteps P Bs ops base fs rs df i ((⟨some d', .move (.tmp d), ty, pos, af, none⟩ : Oper) :: os) (fun γ => f γ :: gs γ) ([] :: afts) :=
  dS j (fun γ ρ B hb hdn => by rw [hd γ]; exact op_move (ltB hN) (.tmp (hdn k ⟨some d, (f γ).sv⟩ d (hk γ) rfl hdep))) t hj hd hX rfl
theorem db {base : List (Nat × SV1)} {fs : Gh → List Fact} {rs : Gh → List RE} {df : List Nat} {i d' : Nat} {ty : TypeId} {pos : String} {af : Array Edge} {f : Gh → Fact} {gs : Gh → List Fact} {afts : List (List Nat)} (j d : Nat)
    (t : DSteps P Bs ops base fs rs df j os gs afts) (hN : Nat.blt d' Bs.N = true := by rfl) (hd : ∀ γ, (f γ).d = some d' := by exact fun _ => rfl) (hk : ∀ γ, look base d = some (f γ).sv := by exact fun _ => rfl)
    (hj : i + 1 = j := by rfl) (hX : ∀ γ, chunks (takes i (rs γ)) = [] ∧ chunks (looks i (rs γ)) = [] ∧ chunks (lays i (rs γ)) = [] := by exact fun _ => ⟨rfl, rfl, rfl⟩) : DSteps P Bs ops base fs rs df i ((⟨some d', .move (.tmp d), ty, pos, af, none⟩ : Oper) :: os) (fun γ => f γ :: gs γ) ([] :: afts) :=
  dS j (fun γ ρ B hb hdn => by rw [hd γ]; exact op_move (ltB hN) (.tmp (hb d _ (hk γ)))) t hj hd hX rfl
theorem jd {fn : Func} {t : Nat} {rest : List Chunk} {X' : Unit → List Chunk} {sv : Unit → SV1} (s : SW) (hr : fn.results = ([.tmp t] : List ResultVar).toArray) (h : look st.ρ t = some (.one s)) (hX : picks st.X [] = some ([], rest)) (hdf : st.df = []) (hX' : [] = X' ()) (hsv : mkR [s] = sv ()) :
    JQ Bs .ret st (bodyPostM (WF none) 0 P fn fun en w' => ∃ g, Back Bs.e0 Bs.w0 Bs.F0 (X' g) (sv g) en w') := JQ.done (js := []) (ss := [s]) () (.inl rfl) (.nil hdf) hr (.cons (.tmp h) .nil) hX hX' hsv
theorem jo {t : Nat} {sv : SV1} {st' : Unit → St} {A B : List Chunk} (hX : picks st.X [] = some (A, B)) (hs : look st.ρ t = some sv) (hst : ⟨[(t, sv)], A, st.df⟩ = st' ()) : JQ Bs .normal st (Exit.then (fun a w => ∃ q, StR Bs (st' q) a w) Q) := JQ.join () (by rw [← hst]; exact Imp.norm (js := []) hX (.cons hs .nil))
def nn (n : Nat) : List (List Nat) := List.replicate n []
def dstsO (l : List Oper) : List Nat := l.filterMap (·.dst)
def nodupB : List Nat → Bool
  | [] => true
  | d :: l => !l.contains d && nodupB l
theorem nodupB_iff : ∀ {l : List Nat}, nodupB l = true → l.Nodup
  | [], _ => .nil
  | d :: l, h => by
    simp only [nodupB, Bool.and_eq_true, Bool.not_eq_true', List.contains_eq_mem, decide_eq_false_iff_not] at h
    exact List.nodup_cons.2 ⟨h.1, nodupB_iff h.2⟩
def freeB (l : List Oper) : List Nat → Bool := fun bs => (dstsO l).all fun d => !bs.contains d
theorem JC.anyF {id : Nat} {base : List (Nat × SV1)} {fs : Gh → List Fact} {rs : Gh → List RE} {l : List Oper} {afts : List (List Nat)} {js : List Nat} (hm : P.follows .mixedOrders = true) (hsub : AllLook st.ρ base)
    (hX : ∀ γ, picks st.X js = some (chunks ((rs γ).filter fun r => r.p.isNone), [])) (hsteps : DSteps P Bs l.toArray base fs rs st.df 0 l fs afts)
    (htopo : (topo l && nodupB (dstsO l)) = true) (hok : ∀ γ, dOk l (rs γ) afts = true) (hin : ∀ γ, inOk l.length (rs γ) = true) (hds : ∀ γ, dsts (fs γ) = dstsO l) (hdis : freeB l (base.map (·.1)) = true) {ρ' : Gh → List (Nat × SV1)} {X' : Gh → List Chunk}
    (hρ : ∀ γ ρ, Based base ρ → (∀ (k : Nat) (g : Fact) (d : Nat), (fs γ)[k]? = some g → g.d = some d → look ρ d = some g.sv) → AllLook ρ (ρ' γ)) (hX' : ∀ γ, chunks ((rs γ).filter fun r => r.k.isNone) = X' γ)
    (h : ∀ γ, JQ Bs .normal (⟨ρ' γ, X' γ, st.df⟩ : St) Q) : JC P Bs (.region id l.toArray true) st Q := by
  have h1 := Bool.and_eq_true_iff.1 htopo
  refine JC.anyE (kl := []) (kk := 0) (ds := dstsO l) (bs := base.map (·.1)) hm hsub hX hsteps h1.1 hok rfl hin hds rfl (nodupB_iff h1.2) ?_ rfl (fun _ d h => by cases h) (fun γ ρ hb hd => hρ γ ρ (fun t sv ht => hb t sv ht (by simp)) hd) hX' h
  have hdis := List.all_eq_true.1 hdis
  rw [List.all_eq_true]
  intro d hd
  have := hdis d hd
  rw [this]; rfl
end
end Go.Proofs.Ytbmimaabgclhjaa.Fw
