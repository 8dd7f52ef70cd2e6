/- Functions by name, as values; calls of one of several. -/
import Derived.Test.YtklnihlchhhhlaaFda
namespace Go.Proofs.Ytklnihlchhhhlaa.Fw
open Go Go.RowKit
set_option linter.unusedVariables false
set_option linter.unusedSimpArgs false

def fnV : Option FuncId → Value
  | none => .nilFunc
  | some f => .func (.func f) #[] #[]
def rFn : Rep (Option FuncId) := ⟨1, fun _ x vs => vs = [fnV x], fun h => by simp [h], fun {e x vs} h => by subst h; intro v hv; simp at hv; subst hv; cases x <;> rfl, fun _ h => h⟩
theorem Zr.fn : Zr rFn none [.nilFunc] := fun _ => rfl
theorem wkFnC {f : FuncId} : ∀ e v, (CLO f []).p e v → (S rFn (some f)).p e v := fun e v ⟨vs, h, k⟩ => by
  have : vs = [] := List.eq_nil_of_length_eq_zero (by simpa using k.1)
  subst this
  subst h
  rfl
theorem wkCFn {x : Option FuncId} {f : FuncId} (hx : x = some f) : ∀ e v, (S rFn x).p e v → (CLO f []).p e v := fun e v h => by
  subst hx
  have h : [v] = [fnV (some f)] := h
  injection h with h
  exact ⟨[], h, rfl, fun i p hp => by simp at hp⟩
theorem Wk.clo {K : Env → Prop} {f : FuncId} : Wk K (rW (CLO f [])) () rFn (some f) := fun e vs _ ⟨v, h, k, _⟩ => by
  subst h
  exact wkFnC e v k
theorem fnsplit {α : Type} {G c : Prop} [Decidable c] {p q : Option α} {r : α} (h : (if c then p else q) = some r) (t : c → p = some r → G) (f : q = some r → G) : G := by
  by_cases hc : c
  · rw [if_pos hc] at h; exact t hc h
  · rw [if_neg hc] at h; exact f h
theorem fnone {α : Type} {G : Prop} {r : α} (h : (none : Option α) = some r) : G := nomatch h
/-! ### methods of a known receiver -/
def BND (f : FuncId) (ps : List VP) : VP := ⟨fun e v => ∃ vs : List Value, v = .func (.func f) vs.toArray #[] ∧ ArgsR e ps vs, fun he ⟨vs, a, b⟩ => ⟨vs, a, b.mono he⟩⟩
instance (f : FuncId) (ps : List VP) : OneP (BND f ps) := ⟨fun _ _ ⟨_, h, _⟩ => by subst h; rfl⟩
section
variable {P : Program} {Bs : Base} {st : St} {d : Nat} {ty : TypeId} {pos : String} {af : Array Edge} {g : Option (Nat × Bool)}
end
/-! ### steps, in fewer words -/
theorem lE {a b : Nat} (h : Nat.ble a b = true) : a ≤ b := Nat.le_of_ble_eq_true h
theorem cT {T V : Type} {r : Rep T} {x : T} {o' : Nat} {q : Rep V} {z : V} (k : Comp r x o' q z) (hl : Nat.ble (o' + q.sz) r.sz = true) : Comp r x (0 + o') q z := Comp.trans (Comp.self r x) k (lE hl)
section
variable {P : Program} {Bs : Base} {st : St} {ops : Array Oper} {os : List Oper} {Q : Exit → Act → World → Prop}
theorem jmv {d t : Nat} {ty : TypeId} {pos : String} {af : Array Edge} {sv : SV1} (hd : Nat.blt d Bs.N = true) (hx : look st.ρ t = some sv) (h : JL P Bs ops os (st.set d sv) Q) : JL P Bs ops (⟨some d, .move (.tmp t), ty, pos, af, none⟩ :: os) st Q := jc (op_move (ltB hd) (.tmp hx)) h
theorem jn {y : Code} (h : JC P Bs y st Q) : JL P Bs ops [] st (Exit.then (fun a w => y.wpIn (WF Bs.ro) 0 P Q a w) Q) := JL.nil (JQ.then h)
theorem jr {id : Nat} {l : List Oper} {y : Code} (h : JL P Bs l.toArray l st (Exit.then (fun a w => y.wpIn (WF Bs.ro) 0 P Q a w) Q)) : JC P Bs (.seq (.region id l.toArray false) y) st Q := JC.seq (JC.region h)
theorem OpStep.lk {o : Oper} (st : St) {d : Option Nat} {sv : SV1} (h : OpStep P Bs o st (setO st d sv)) : OpStep P Bs o st (setO st d sv) := h
theorem lkB {o : Oper} {ρ : List (Nat × SV1)} {B : List Chunk} {df : List Nat} {d : Option Nat} {sv : SV1} (h : OpStep P Bs o ⟨ρ, B, df⟩ (setO ⟨ρ, B, df⟩ d sv)) : OpStep P Bs o ⟨ρ, B, df⟩ (setO ⟨ρ, B, df⟩ d sv) := h
theorem dR {base : List (Nat × SV1)} {fs : Gh → List Fact} {rs : Gh → List RE} {df : List Nat} {i : Nat} {o : Oper} {f : Gh → Fact} {gs : Gh → List Fact} {aft : List Nat} {afts : List (List Nat)} (j : Nat)
    (h : ∀ γ ρ B, Based base ρ → (∀ (k : Nat) (g : Fact) (d : Nat), (fs γ)[k]? = some g → g.d = some d → k ∈ depsOf o → look ρ d = some g.sv) → OpStep P Bs o (⟨ρ, chunks (takes i (rs γ)) ++ (chunks (looks i (rs γ)) ++ B), df⟩ : St) (setO ⟨ρ, chunks (lays i (rs γ)) ++ (chunks (looks i (rs γ)) ++ B), df⟩ (f γ).d (f γ).sv))
    (t : DSteps P Bs ops base fs rs df j os gs afts) (hj : i + 1 = j := by rfl) (hd : ∀ γ, (f γ).d = o.dst := by exact fun _ => rfl) (hg : o.guard = none := by rfl) : DSteps P Bs ops base fs rs df i (o :: os) (fun γ => f γ :: gs γ) (aft :: afts) :=
  DSteps.cons hj hd (.run fun γ ρ B hb hdn => ⟨by rw [hg]; exact .none, h γ ρ B hb hdn⟩) t
theorem dY {base : List (Nat × SV1)} {fs : Gh → List Fact} {rs : Gh → List RE} {df : List Nat} {i : Nat} {o : Oper} {f : Gh → Fact} {gs : Gh → List Fact} {aft : List Nat} {afts : List (List Nat)} (j : Nat)
    (h : ∀ γ ρ B, Based base ρ → (∀ (k : Nat) (g : Fact) (d : Nat), (fs γ)[k]? = some g → g.d = some d → k ∈ depsOf o → look ρ d = some g.sv) → Guard Bs ops (⟨ρ, chunks (takes i (rs γ)) ++ (chunks (looks i (rs γ)) ++ B), df⟩ : St) o.guard true ∧ OpStep P Bs o (⟨ρ, chunks (takes i (rs γ)) ++ (chunks (looks i (rs γ)) ++ B), df⟩ : St) (setO ⟨ρ, chunks (lays i (rs γ)) ++ (chunks (looks i (rs γ)) ++ B), df⟩ (f γ).d (f γ).sv))
    (t : DSteps P Bs ops base fs rs df j os gs afts) (hj : i + 1 = j := by rfl) (hd : ∀ γ, (f γ).d = o.dst := by exact fun _ => rfl) : DSteps P Bs ops base fs rs df i (o :: os) (fun γ => f γ :: gs γ) (aft :: afts) := DSteps.cons hj hd (.run h) t
theorem dK {base : List (Nat × SV1)} {fs : Gh → List Fact} {rs : Gh → List RE} {df : List Nat} {i : Nat} {o : Oper} {f : Gh → Fact} {gs : Gh → List Fact} {aft : List Nat} {afts : List (List Nat)} (j : Nat)
    (h : ∀ γ ρ B, Based base ρ → (∀ (k : Nat) (g : Fact) (d : Nat), (fs γ)[k]? = some g → g.d = some d → k ∈ depsOf o → look ρ d = some g.sv) → Guard Bs ops (⟨ρ, chunks (takes i (rs γ)) ++ (chunks (looks i (rs γ)) ++ B), df⟩ : St) o.guard false)
    (t : DSteps P Bs ops base fs rs df j os gs afts) (hj : i + 1 = j := by rfl) (hd : ∀ γ, (f γ).d = o.dst := by exact fun _ => rfl) (hl : ∀ γ, chunks (lays i (rs γ)) = chunks (takes i (rs γ)) := by exact fun _ => rfl) (hs : ∀ γ, (f γ).sv = .one .und := by exact fun _ => rfl) (hN : ∀ d, o.dst = some d → d < Bs.N := by exact fun d h => by cases h; exact ltB rfl) : DSteps P Bs ops base fs rs df i (o :: os) (fun γ => f γ :: gs γ) (aft :: afts) :=
  DSteps.cons hj hd (.skip fun γ ρ B hb hdn => ⟨h γ ρ B hb hdn, hl γ, hd γ, hs γ, hN⟩) t
theorem JL.sk {o : Oper} (hg : Guard Bs ops st o.guard false) (h : JL P Bs ops os (setO st o.dst (.one .und)) Q) (hd : ∀ d, o.dst = some d → d < Bs.N := by exact fun d h => by cases h; exact ltB rfl) : JL P Bs ops (o :: os) st Q := JL.skip hg hd h
theorem tl {fs : List Fact} {ρ : List (Nat × SV1)} {o : Oper} {X : List Chunk} {df : List Nat} (hd : ∀ (k : Nat) (g : Fact) (d : Nat), fs[k]? = some g → g.d = some d → k ∈ depsOf o → look ρ d = some g.sv) (k d : Nat) {sv : SV1} (h : fs[k]? = some ⟨some d, sv⟩ := by rfl) (hk : k ∈ depsOf o := by decide +kernel) : HasO (⟨ρ, X, df⟩ : St) (.tmp d) sv := .tmp (hd k _ d h rfl hk)
end
end Go.Proofs.Ytklnihlchhhhlaa.Fw
