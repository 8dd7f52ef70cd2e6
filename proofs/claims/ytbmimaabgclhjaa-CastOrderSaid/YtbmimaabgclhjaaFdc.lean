/- Parts of a variable, lent: lists that are told of memory that is frozen for a call alone. -/
import Derived.Test.YtbmimaabgclhjaaFdb
import Derived.Test.YtbmimaabgclhjaaFdp
namespace Go.Proofs.Ytbmimaabgclhjaa.Fw
open Go Go.RowKit
set_option linter.unusedVariables false
set_option linter.unusedSimpArgs false
section
variable {P : Program} {Bs : Base} {st : St} {d : Nat} {ty t t' el : TypeId} {pos : String} {af : Array Edge} {g : Option (Nat × Bool)} {x y z : Operand}
variable {e : Env} {a : Act} {w : World}

/-- Arguments that hold once that is known. -/
def ArgsB (K : Env → Prop) : List VP → List VP → Prop
  | [], [] => True
  | p :: ps, q :: qs => (∀ e v, K e → p.p e v → q.p e v) ∧ ArgsB K ps qs
  | _, _ => False
theorem ArgsB.nil {K : Env → Prop} : ArgsB K [] [] := trivial
theorem ArgsB.cons {K : Env → Prop} {p q : VP} {ps qs : List VP} (h : ∀ e v, K e → p.p e v → q.p e v) (k : ArgsB K ps qs) : ArgsB K (p :: ps) (q :: qs) := ⟨h, k⟩
theorem ArgsB.get {K : Env → Prop} {e : Env} (hK : K e) : ∀ {ps qs : List VP} {vs : List Value}, ArgsB K ps qs → ArgsR e ps vs → ArgsR e qs vs
  | [], [], _, _, h => h
  | p :: ps, q :: qs, [], _, h => by have := h.1; simp at this
  | p :: ps, q :: qs, v :: vs, hb, h => by
    have h1 : ArgsR e ps vs := ⟨by have := h.1; simpa using this, fun i p' hp => by have := h.2 (i + 1) p' (by simpa using hp); simpa using this⟩
    obtain ⟨k1, k2⟩ := ArgsB.get hK hb.2 h1
    refine ⟨by simp [k1], fun i p' hp => ?_⟩
    obtain _ | i := i
    · simp at hp; subst hp; have := h.2 0 p (by simp); exact hb.1 e _ hK (by simpa using this)
    · have := k2 i p' (by simpa using hp)
      simpa using this
  | [], _ :: _, _, h, _ => h.elim
  | _ :: _, [], _, h, _ => h.elim
/-- Readings that do not speak of memory. -/
def EF {T : Type} (r : Rep T) : Prop := ∀ e e' x vs, r.rel e x vs → r.rel e' x vs
theorem EF.u {U : Type} [UK U] : EF (rU U) := fun _ _ _ _ h => h
theorem EF.i {k : IntKind} : EF (rI k) := fun _ _ _ _ h => h
theorem EF.b : EF rB := fun _ _ _ _ h => h
theorem EF.s : EF rS := fun _ _ _ _ h => h
theorem EF.v {T : Type} {n : Nat} {r : Rep T} (h : EF r) : EF (rV n r) := fun e e' x vs ⟨a, b, c⟩ => ⟨a, b, fun i hi => h e e' _ _ (c i hi)⟩
end
end Go.Proofs.Ytbmimaabgclhjaa.Fw
