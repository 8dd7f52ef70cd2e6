/- Rows that a call has made out of others: their head, if they have no room, is whatever it was. -/
import Derived.Test.YtbmimaabgclhjaaFw
namespace Go.Proofs.Ytbmimaabgclhjaa.Fw
open Go Go.RowKit
set_option linter.unusedVariables false
set_option linter.unusedSimpArgs false

/-- A row's head; without room it may point anywhere. -/
def HDE (ob : Option Nat) (n c : Nat) : VP := ⟨fun _ v => ∃ base : Option Addr, v = .slice base n c ∧ (c ≠ 0 → base = ob.map fun b => ⟨b, 0, none⟩), fun _ h => h⟩
instance (ob : Option Nat) (n c : Nat) : OneP (HDE ob n c) := ⟨fun _ _ ⟨_, h, _⟩ => by subst h; rfl⟩
section
variable {P : Program} {Bs : Base} {st st' : St} {d : Nat} {ty t t' el : TypeId} {pos : String} {af : Array Edge} {g : Option (Nat × Bool)} {x y z : Operand} {Q : Exit → Act → World → Prop} {l : List Oper} {ops : Array Oper}
variable {e : Env} {a : Act} {w : World}
end
end Go.Proofs.Ytbmimaabgclhjaa.Fw
