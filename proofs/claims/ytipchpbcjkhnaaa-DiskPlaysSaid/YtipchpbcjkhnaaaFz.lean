/- Rows that a call has made out of others: their head, if they have no room, is whatever it was. -/
import Derived.Test.YtipchpbcjkhnaaaFw
namespace Go.Proofs.Ytipchpbcjkhnaaa.Fw
open Go Go.RowKit
set_option linter.unusedVariables false
set_option linter.unusedSimpArgs false

def HDE (ob : Option Nat) (n c : Nat) : VP := ⟨fun _ v => ∃ base : Option Addr, v = .slice base n c ∧ (c ≠ 0 → base = ob.map fun b => ⟨b, 0, none⟩), fun _ h => h⟩
instance (ob : Option Nat) (n c : Nat) : OneP (HDE ob n c) := ⟨fun _ _ ⟨_, h, _⟩ => by subst h; rfl⟩
theorem wkTE {ob : Option Nat} {n c : Nat} : ∀ e v, (HDR ob 0 n c).p e v → (HDE ob n c).p e v := fun e v h => ⟨_, h, fun _ => rfl⟩
section
variable {P : Program} {Bs : Base} {st st' : St} {d : Nat} {ty t t' el : TypeId} {pos : String} {af : Array Edge} {g : Option (Nat × Bool)} {x y z : Operand} {Q : Exit → Act → World → Prop} {l : List Oper} {ops : Array Oper}
variable {e : Env} {a : Act} {w : World}
end
end Go.Proofs.Ytipchpbcjkhnaaa.Fw
