/- Views: heads that point into the middle of a row. -/
import Derived.Test.YtbmimaabgclhjaaFz
namespace Go.Proofs.Ytbmimaabgclhjaa.Fw
open Go Go.RowKit
set_option linter.unusedVariables false
set_option linter.unusedSimpArgs false

/-- A head into a row: so many elements from there on; without elements it may point anywhere. -/
def HDX (ob : Option Nat) (off n : Nat) : VP := ⟨fun _ v => ∃ (base : Option Addr) (c : Nat), v = .slice base n c ∧ n ≤ c ∧ (n ≠ 0 → ∃ b, ob = some b ∧ base = some ⟨b, off, none⟩), fun _ h => h⟩
instance (ob : Option Nat) (off n : Nat) : OneP (HDX ob off n) := ⟨fun _ _ ⟨_, _, h, _⟩ => by subst h; rfl⟩
section
variable {P : Program} {Bs : Base} {st st' : St} {d : Nat} {ty t t' el : TypeId} {pos : String} {af : Array Edge} {g : Option (Nat × Bool)} {x y z : Operand} {Q : Exit → Act → World → Prop} {l : List Oper} {ops : Array Oper}
variable {e : Env} {a : Act} {w : World}
end
end Go.Proofs.Ytbmimaabgclhjaa.Fw
