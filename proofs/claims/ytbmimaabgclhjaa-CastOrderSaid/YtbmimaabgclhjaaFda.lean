/- Parts of a row that are put behind its beginning (slices.Delete). -/
import Derived.Test.YtbmimaabgclhjaaFs
namespace Go.Proofs.Ytbmimaabgclhjaa.Fw
open Go Go.RowKit
set_option linter.unusedVariables false
set_option linter.unusedSimpArgs false

section
variable {P : Program} {Bs : Base} {st st' : St} {d : Nat} {ty t t' el : TypeId} {pos : String} {af : Array Edge} {g : Option (Nat × Bool)} {x y z : Operand} {Q : Exit → Act → World → Prop} {l : List Oper} {ops : Array Oper} {os : List Oper}
variable {e : Env} {a : Act} {w : World}
end
end Go.Proofs.Ytbmimaabgclhjaa.Fw
