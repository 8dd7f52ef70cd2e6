/- What calls with constants come to (the walks lean on it). -/
import Derived.Test.YtklnihlchhhhlaaGreatFa
import Derived.Test.YtklnihlchhhhlaaGreatFq
import Derived.Test.YtklnihlchhhhlaaGreatS
namespace Go.Proofs.YtklnihlchhhhlaaGreat
open Go Fw
set_option linter.unusedVariables false
set_option linter.unusedSimpArgs false

theorem get0 (k : Nat) : wire_Get k ([] : List UInt8) = some ((0 : UInt64), (2 : Int)) := by
  simp [wire_Get, lt1]
end Go.Proofs.YtklnihlchhhhlaaGreat
