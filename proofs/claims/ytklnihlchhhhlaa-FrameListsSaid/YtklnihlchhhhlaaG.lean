/- Loops of the commonest kinds, and lists: no program here. -/
import Derived.Test.YtklnihlchhhhlaaFa
import Derived.Test.YtklnihlchhhhlaaFq
namespace Go.Proofs.Ytklnihlchhhhlaa
open Go Fw
set_option linter.unusedVariables false
set_option linter.unusedSimpArgs false

theorem lists_eq {α : Type} {a b : List α} (hl : a.length = b.length) : a = b ↔ ∀ i (h : i < a.length), a[i] = b[i]'(by omega) :=
  ⟨fun h i hi => by subst h; rfl, fun h => List.ext_getElem hl fun i h1 h2 => h i h1⟩
end Go.Proofs.Ytklnihlchhhhlaa
