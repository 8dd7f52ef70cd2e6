/- The document's trees; what stands. -/
import Derived.Test.YtbflmobpbjnekaaMc
namespace Go.Proofs.Ytbflmobpbjnekaa
open Go Fw
set_option linter.unusedVariables false
set_option linter.unusedSimpArgs false

theorem root_eq (k : Nat) (t : merkle_Tree) (hi : t.is = true) : merkle_Tree_Root k t = some (t.n.toList.getD 1 z32) := by
  have hn0 : (!t.is) = false := by rw [hi]; rfl
  have i1 : inV 128 (1 : Int) = some ⟨1, by decide⟩ := inV128 1 (by decide)
  simp only [merkle_Tree_Root, there_eq, Option.bind_some, lt1, hn0, Bool.false_eq_true, if_false, i1, getV_getD]
end Go.Proofs.Ytbflmobpbjnekaa
