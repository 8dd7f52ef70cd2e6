/- The rows that are known. -/
import Derived.Test.YtbflmobpbjnekaaU
namespace Go.Proofs.Ytbflmobpbjnekaa
open Go Fw
set_option linter.unusedVariables false
set_option linter.unusedSimpArgs false

theorem shaSum (l : List (List UInt8)) (hl : l.length < 4000) (h : l.flatten.length ≤ 200000) : sha_Sum 4000 l = some (SHA l.flatten) := by
  simp only [sha_Sum, bg_sha, shaHash l hl h, Option.bind_some]
theorem shaSumK {k : Nat} (hk : k = 4000) (l : List (List UInt8)) (hl : l.length < 4000) (h : l.flatten.length ≤ 200000) : sha_Sum k l = some (SHA l.flatten) := by rw [hk]; exact shaSum l hl h
end Go.Proofs.Ytbflmobpbjnekaa
