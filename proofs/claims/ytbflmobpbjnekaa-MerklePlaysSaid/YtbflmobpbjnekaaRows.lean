/-
  No cell of these rows narrows 'for every input' (looked for: loops, veiled, ifaces, maps, wideKeys, modest, calm, conditions, laid).
  DERIVED. THE GIVEN ROWS OF THIS SEAT. 4 by the template 'for every input the law returns true; each argument reads behind the call as it read before'; 0 by the template 'total and deterministic' (their statements: YtbflmobpbjnekaaTotals.lean).
  GIVEN WITH THE SEED: the statements are not yours to turn. If you find one false, say at which input.
  Laid BY PROGRAM, IN A SANDBOX (cutbox-rows.mjs): the forced cells as the released guide's own fill.sh prints them over the translation 3bd2860659eab384… (all of the seat's roots in one cut). By AI agents, Wed Nov 11 2026. No macro, syntax, notation, axiom, sorry.
-/
import Derived.Test.YtbflmobpbjnekaaChecked
import GoSem.Claim
import GoSem.ClaimJoined
import GoSem.ClaimMapViews
import Derived.JoinedTies
import Derived.KernelRfl
namespace Go.Proofs.Ytbflmobpbjnekaa
/- THE CELL 'sum', in the pinned program and in every row, IS THE sha256 OF THE DUMP (.gsa) THAT YtbflmobpbjnekaaProg.lean LOADS. Nothing in Lean hashes anything: it is a label: what it is worth is what the hold of that sum in a sandbox is worth. -/
noncomputable def Try.pinned : Pinned := { name := "ytbflmobpbjnekaa", sum := "3bd2860659eab384e61879ad4332661cd4ac1a1d217f82ba41a25a6c9aefed5f", checked := Try.checked }
namespace Rows
def none {H : Type} : Left H := { results := [], args := [] }

/-- 'minsterlaw08.MerkleOf': WHATEVER THE INPUT: true; the input reads as it did. -/
def merkleOfSpec : ChangeSpec := { name := "merkleOf", fn := fun _ => fun
  | [d] => { results := [.lit (.bool true)], args := [d] }
  | _ => none }
def merkleOfRow : OpenClaim := { program := "ytbflmobpbjnekaa", sum := "3bd2860659eab384e61879ad4332661cd4ac1a1d217f82ba41a25a6c9aefed5f", func := "minster/minsterlaw08.MerkleOf", spec := "merkleOf", inPlace := ["math/bits.Add64"], unfollowed := true, recurses := true, apart := false }
def MerkleOfSaid : Prop := merkleOfRow.holds Try.pinned (OpenSpec.ofChange merkleOfSpec)

/-- ITS FALSE NEIGHBOUR: 'it returns false'. Refute it at one input. -/
def merkleOfWrong : ChangeSpec := { name := "merkleOf", fn := fun _ => fun
  | [d] => { results := [.lit (.bool false)], args := [d] }
  | _ => none }
def MerkleOfWrongFalsely : Prop := merkleOfRow.holds Try.pinned (OpenSpec.ofChange merkleOfWrong)

/-- 'minsterlaw08.MerklePaths': WHATEVER THE INPUT: true; the input reads as it did. -/
def merklePathsSpec : ChangeSpec := { name := "merklePaths", fn := fun _ => fun
  | [d1, d2] => { results := [.lit (.bool true)], args := [d1, d2] }
  | _ => none }
def merklePathsRow : OpenClaim := { program := "ytbflmobpbjnekaa", sum := "3bd2860659eab384e61879ad4332661cd4ac1a1d217f82ba41a25a6c9aefed5f", func := "minster/minsterlaw08.MerklePaths", spec := "merklePaths", inPlace := ["math/bits.Add64"], unfollowed := true, recurses := true, apart := false }
def MerklePathsSaid : Prop := merklePathsRow.holds Try.pinned (OpenSpec.ofChange merklePathsSpec)

/-- ITS FALSE NEIGHBOUR: 'it returns false'. Refute it at one input. -/
def merklePathsWrong : ChangeSpec := { name := "merklePaths", fn := fun _ => fun
  | [d1, d2] => { results := [.lit (.bool false)], args := [d1, d2] }
  | _ => none }
def MerklePathsWrongFalsely : Prop := merklePathsRow.holds Try.pinned (OpenSpec.ofChange merklePathsWrong)

/-- 'minsterlaw08.MerklePlays': WHATEVER THE INPUT: true; the input reads as it did. -/
def merklePlaysSpec : ChangeSpec := { name := "merklePlays", fn := fun _ => fun
  | [d1, d2] => { results := [.lit (.bool true)], args := [d1, d2] }
  | _ => none }
def merklePlaysRow : OpenClaim := { program := "ytbflmobpbjnekaa", sum := "3bd2860659eab384e61879ad4332661cd4ac1a1d217f82ba41a25a6c9aefed5f", func := "minster/minsterlaw08.MerklePlays", spec := "merklePlays", inPlace := ["math/bits.Add64"], unfollowed := true, recurses := true, apart := false }
def MerklePlaysSaid : Prop := merklePlaysRow.holds Try.pinned (OpenSpec.ofChange merklePlaysSpec)

/-- ITS FALSE NEIGHBOUR: 'it returns false'. Refute it at one input. -/
def merklePlaysWrong : ChangeSpec := { name := "merklePlays", fn := fun _ => fun
  | [d1, d2] => { results := [.lit (.bool false)], args := [d1, d2] }
  | _ => none }
def MerklePlaysWrongFalsely : Prop := merklePlaysRow.holds Try.pinned (OpenSpec.ofChange merklePlaysWrong)

/-- 'minsterlaw08.MerkleNil': WHATEVER THE INPUT: true; the input reads as it did. -/
def merkleNilSpec : ChangeSpec := { name := "merkleNil", fn := fun _ => fun
  | [] => { results := [.lit (.bool true)], args := [] }
  | _ => none }
def merkleNilRow : OpenClaim := { program := "ytbflmobpbjnekaa", sum := "3bd2860659eab384e61879ad4332661cd4ac1a1d217f82ba41a25a6c9aefed5f", func := "minster/minsterlaw08.MerkleNil", spec := "merkleNil", inPlace := ["math/bits.Add64"], unfollowed := true, recurses := true, apart := false }
def MerkleNilSaid : Prop := merkleNilRow.holds Try.pinned (OpenSpec.ofChange merkleNilSpec)

/-- ITS FALSE NEIGHBOUR: 'it returns false'. Refute it at one input. -/
def merkleNilWrong : ChangeSpec := { name := "merkleNil", fn := fun _ => fun
  | [] => { results := [.lit (.bool false)], args := [] }
  | _ => none }
def MerkleNilWrongFalsely : Prop := merkleNilRow.holds Try.pinned (OpenSpec.ofChange merkleNilWrong)

/- THE SECOND FORM. 'bulk': how many values and letters a reading holds, each counted each time it is reached (what is shared counts as often as it is met; a slice's spare places count too). A statement '..UptoSaid' is the law's where the arguments, and the package variables that the reading takes, are together of bulk at most 1048576: NARROWER than '..Said'. Prove '..Said' where nothing that the law and all that it calls make is longer than what came in: it says more and counts as full. Else prove '..UptoSaid'. A law counts once. -/
mutual
def uptoBulk {H : Type} : DataW H → Nat
  | .lit (.string bytes) => bytes.length + 1
  | .lit _ => 1
  | .nil => 1
  | .ptr d => uptoBulk d + 1
  | .slice elems spare => uptoBulkAll elems + uptoBulkAll spare + 1
  | .agg parts => uptoBulkAll parts + 1
  | .iface _ d => uptoBulk d + 1
  | .map entries => uptoBulkEntries entries + 1
  | .held _ => 1
def uptoBulkAll {H : Type} : List (DataW H) → Nat
  | [] => 0
  | d :: r => uptoBulk d + uptoBulkAll r
def uptoBulkEntries {H : Type} : List (Lit × DataW H) → Nat
  | [] => 0
  | x :: r => uptoBulkEntry x + uptoBulkEntries r
def uptoBulkEntry {H : Type} : Lit × DataW H → Nat
  | (.string bytes, d) => bytes.length + uptoBulk d + 1
  | (_, d) => uptoBulk d + 1
 end
def uptoSmall : (H : Type) → List (DataW H) → Bool := fun _ ds => decide (uptoBulkAll ds ≤ 1048576)
def OpenSpec.upto (s : _root_.Go.ChangeSpec) : _root_.Go.OpenSpec := { _root_.Go.OpenSpec.ofChange s with cond := some uptoSmall }

/-- 'minsterlaw08.MerkleOf', WHERE WHAT IT READS IS OF BULK AT MOST 1048576: true; the input reads as it did. -/
def merkleOfUptoRow : OpenClaim := { program := "ytbflmobpbjnekaa", sum := "3bd2860659eab384e61879ad4332661cd4ac1a1d217f82ba41a25a6c9aefed5f", func := "minster/minsterlaw08.MerkleOf", spec := "merkleOf", inPlace := ["math/bits.Add64"], unfollowed := true, recurses := true, apart := false, narrowed := true }
def MerkleOfUptoSaid : Prop := merkleOfUptoRow.holds Try.pinned (OpenSpec.upto merkleOfSpec)

/-- 'minsterlaw08.MerklePaths', WHERE WHAT IT READS IS OF BULK AT MOST 1048576: true; the input reads as it did. -/
def merklePathsUptoRow : OpenClaim := { program := "ytbflmobpbjnekaa", sum := "3bd2860659eab384e61879ad4332661cd4ac1a1d217f82ba41a25a6c9aefed5f", func := "minster/minsterlaw08.MerklePaths", spec := "merklePaths", inPlace := ["math/bits.Add64"], unfollowed := true, recurses := true, apart := false, narrowed := true }
def MerklePathsUptoSaid : Prop := merklePathsUptoRow.holds Try.pinned (OpenSpec.upto merklePathsSpec)

/-- 'minsterlaw08.MerklePlays', WHERE WHAT IT READS IS OF BULK AT MOST 1048576: true; the input reads as it did. -/
def merklePlaysUptoRow : OpenClaim := { program := "ytbflmobpbjnekaa", sum := "3bd2860659eab384e61879ad4332661cd4ac1a1d217f82ba41a25a6c9aefed5f", func := "minster/minsterlaw08.MerklePlays", spec := "merklePlays", inPlace := ["math/bits.Add64"], unfollowed := true, recurses := true, apart := false, narrowed := true }
def MerklePlaysUptoSaid : Prop := merklePlaysUptoRow.holds Try.pinned (OpenSpec.upto merklePlaysSpec)

/-- 'minsterlaw08.MerkleNil', WHERE WHAT IT READS IS OF BULK AT MOST 1048576: true; the input reads as it did. -/
def merkleNilUptoRow : OpenClaim := { program := "ytbflmobpbjnekaa", sum := "3bd2860659eab384e61879ad4332661cd4ac1a1d217f82ba41a25a6c9aefed5f", func := "minster/minsterlaw08.MerkleNil", spec := "merkleNil", inPlace := ["math/bits.Add64"], unfollowed := true, recurses := true, apart := false, narrowed := true }
def MerkleNilUptoSaid : Prop := merkleNilUptoRow.holds Try.pinned (OpenSpec.upto merkleNilSpec)

end Rows
end Go.Proofs.Ytbflmobpbjnekaa
