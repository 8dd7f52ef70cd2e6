/-
  No cell of these rows narrows 'for every input' (looked for: loops, veiled, ifaces, maps, wideKeys, modest, calm, conditions, laid).
  DERIVED. THE GIVEN ROWS OF THIS SEAT. 3 by the template 'for every input the law returns true; each argument reads behind the call as it read before'; 0 by the template 'total and deterministic' (their statements: YtnhiiabdoichlaaTotals.lean).
  GIVEN WITH THE SEED: the statements are not yours to turn. If you find one false, say at which input.
  Laid BY PROGRAM, IN A SANDBOX (cutbox-rows.mjs): the forced cells as the released guide's own fill.sh prints them over the translation b16a633c267290f4… (all of the seat's roots in one cut). By AI agents, Wed Nov 11 2026. No macro, syntax, notation, axiom, sorry.
-/
import Derived.Test.YtnhiiabdoichlaaChecked
import GoSem.Claim
import GoSem.ClaimJoined
import GoSem.ClaimMapViews
import Derived.JoinedTies
import Derived.KernelRfl
namespace Go.Proofs.Ytnhiiabdoichlaa
/- THE CELL 'sum', in the pinned program and in every row, IS THE sha256 OF THE DUMP (.gsa) THAT YtnhiiabdoichlaaProg.lean LOADS. Nothing in Lean hashes anything: it is a label: what it is worth is what the hold of that sum in a sandbox is worth. -/
noncomputable def Try.pinned : Pinned := { name := "ytnhiiabdoichlaa", sum := "b16a633c267290f42835b63ebef5dd68f732d57d05268d221f02cf9188b68630", checked := Try.checked }
namespace Rows
def none {H : Type} : Left H := { results := [], args := [] }

/-- 'minsterlaw10.CursorApart': WHATEVER THE INPUT: true; the input reads as it did. -/
def cursorApartSpec : ChangeSpec := { name := "cursorApart", fn := fun _ => fun
  | [d1, d2, d3, d4] => { results := [.lit (.bool true)], args := [d1, d2, d3, d4] }
  | _ => none }
def cursorApartRow : OpenClaim := { program := "ytnhiiabdoichlaa", sum := "b16a633c267290f42835b63ebef5dd68f732d57d05268d221f02cf9188b68630", func := "minster/minsterlaw10.CursorApart", spec := "cursorApart", inPlace := ["math/bits.Add64"], unfollowed := true, recurses := true, apart := false }
def CursorApartSaid : Prop := cursorApartRow.holds Try.pinned (OpenSpec.ofChange cursorApartSpec)

/-- ITS FALSE NEIGHBOUR: 'it returns false'. Refute it at one input. -/
def cursorApartWrong : ChangeSpec := { name := "cursorApart", fn := fun _ => fun
  | [d1, d2, d3, d4] => { results := [.lit (.bool false)], args := [d1, d2, d3, d4] }
  | _ => none }
def CursorApartWrongFalsely : Prop := cursorApartRow.holds Try.pinned (OpenSpec.ofChange cursorApartWrong)

/-- 'minsterlaw10.CursorBytes': WHATEVER THE INPUT: true; the input reads as it did. -/
def cursorBytesSpec : ChangeSpec := { name := "cursorBytes", fn := fun _ => fun
  | [d1, d2, d3, d4, d5] => { results := [.lit (.bool true)], args := [d1, d2, d3, d4, d5] }
  | _ => none }
def cursorBytesRow : OpenClaim := { program := "ytnhiiabdoichlaa", sum := "b16a633c267290f42835b63ebef5dd68f732d57d05268d221f02cf9188b68630", func := "minster/minsterlaw10.CursorBytes", spec := "cursorBytes", inPlace := ["math/bits.Add64"], unfollowed := true, recurses := true, apart := false }
def CursorBytesSaid : Prop := cursorBytesRow.holds Try.pinned (OpenSpec.ofChange cursorBytesSpec)

/-- ITS FALSE NEIGHBOUR: 'it returns false'. Refute it at one input. -/
def cursorBytesWrong : ChangeSpec := { name := "cursorBytes", fn := fun _ => fun
  | [d1, d2, d3, d4, d5] => { results := [.lit (.bool false)], args := [d1, d2, d3, d4, d5] }
  | _ => none }
def CursorBytesWrongFalsely : Prop := cursorBytesRow.holds Try.pinned (OpenSpec.ofChange cursorBytesWrong)

/-- 'minsterlaw10.CursorJoins': WHATEVER THE INPUT: true; the input reads as it did. -/
def cursorJoinsSpec : ChangeSpec := { name := "cursorJoins", fn := fun _ => fun
  | [d1, d2, d3] => { results := [.lit (.bool true)], args := [d1, d2, d3] }
  | _ => none }
def cursorJoinsRow : OpenClaim := { program := "ytnhiiabdoichlaa", sum := "b16a633c267290f42835b63ebef5dd68f732d57d05268d221f02cf9188b68630", func := "minster/minsterlaw10.CursorJoins", spec := "cursorJoins", inPlace := ["math/bits.Add64"], unfollowed := true, recurses := true, apart := false }
def CursorJoinsSaid : Prop := cursorJoinsRow.holds Try.pinned (OpenSpec.ofChange cursorJoinsSpec)

/-- ITS FALSE NEIGHBOUR: 'it returns false'. Refute it at one input. -/
def cursorJoinsWrong : ChangeSpec := { name := "cursorJoins", fn := fun _ => fun
  | [d1, d2, d3] => { results := [.lit (.bool false)], args := [d1, d2, d3] }
  | _ => none }
def CursorJoinsWrongFalsely : Prop := cursorJoinsRow.holds Try.pinned (OpenSpec.ofChange cursorJoinsWrong)

/- THE SECOND FORM. 'bulk': how many values and letters a reading holds, each counted each time it is reached (what is shared counts as often as it is met; a slice's spare places count too). A statement '..UptoSaid' is the law's where the arguments, and the package variables that the reading takes, are together of bulk at most 1048576: NARROWER than '..Said'. Prove '..Said' where nothing that the law and all that it calls make is longer than what came in: it says more and counts as full. Else prove '..UptoSaid'. A law counts once. -/
mutual
def uptoBulk {H : Type} : DataW H → Nat
  | .lit (.string bytes) => bytes.length + 1
  | .lit _ => 1
  | .nil => 1
  | .ptr d => uptoBulk d + 1
  | .slice elems spare => uptoBulkAll elems + uptoBulkAll spare + 1
  | .agg parts => uptoBulkAll parts + 1
  | .iface _ d => uptoBulk d + 1
  | .map entries => uptoBulkEntries entries + 1
  | .held _ => 1
def uptoBulkAll {H : Type} : List (DataW H) → Nat
  | [] => 0
  | d :: r => uptoBulk d + uptoBulkAll r
def uptoBulkEntries {H : Type} : List (Lit × DataW H) → Nat
  | [] => 0
  | x :: r => uptoBulkEntry x + uptoBulkEntries r
def uptoBulkEntry {H : Type} : Lit × DataW H → Nat
  | (.string bytes, d) => bytes.length + uptoBulk d + 1
  | (_, d) => uptoBulk d + 1
 end
def uptoSmall : (H : Type) → List (DataW H) → Bool := fun _ ds => decide (uptoBulkAll ds ≤ 1048576)
def OpenSpec.upto (s : _root_.Go.ChangeSpec) : _root_.Go.OpenSpec := { _root_.Go.OpenSpec.ofChange s with cond := some uptoSmall }

/-- 'minsterlaw10.CursorApart', WHERE WHAT IT READS IS OF BULK AT MOST 1048576: true; the input reads as it did. -/
def cursorApartUptoRow : OpenClaim := { program := "ytnhiiabdoichlaa", sum := "b16a633c267290f42835b63ebef5dd68f732d57d05268d221f02cf9188b68630", func := "minster/minsterlaw10.CursorApart", spec := "cursorApart", inPlace := ["math/bits.Add64"], unfollowed := true, recurses := true, apart := false, narrowed := true }
def CursorApartUptoSaid : Prop := cursorApartUptoRow.holds Try.pinned (OpenSpec.upto cursorApartSpec)

/-- 'minsterlaw10.CursorBytes', WHERE WHAT IT READS IS OF BULK AT MOST 1048576: true; the input reads as it did. -/
def cursorBytesUptoRow : OpenClaim := { program := "ytnhiiabdoichlaa", sum := "b16a633c267290f42835b63ebef5dd68f732d57d05268d221f02cf9188b68630", func := "minster/minsterlaw10.CursorBytes", spec := "cursorBytes", inPlace := ["math/bits.Add64"], unfollowed := true, recurses := true, apart := false, narrowed := true }
def CursorBytesUptoSaid : Prop := cursorBytesUptoRow.holds Try.pinned (OpenSpec.upto cursorBytesSpec)

/-- 'minsterlaw10.CursorJoins', WHERE WHAT IT READS IS OF BULK AT MOST 1048576: true; the input reads as it did. -/
def cursorJoinsUptoRow : OpenClaim := { program := "ytnhiiabdoichlaa", sum := "b16a633c267290f42835b63ebef5dd68f732d57d05268d221f02cf9188b68630", func := "minster/minsterlaw10.CursorJoins", spec := "cursorJoins", inPlace := ["math/bits.Add64"], unfollowed := true, recurses := true, apart := false, narrowed := true }
def CursorJoinsUptoSaid : Prop := cursorJoinsUptoRow.holds Try.pinned (OpenSpec.upto cursorJoinsSpec)

end Rows
end Go.Proofs.Ytnhiiabdoichlaa
