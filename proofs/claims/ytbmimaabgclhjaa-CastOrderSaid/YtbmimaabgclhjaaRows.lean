/-
  No cell of these rows narrows 'for every input' (looked for: loops, veiled, ifaces, maps, wideKeys, modest, calm, conditions, laid).
  DERIVED. THE GIVEN ROWS OF THIS SEAT. 5 by the template 'for every input the law returns true; each argument reads behind the call as it read before'; 0 by the template 'total and deterministic' (their statements: YtbmimaabgclhjaaTotals.lean).
  GIVEN WITH THE SEED: the statements are not yours to turn. If you find one false, say at which input.
  Laid BY PROGRAM, IN A SANDBOX (cutbox-rows.mjs): the forced cells as the released guide's own fill.sh prints them over the translation 60f43bbdc6b03c68… (all of the seat's roots in one cut). By AI agents, Wed Nov 11 2026. No macro, syntax, notation, axiom, sorry.
-/
import Derived.Test.YtbmimaabgclhjaaChecked
import GoSem.Claim
import GoSem.ClaimJoined
import GoSem.ClaimMapViews
import Derived.JoinedTies
import Derived.KernelRfl
namespace Go.Proofs.Ytbmimaabgclhjaa
/- THE CELL 'sum', in the pinned program and in every row, IS THE sha256 OF THE DUMP (.gsa) THAT YtbmimaabgclhjaaProg.lean LOADS. Nothing in Lean hashes anything: it is a label: what it is worth is what the hold of that sum in a sandbox is worth. -/
noncomputable def Try.pinned : Pinned := { name := "ytbmimaabgclhjaa", sum := "60f43bbdc6b03c68c0a87cb346eb976df1ed9cfe455c94059d6d6046069ed000", checked := Try.checked }
namespace Rows
def none {H : Type} : Left H := { results := [], args := [] }

/-- 'minsterlaw13.CastOrder': WHATEVER THE INPUT: true; the input reads as it did. -/
def castOrderSpec : ChangeSpec := { name := "castOrder", fn := fun _ => fun
  | [d1, d2, d3] => { results := [.lit (.bool true)], args := [d1, d2, d3] }
  | _ => none }
def castOrderRow : OpenClaim := { program := "ytbmimaabgclhjaa", sum := "60f43bbdc6b03c68c0a87cb346eb976df1ed9cfe455c94059d6d6046069ed000", func := "minster/minsterlaw13.CastOrder", spec := "castOrder", unfollowed := true, recurses := true, plainKeys := false, apart := false }
def CastOrderSaid : Prop := castOrderRow.holds Try.pinned (OpenSpec.ofChange castOrderSpec)

/-- ITS FALSE NEIGHBOUR: 'it returns false'. Refute it at one input. -/
def castOrderWrong : ChangeSpec := { name := "castOrder", fn := fun _ => fun
  | [d1, d2, d3] => { results := [.lit (.bool false)], args := [d1, d2, d3] }
  | _ => none }
def CastOrderWrongFalsely : Prop := castOrderRow.holds Try.pinned (OpenSpec.ofChange castOrderWrong)

/-- 'minsterlaw13.CastMeets': WHATEVER THE INPUT: true; the input reads as it did. -/
def castMeetsSpec : ChangeSpec := { name := "castMeets", fn := fun _ => fun
  | [d1, d2, d3] => { results := [.lit (.bool true)], args := [d1, d2, d3] }
  | _ => none }
def castMeetsRow : OpenClaim := { program := "ytbmimaabgclhjaa", sum := "60f43bbdc6b03c68c0a87cb346eb976df1ed9cfe455c94059d6d6046069ed000", func := "minster/minsterlaw13.CastMeets", spec := "castMeets", unfollowed := true, recurses := true, plainKeys := false, apart := false }
def CastMeetsSaid : Prop := castMeetsRow.holds Try.pinned (OpenSpec.ofChange castMeetsSpec)

/-- ITS FALSE NEIGHBOUR: 'it returns false'. Refute it at one input. -/
def castMeetsWrong : ChangeSpec := { name := "castMeets", fn := fun _ => fun
  | [d1, d2, d3] => { results := [.lit (.bool false)], args := [d1, d2, d3] }
  | _ => none }
def CastMeetsWrongFalsely : Prop := castMeetsRow.holds Try.pinned (OpenSpec.ofChange castMeetsWrong)

/-- 'minsterlaw13.CastPast': WHATEVER THE INPUT: true; the input reads as it did. -/
def castPastSpec : ChangeSpec := { name := "castPast", fn := fun _ => fun
  | [d1, d2] => { results := [.lit (.bool true)], args := [d1, d2] }
  | _ => none }
def castPastRow : OpenClaim := { program := "ytbmimaabgclhjaa", sum := "60f43bbdc6b03c68c0a87cb346eb976df1ed9cfe455c94059d6d6046069ed000", func := "minster/minsterlaw13.CastPast", spec := "castPast", unfollowed := true, recurses := true, plainKeys := false, apart := false }
def CastPastSaid : Prop := castPastRow.holds Try.pinned (OpenSpec.ofChange castPastSpec)

/-- ITS FALSE NEIGHBOUR: 'it returns false'. Refute it at one input. -/
def castPastWrong : ChangeSpec := { name := "castPast", fn := fun _ => fun
  | [d1, d2] => { results := [.lit (.bool false)], args := [d1, d2] }
  | _ => none }
def CastPastWrongFalsely : Prop := castPastRow.holds Try.pinned (OpenSpec.ofChange castPastWrong)

/-- 'minsterlaw13.CastMissing': WHATEVER THE INPUT: true; the input reads as it did. -/
def castMissingSpec : ChangeSpec := { name := "castMissing", fn := fun _ => fun
  | [d1, d2, d3, d4] => { results := [.lit (.bool true)], args := [d1, d2, d3, d4] }
  | _ => none }
def castMissingRow : OpenClaim := { program := "ytbmimaabgclhjaa", sum := "60f43bbdc6b03c68c0a87cb346eb976df1ed9cfe455c94059d6d6046069ed000", func := "minster/minsterlaw13.CastMissing", spec := "castMissing", unfollowed := true, recurses := true, plainKeys := false, apart := false }
def CastMissingSaid : Prop := castMissingRow.holds Try.pinned (OpenSpec.ofChange castMissingSpec)

/-- ITS FALSE NEIGHBOUR: 'it returns false'. Refute it at one input. -/
def castMissingWrong : ChangeSpec := { name := "castMissing", fn := fun _ => fun
  | [d1, d2, d3, d4] => { results := [.lit (.bool false)], args := [d1, d2, d3, d4] }
  | _ => none }
def CastMissingWrongFalsely : Prop := castMissingRow.holds Try.pinned (OpenSpec.ofChange castMissingWrong)

/-- 'minsterlaw13.CastNil': WHATEVER THE INPUT: true; the input reads as it did. -/
def castNilSpec : ChangeSpec := { name := "castNil", fn := fun _ => fun
  | [] => { results := [.lit (.bool true)], args := [] }
  | _ => none }
def castNilRow : OpenClaim := { program := "ytbmimaabgclhjaa", sum := "60f43bbdc6b03c68c0a87cb346eb976df1ed9cfe455c94059d6d6046069ed000", func := "minster/minsterlaw13.CastNil", spec := "castNil", inPlace := ["maps.clone"], unfollowed := true, recurses := true, plainKeys := false, apart := false }
def CastNilSaid : Prop := castNilRow.holds Try.pinned (OpenSpec.ofChange castNilSpec)

/-- ITS FALSE NEIGHBOUR: 'it returns false'. Refute it at one input. -/
def castNilWrong : ChangeSpec := { name := "castNil", fn := fun _ => fun
  | [] => { results := [.lit (.bool false)], args := [] }
  | _ => none }
def CastNilWrongFalsely : Prop := castNilRow.holds Try.pinned (OpenSpec.ofChange castNilWrong)

/- THE SECOND FORM. 'bulk': how many values and letters a reading holds, each counted each time it is reached (what is shared counts as often as it is met; a slice's spare places count too). A statement '..UptoSaid' is the law's where the arguments, and the package variables that the reading takes, are together of bulk at most 1048576: NARROWER than '..Said'. Prove '..Said' where nothing that the law and all that it calls make is longer than what came in: it says more and counts as full. Else prove '..UptoSaid'. A law counts once. -/
mutual
def uptoBulk {H : Type} : DataW H → Nat
  | .lit (.string bytes) => bytes.length + 1
  | .lit _ => 1
  | .nil => 1
  | .ptr d => uptoBulk d + 1
  | .slice elems spare => uptoBulkAll elems + uptoBulkAll spare + 1
  | .agg parts => uptoBulkAll parts + 1
  | .iface _ d => uptoBulk d + 1
  | .map entries => uptoBulkEntries entries + 1
  | .held _ => 1
def uptoBulkAll {H : Type} : List (DataW H) → Nat
  | [] => 0
  | d :: r => uptoBulk d + uptoBulkAll r
def uptoBulkEntries {H : Type} : List (Lit × DataW H) → Nat
  | [] => 0
  | x :: r => uptoBulkEntry x + uptoBulkEntries r
def uptoBulkEntry {H : Type} : Lit × DataW H → Nat
  | (.string bytes, d) => bytes.length + uptoBulk d + 1
  | (_, d) => uptoBulk d + 1
 end
def uptoSmall : (H : Type) → List (DataW H) → Bool := fun _ ds => decide (uptoBulkAll ds ≤ 1048576)
def OpenSpec.upto (s : _root_.Go.ChangeSpec) : _root_.Go.OpenSpec := { _root_.Go.OpenSpec.ofChange s with cond := some uptoSmall }

/-- 'minsterlaw13.CastOrder', WHERE WHAT IT READS IS OF BULK AT MOST 1048576: true; the input reads as it did. -/
def castOrderUptoRow : OpenClaim := { program := "ytbmimaabgclhjaa", sum := "60f43bbdc6b03c68c0a87cb346eb976df1ed9cfe455c94059d6d6046069ed000", func := "minster/minsterlaw13.CastOrder", spec := "castOrder", unfollowed := true, recurses := true, plainKeys := false, apart := false, narrowed := true }
def CastOrderUptoSaid : Prop := castOrderUptoRow.holds Try.pinned (OpenSpec.upto castOrderSpec)

/-- 'minsterlaw13.CastMeets', WHERE WHAT IT READS IS OF BULK AT MOST 1048576: true; the input reads as it did. -/
def castMeetsUptoRow : OpenClaim := { program := "ytbmimaabgclhjaa", sum := "60f43bbdc6b03c68c0a87cb346eb976df1ed9cfe455c94059d6d6046069ed000", func := "minster/minsterlaw13.CastMeets", spec := "castMeets", unfollowed := true, recurses := true, plainKeys := false, apart := false, narrowed := true }
def CastMeetsUptoSaid : Prop := castMeetsUptoRow.holds Try.pinned (OpenSpec.upto castMeetsSpec)

/-- 'minsterlaw13.CastPast', WHERE WHAT IT READS IS OF BULK AT MOST 1048576: true; the input reads as it did. -/
def castPastUptoRow : OpenClaim := { program := "ytbmimaabgclhjaa", sum := "60f43bbdc6b03c68c0a87cb346eb976df1ed9cfe455c94059d6d6046069ed000", func := "minster/minsterlaw13.CastPast", spec := "castPast", unfollowed := true, recurses := true, plainKeys := false, apart := false, narrowed := true }
def CastPastUptoSaid : Prop := castPastUptoRow.holds Try.pinned (OpenSpec.upto castPastSpec)

/-- 'minsterlaw13.CastMissing', WHERE WHAT IT READS IS OF BULK AT MOST 1048576: true; the input reads as it did. -/
def castMissingUptoRow : OpenClaim := { program := "ytbmimaabgclhjaa", sum := "60f43bbdc6b03c68c0a87cb346eb976df1ed9cfe455c94059d6d6046069ed000", func := "minster/minsterlaw13.CastMissing", spec := "castMissing", unfollowed := true, recurses := true, plainKeys := false, apart := false, narrowed := true }
def CastMissingUptoSaid : Prop := castMissingUptoRow.holds Try.pinned (OpenSpec.upto castMissingSpec)

/-- 'minsterlaw13.CastNil', WHERE WHAT IT READS IS OF BULK AT MOST 1048576: true; the input reads as it did. -/
def castNilUptoRow : OpenClaim := { program := "ytbmimaabgclhjaa", sum := "60f43bbdc6b03c68c0a87cb346eb976df1ed9cfe455c94059d6d6046069ed000", func := "minster/minsterlaw13.CastNil", spec := "castNil", inPlace := ["maps.clone"], unfollowed := true, recurses := true, plainKeys := false, apart := false, narrowed := true }
def CastNilUptoSaid : Prop := castNilUptoRow.holds Try.pinned (OpenSpec.upto castNilSpec)

end Rows
end Go.Proofs.Ytbmimaabgclhjaa
