/-
  No cell of these rows narrows 'for every input' (looked for: loops, veiled, ifaces, maps, wideKeys, modest, calm, conditions, laid).
  DERIVED. THE GIVEN ROWS OF THIS SEAT. 5 by the template 'for every input the law returns true; each argument reads behind the call as it read before'; 0 by the template 'total and deterministic' (their statements: YtklnihlchhhhlaaGreatTotals.lean).
  GIVEN WITH THE SEED: the statements are not yours to turn. If you find one false, say at which input.
  Laid BY PROGRAM, IN A SANDBOX (cutbox-rows.mjs): the forced cells as the released guide's own fill.sh prints them over the translation d2216f979b7ca0d0… (all of the seat's roots in one cut). By AI agents, Wed Nov 11 2026. No macro, syntax, notation, axiom, sorry.
-/
import Derived.Test.YtklnihlchhhhlaaGreatChecked
import GoSem.Claim
import GoSem.ClaimJoined
import GoSem.ClaimMapViews
import Derived.JoinedTies
import Derived.KernelRfl
namespace Go.Proofs.YtklnihlchhhhlaaGreat
/- THE CELL 'sum', in the pinned program and in every row, IS THE sha256 OF THE DUMP (.gsa) THAT YtklnihlchhhhlaaGreatProg.lean LOADS. Nothing in Lean hashes anything: it is a label: what it is worth is what the hold of that sum in a sandbox is worth. -/
noncomputable def Tryz.pinned : Pinned := { name := "ytklnihlchhhhlaagreat", sum := "d2216f979b7ca0d0336041210ff4c166649aaf67eb0b85c2371f53b00b004b15", checked := Tryz.checked }
namespace Rows
def none {H : Type} : Left H := { results := [], args := [] }

/-- 'minsterlaw11.FrameBytes': WHATEVER THE INPUT: true; the input reads as it did. -/
def frameBytesSpec : ChangeSpec := { name := "frameBytes", fn := fun _ => fun
  | [d] => { results := [.lit (.bool true)], args := [d] }
  | _ => none }
def frameBytesRow : OpenClaim := { program := "ytklnihlchhhhlaagreat", sum := "d2216f979b7ca0d0336041210ff4c166649aaf67eb0b85c2371f53b00b004b15", func := "minster/minsterlaw11.FrameBytes", spec := "frameBytes", unfollowed := true, recurses := true, apart := false }
def FrameBytesSaid : Prop := frameBytesRow.holds Tryz.pinned (OpenSpec.ofChange frameBytesSpec)

/-- ITS FALSE NEIGHBOUR: 'it returns false'. Refute it at one input. -/
def frameBytesWrong : ChangeSpec := { name := "frameBytes", fn := fun _ => fun
  | [d] => { results := [.lit (.bool false)], args := [d] }
  | _ => none }
def FrameBytesWrongFalsely : Prop := frameBytesRow.holds Tryz.pinned (OpenSpec.ofChange frameBytesWrong)

/-- 'minsterlaw11.FrameReads': WHATEVER THE INPUT: true; the input reads as it did. -/
def frameReadsSpec : ChangeSpec := { name := "frameReads", fn := fun _ => fun
  | [d] => { results := [.lit (.bool true)], args := [d] }
  | _ => none }
def frameReadsRow : OpenClaim := { program := "ytklnihlchhhhlaagreat", sum := "d2216f979b7ca0d0336041210ff4c166649aaf67eb0b85c2371f53b00b004b15", func := "minster/minsterlaw11.FrameReads", spec := "frameReads", unfollowed := true, recurses := true, apart := false }
def FrameReadsSaid : Prop := frameReadsRow.holds Tryz.pinned (OpenSpec.ofChange frameReadsSpec)

/-- ITS FALSE NEIGHBOUR: 'it returns false'. Refute it at one input. -/
def frameReadsWrong : ChangeSpec := { name := "frameReads", fn := fun _ => fun
  | [d] => { results := [.lit (.bool false)], args := [d] }
  | _ => none }
def FrameReadsWrongFalsely : Prop := frameReadsRow.holds Tryz.pinned (OpenSpec.ofChange frameReadsWrong)

/-- 'minsterlaw11.FrameMeans': WHATEVER THE INPUT: true; the input reads as it did. -/
def frameMeansSpec : ChangeSpec := { name := "frameMeans", fn := fun _ => fun
  | [d1, d2] => { results := [.lit (.bool true)], args := [d1, d2] }
  | _ => none }
def frameMeansRow : OpenClaim := { program := "ytklnihlchhhhlaagreat", sum := "d2216f979b7ca0d0336041210ff4c166649aaf67eb0b85c2371f53b00b004b15", func := "minster/minsterlaw11.FrameMeans", spec := "frameMeans", unfollowed := true, recurses := true, apart := false }
def FrameMeansSaid : Prop := frameMeansRow.holds Tryz.pinned (OpenSpec.ofChange frameMeansSpec)

/-- ITS FALSE NEIGHBOUR: 'it returns false'. Refute it at one input. -/
def frameMeansWrong : ChangeSpec := { name := "frameMeans", fn := fun _ => fun
  | [d1, d2] => { results := [.lit (.bool false)], args := [d1, d2] }
  | _ => none }
def FrameMeansWrongFalsely : Prop := frameMeansRow.holds Tryz.pinned (OpenSpec.ofChange frameMeansWrong)

/-- 'minsterlaw11.FrameKinds': WHATEVER THE INPUT: true; the input reads as it did. -/
def frameKindsSpec : ChangeSpec := { name := "frameKinds", fn := fun _ => fun
  | [d1, d2] => { results := [.lit (.bool true)], args := [d1, d2] }
  | _ => none }
def frameKindsRow : OpenClaim := { program := "ytklnihlchhhhlaagreat", sum := "d2216f979b7ca0d0336041210ff4c166649aaf67eb0b85c2371f53b00b004b15", func := "minster/minsterlaw11.FrameKinds", spec := "frameKinds", unfollowed := true, recurses := true, apart := false }
def FrameKindsSaid : Prop := frameKindsRow.holds Tryz.pinned (OpenSpec.ofChange frameKindsSpec)

/-- ITS FALSE NEIGHBOUR: 'it returns false'. Refute it at one input. -/
def frameKindsWrong : ChangeSpec := { name := "frameKinds", fn := fun _ => fun
  | [d1, d2] => { results := [.lit (.bool false)], args := [d1, d2] }
  | _ => none }
def FrameKindsWrongFalsely : Prop := frameKindsRow.holds Tryz.pinned (OpenSpec.ofChange frameKindsWrong)

/-- 'minsterlaw11.FrameLooks': WHATEVER THE INPUT: true; the input reads as it did. -/
def frameLooksSpec : ChangeSpec := { name := "frameLooks", fn := fun _ => fun
  | [d1, d2, d3] => { results := [.lit (.bool true)], args := [d1, d2, d3] }
  | _ => none }
def frameLooksRow : OpenClaim := { program := "ytklnihlchhhhlaagreat", sum := "d2216f979b7ca0d0336041210ff4c166649aaf67eb0b85c2371f53b00b004b15", func := "minster/minsterlaw11.FrameLooks", spec := "frameLooks", unfollowed := true, recurses := true, apart := false }
def FrameLooksSaid : Prop := frameLooksRow.holds Tryz.pinned (OpenSpec.ofChange frameLooksSpec)

/-- ITS FALSE NEIGHBOUR: 'it returns false'. Refute it at one input. -/
def frameLooksWrong : ChangeSpec := { name := "frameLooks", fn := fun _ => fun
  | [d1, d2, d3] => { results := [.lit (.bool false)], args := [d1, d2, d3] }
  | _ => none }
def FrameLooksWrongFalsely : Prop := frameLooksRow.holds Tryz.pinned (OpenSpec.ofChange frameLooksWrong)

/- THE SECOND FORM. 'bulk': how many values and letters a reading holds, each counted each time it is reached (what is shared counts as often as it is met; a slice's spare places count too). A statement '..UptoSaid' is the law's where the arguments, and the package variables that the reading takes, are together of bulk at most 1048576: NARROWER than '..Said'. Prove '..Said' where nothing that the law and all that it calls make is longer than what came in: it says more and counts as full. Else prove '..UptoSaid'. A law counts once. -/
mutual
def uptoBulk {H : Type} : DataW H → Nat
  | .lit (.string bytes) => bytes.length + 1
  | .lit _ => 1
  | .nil => 1
  | .ptr d => uptoBulk d + 1
  | .slice elems spare => uptoBulkAll elems + uptoBulkAll spare + 1
  | .agg parts => uptoBulkAll parts + 1
  | .iface _ d => uptoBulk d + 1
  | .map entries => uptoBulkEntries entries + 1
  | .held _ => 1
def uptoBulkAll {H : Type} : List (DataW H) → Nat
  | [] => 0
  | d :: r => uptoBulk d + uptoBulkAll r
def uptoBulkEntries {H : Type} : List (Lit × DataW H) → Nat
  | [] => 0
  | x :: r => uptoBulkEntry x + uptoBulkEntries r
def uptoBulkEntry {H : Type} : Lit × DataW H → Nat
  | (.string bytes, d) => bytes.length + uptoBulk d + 1
  | (_, d) => uptoBulk d + 1
 end
def uptoSmall : (H : Type) → List (DataW H) → Bool := fun _ ds => decide (uptoBulkAll ds ≤ 1048576)
def OpenSpec.upto (s : _root_.Go.ChangeSpec) : _root_.Go.OpenSpec := { _root_.Go.OpenSpec.ofChange s with cond := some uptoSmall }

/-- 'minsterlaw11.FrameBytes', WHERE WHAT IT READS IS OF BULK AT MOST 1048576: true; the input reads as it did. -/
def frameBytesUptoRow : OpenClaim := { program := "ytklnihlchhhhlaagreat", sum := "d2216f979b7ca0d0336041210ff4c166649aaf67eb0b85c2371f53b00b004b15", func := "minster/minsterlaw11.FrameBytes", spec := "frameBytes", unfollowed := true, recurses := true, apart := false, narrowed := true }
def FrameBytesUptoSaid : Prop := frameBytesUptoRow.holds Tryz.pinned (OpenSpec.upto frameBytesSpec)

/-- 'minsterlaw11.FrameReads', WHERE WHAT IT READS IS OF BULK AT MOST 1048576: true; the input reads as it did. -/
def frameReadsUptoRow : OpenClaim := { program := "ytklnihlchhhhlaagreat", sum := "d2216f979b7ca0d0336041210ff4c166649aaf67eb0b85c2371f53b00b004b15", func := "minster/minsterlaw11.FrameReads", spec := "frameReads", unfollowed := true, recurses := true, apart := false, narrowed := true }
def FrameReadsUptoSaid : Prop := frameReadsUptoRow.holds Tryz.pinned (OpenSpec.upto frameReadsSpec)

/-- 'minsterlaw11.FrameMeans', WHERE WHAT IT READS IS OF BULK AT MOST 1048576: true; the input reads as it did. -/
def frameMeansUptoRow : OpenClaim := { program := "ytklnihlchhhhlaagreat", sum := "d2216f979b7ca0d0336041210ff4c166649aaf67eb0b85c2371f53b00b004b15", func := "minster/minsterlaw11.FrameMeans", spec := "frameMeans", unfollowed := true, recurses := true, apart := false, narrowed := true }
def FrameMeansUptoSaid : Prop := frameMeansUptoRow.holds Tryz.pinned (OpenSpec.upto frameMeansSpec)

/-- 'minsterlaw11.FrameKinds', WHERE WHAT IT READS IS OF BULK AT MOST 1048576: true; the input reads as it did. -/
def frameKindsUptoRow : OpenClaim := { program := "ytklnihlchhhhlaagreat", sum := "d2216f979b7ca0d0336041210ff4c166649aaf67eb0b85c2371f53b00b004b15", func := "minster/minsterlaw11.FrameKinds", spec := "frameKinds", unfollowed := true, recurses := true, apart := false, narrowed := true }
def FrameKindsUptoSaid : Prop := frameKindsUptoRow.holds Tryz.pinned (OpenSpec.upto frameKindsSpec)

/-- 'minsterlaw11.FrameLooks', WHERE WHAT IT READS IS OF BULK AT MOST 1048576: true; the input reads as it did. -/
def frameLooksUptoRow : OpenClaim := { program := "ytklnihlchhhhlaagreat", sum := "d2216f979b7ca0d0336041210ff4c166649aaf67eb0b85c2371f53b00b004b15", func := "minster/minsterlaw11.FrameLooks", spec := "frameLooks", unfollowed := true, recurses := true, apart := false, narrowed := true }
def FrameLooksUptoSaid : Prop := frameLooksUptoRow.holds Tryz.pinned (OpenSpec.upto frameLooksSpec)

end Rows
end Go.Proofs.YtklnihlchhhhlaaGreat
