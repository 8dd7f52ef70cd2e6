/-
  No cell of these rows narrows 'for every input' (looked for: loops, veiled, ifaces, maps, wideKeys, modest, calm, conditions, laid).
  DERIVED. THE GIVEN ROWS OF THIS SEAT. 5 by the template 'for every input the law returns true; each argument reads behind the call as it read before'; 0 by the template 'total and deterministic' (their statements: YtdncoiehmkcajaaTotals.lean).
  GIVEN WITH THE SEED: the statements are not yours to turn. If you find one false, say at which input.
  Laid BY PROGRAM, IN A SANDBOX (cutbox-rows.mjs): the forced cells as the released guide's own fill.sh prints them over the translation 9c9fc6d3154bb7f2… (all of the seat's roots in one cut). By AI agents, Wed Nov 11 2026. No macro, syntax, notation, axiom, sorry.
-/
import Derived.Test.YtdncoiehmkcajaaChecked
import GoSem.Claim
import GoSem.ClaimJoined
import GoSem.ClaimMapViews
import Derived.JoinedTies
import Derived.KernelRfl
namespace Go.Proofs.Ytdncoiehmkcajaa
/- THE CELL 'sum', in the pinned program and in every row, IS THE sha256 OF THE DUMP (.gsa) THAT YtdncoiehmkcajaaProg.lean LOADS. Nothing in Lean hashes anything: it is a label: what it is worth is what the hold of that sum in a sandbox is worth. -/
noncomputable def Try.pinned : Pinned := { name := "ytdncoiehmkcajaa", sum := "9c9fc6d3154bb7f2fe40db8b23bb3a9a4013dec1e05246783414d78df17a82fa", checked := Try.checked }
namespace Rows
def none {H : Type} : Left H := { results := [], args := [] }

/-- 'minsterlaw03.ShaSums': WHATEVER THE INPUT: true; the input reads as it did. -/
def shaSumsSpec : ChangeSpec := { name := "shaSums", fn := fun _ => fun
  | [d] => { results := [.lit (.bool true)], args := [d] }
  | _ => none }
def shaSumsRow : OpenClaim := { program := "ytdncoiehmkcajaa", sum := "9c9fc6d3154bb7f2fe40db8b23bb3a9a4013dec1e05246783414d78df17a82fa", func := "minster/minsterlaw03.ShaSums", spec := "shaSums", inPlace := ["math/bits.Add64"], unfollowed := true, recurses := true, apart := false }
def ShaSumsSaid : Prop := shaSumsRow.holds Try.pinned (OpenSpec.ofChange shaSumsSpec)

/-- ITS FALSE NEIGHBOUR: 'it returns false'. Refute it at one input. -/
def shaSumsWrong : ChangeSpec := { name := "shaSums", fn := fun _ => fun
  | [d] => { results := [.lit (.bool false)], args := [d] }
  | _ => none }
def ShaSumsWrongFalsely : Prop := shaSumsRow.holds Try.pinned (OpenSpec.ofChange shaSumsWrong)

/-- 'minsterlaw03.ShaCodes': WHATEVER THE INPUT: true; the input reads as it did. -/
def shaCodesSpec : ChangeSpec := { name := "shaCodes", fn := fun _ => fun
  | [d1, d2] => { results := [.lit (.bool true)], args := [d1, d2] }
  | _ => none }
def shaCodesRow : OpenClaim := { program := "ytdncoiehmkcajaa", sum := "9c9fc6d3154bb7f2fe40db8b23bb3a9a4013dec1e05246783414d78df17a82fa", func := "minster/minsterlaw03.ShaCodes", spec := "shaCodes", inPlace := ["math/bits.Add64"], unfollowed := true, recurses := true, apart := false }
def ShaCodesSaid : Prop := shaCodesRow.holds Try.pinned (OpenSpec.ofChange shaCodesSpec)

/-- ITS FALSE NEIGHBOUR: 'it returns false'. Refute it at one input. -/
def shaCodesWrong : ChangeSpec := { name := "shaCodes", fn := fun _ => fun
  | [d1, d2] => { results := [.lit (.bool false)], args := [d1, d2] }
  | _ => none }
def ShaCodesWrongFalsely : Prop := shaCodesRow.holds Try.pinned (OpenSpec.ofChange shaCodesWrong)

/-- 'minsterlaw03.ShaVectors': WHATEVER THE INPUT: true; the input reads as it did. -/
def shaVectorsSpec : ChangeSpec := { name := "shaVectors", fn := fun _ => fun
  | [] => { results := [.lit (.bool true)], args := [] }
  | _ => none }
def shaVectorsRow : OpenClaim := { program := "ytdncoiehmkcajaa", sum := "9c9fc6d3154bb7f2fe40db8b23bb3a9a4013dec1e05246783414d78df17a82fa", func := "minster/minsterlaw03.ShaVectors", spec := "shaVectors", inPlace := ["math/bits.Add64"], unfollowed := true, recurses := true, apart := false }
def ShaVectorsSaid : Prop := shaVectorsRow.holds Try.pinned (OpenSpec.ofChange shaVectorsSpec)

/-- ITS FALSE NEIGHBOUR: 'it returns false'. Refute it at one input. -/
def shaVectorsWrong : ChangeSpec := { name := "shaVectors", fn := fun _ => fun
  | [] => { results := [.lit (.bool false)], args := [] }
  | _ => none }
def ShaVectorsWrongFalsely : Prop := shaVectorsRow.holds Try.pinned (OpenSpec.ofChange shaVectorsWrong)

/-- 'minsterlaw03.ShaBack': WHATEVER THE INPUT: true; the input reads as it did. -/
def shaBackSpec : ChangeSpec := { name := "shaBack", fn := fun _ => fun
  | [d1, d2, d3, d4] => { results := [.lit (.bool true)], args := [d1, d2, d3, d4] }
  | _ => none }
def shaBackRow : OpenClaim := { program := "ytdncoiehmkcajaa", sum := "9c9fc6d3154bb7f2fe40db8b23bb3a9a4013dec1e05246783414d78df17a82fa", func := "minster/minsterlaw03.ShaBack", spec := "shaBack", inPlace := ["math/bits.Add64"], unfollowed := true, recurses := true, apart := false }
def ShaBackSaid : Prop := shaBackRow.holds Try.pinned (OpenSpec.ofChange shaBackSpec)

/-- ITS FALSE NEIGHBOUR: 'it returns false'. Refute it at one input. -/
def shaBackWrong : ChangeSpec := { name := "shaBack", fn := fun _ => fun
  | [d1, d2, d3, d4] => { results := [.lit (.bool false)], args := [d1, d2, d3, d4] }
  | _ => none }
def ShaBackWrongFalsely : Prop := shaBackRow.holds Try.pinned (OpenSpec.ofChange shaBackWrong)

/-- 'minsterlaw03.ShaTexts': WHATEVER THE INPUT: true; the input reads as it did. -/
def shaTextsSpec : ChangeSpec := { name := "shaTexts", fn := fun _ => fun
  | [d1, d2, d3, d4] => { results := [.lit (.bool true)], args := [d1, d2, d3, d4] }
  | _ => none }
def shaTextsRow : OpenClaim := { program := "ytdncoiehmkcajaa", sum := "9c9fc6d3154bb7f2fe40db8b23bb3a9a4013dec1e05246783414d78df17a82fa", func := "minster/minsterlaw03.ShaTexts", spec := "shaTexts", inPlace := ["math/bits.Add64"], unfollowed := true, recurses := true, apart := false }
def ShaTextsSaid : Prop := shaTextsRow.holds Try.pinned (OpenSpec.ofChange shaTextsSpec)

/-- ITS FALSE NEIGHBOUR: 'it returns false'. Refute it at one input. -/
def shaTextsWrong : ChangeSpec := { name := "shaTexts", fn := fun _ => fun
  | [d1, d2, d3, d4] => { results := [.lit (.bool false)], args := [d1, d2, d3, d4] }
  | _ => none }
def ShaTextsWrongFalsely : Prop := shaTextsRow.holds Try.pinned (OpenSpec.ofChange shaTextsWrong)

/- THE SECOND FORM. 'bulk': how many values and letters a reading holds, each counted each time it is reached (what is shared counts as often as it is met; a slice's spare places count too). A statement '..UptoSaid' is the law's where the arguments, and the package variables that the reading takes, are together of bulk at most 1048576: NARROWER than '..Said'. Prove '..Said' where nothing that the law and all that it calls make is longer than what came in: it says more and counts as full. Else prove '..UptoSaid'. A law counts once. -/
mutual
def uptoBulk {H : Type} : DataW H → Nat
  | .lit (.string bytes) => bytes.length + 1
  | .lit _ => 1
  | .nil => 1
  | .ptr d => uptoBulk d + 1
  | .slice elems spare => uptoBulkAll elems + uptoBulkAll spare + 1
  | .agg parts => uptoBulkAll parts + 1
  | .iface _ d => uptoBulk d + 1
  | .map entries => uptoBulkEntries entries + 1
  | .held _ => 1
def uptoBulkAll {H : Type} : List (DataW H) → Nat
  | [] => 0
  | d :: r => uptoBulk d + uptoBulkAll r
def uptoBulkEntries {H : Type} : List (Lit × DataW H) → Nat
  | [] => 0
  | x :: r => uptoBulkEntry x + uptoBulkEntries r
def uptoBulkEntry {H : Type} : Lit × DataW H → Nat
  | (.string bytes, d) => bytes.length + uptoBulk d + 1
  | (_, d) => uptoBulk d + 1
 end
def uptoSmall : (H : Type) → List (DataW H) → Bool := fun _ ds => decide (uptoBulkAll ds ≤ 1048576)
def OpenSpec.upto (s : _root_.Go.ChangeSpec) : _root_.Go.OpenSpec := { _root_.Go.OpenSpec.ofChange s with cond := some uptoSmall }

/-- 'minsterlaw03.ShaSums', WHERE WHAT IT READS IS OF BULK AT MOST 1048576: true; the input reads as it did. -/
def shaSumsUptoRow : OpenClaim := { program := "ytdncoiehmkcajaa", sum := "9c9fc6d3154bb7f2fe40db8b23bb3a9a4013dec1e05246783414d78df17a82fa", func := "minster/minsterlaw03.ShaSums", spec := "shaSums", inPlace := ["math/bits.Add64"], unfollowed := true, recurses := true, apart := false, narrowed := true }
def ShaSumsUptoSaid : Prop := shaSumsUptoRow.holds Try.pinned (OpenSpec.upto shaSumsSpec)

/-- 'minsterlaw03.ShaCodes', WHERE WHAT IT READS IS OF BULK AT MOST 1048576: true; the input reads as it did. -/
def shaCodesUptoRow : OpenClaim := { program := "ytdncoiehmkcajaa", sum := "9c9fc6d3154bb7f2fe40db8b23bb3a9a4013dec1e05246783414d78df17a82fa", func := "minster/minsterlaw03.ShaCodes", spec := "shaCodes", inPlace := ["math/bits.Add64"], unfollowed := true, recurses := true, apart := false, narrowed := true }
def ShaCodesUptoSaid : Prop := shaCodesUptoRow.holds Try.pinned (OpenSpec.upto shaCodesSpec)

/-- 'minsterlaw03.ShaVectors', WHERE WHAT IT READS IS OF BULK AT MOST 1048576: true; the input reads as it did. -/
def shaVectorsUptoRow : OpenClaim := { program := "ytdncoiehmkcajaa", sum := "9c9fc6d3154bb7f2fe40db8b23bb3a9a4013dec1e05246783414d78df17a82fa", func := "minster/minsterlaw03.ShaVectors", spec := "shaVectors", inPlace := ["math/bits.Add64"], unfollowed := true, recurses := true, apart := false, narrowed := true }
def ShaVectorsUptoSaid : Prop := shaVectorsUptoRow.holds Try.pinned (OpenSpec.upto shaVectorsSpec)

/-- 'minsterlaw03.ShaBack', WHERE WHAT IT READS IS OF BULK AT MOST 1048576: true; the input reads as it did. -/
def shaBackUptoRow : OpenClaim := { program := "ytdncoiehmkcajaa", sum := "9c9fc6d3154bb7f2fe40db8b23bb3a9a4013dec1e05246783414d78df17a82fa", func := "minster/minsterlaw03.ShaBack", spec := "shaBack", inPlace := ["math/bits.Add64"], unfollowed := true, recurses := true, apart := false, narrowed := true }
def ShaBackUptoSaid : Prop := shaBackUptoRow.holds Try.pinned (OpenSpec.upto shaBackSpec)

/-- 'minsterlaw03.ShaTexts', WHERE WHAT IT READS IS OF BULK AT MOST 1048576: true; the input reads as it did. -/
def shaTextsUptoRow : OpenClaim := { program := "ytdncoiehmkcajaa", sum := "9c9fc6d3154bb7f2fe40db8b23bb3a9a4013dec1e05246783414d78df17a82fa", func := "minster/minsterlaw03.ShaTexts", spec := "shaTexts", inPlace := ["math/bits.Add64"], unfollowed := true, recurses := true, apart := false, narrowed := true }
def ShaTextsUptoSaid : Prop := shaTextsUptoRow.holds Try.pinned (OpenSpec.upto shaTextsSpec)

end Rows
end Go.Proofs.Ytdncoiehmkcajaa
