/- What the walks read off the program's types. -/
import Derived.Test.YtipchpbcjkhnaaaProg
import Derived.Test.YtipchpbcjkhnaaaFw
import Derived.Test.YtipchpbcjkhnaaaFy
import Derived.Test.YtipchpbcjkhnaaaFs
import Derived.Test.YtipchpbcjkhnaaaFda
import Derived.Test.YtipchpbcjkhnaaaFdb
import Derived.Test.YtipchpbcjkhnaaaFde
import Derived.Test.YtipchpbcjkhnaaaK
import Derived.Test.YtipchpbcjkhnaaaS
namespace Go.Proofs.Ytipchpbcjkhnaaa
open Go Fw
set_option linter.unusedVariables false

def ref05_Step.tup (x : ref05_Step) : Int × Int × (List UInt8) × (List UInt8) × (List UInt8) × (List Int) × Unit := (x.Kind, (x.N, (x.Name, (x.To, (x.B, (x.Keep, ()))))))
abbrev r_ref05_Step : Rep ref05_Step := rM ref05_Step.tup (rP (rI .i64) (rP (rI .i64) (rP rS (rP rS (rP (rL (rU UInt8)) (rP (rL (rI .i64)) r0))))))
theorem comp_ref05_Step_Kind (x : ref05_Step) : Comp r_ref05_Step x 0 (rI .i64) x.Kind := Comp.map (Comp.at' (Comp.inF (Comp.self (rI .i64) x.Kind) (by decide)) (by rfl : _ = 0))
theorem comp_ref05_Step_N (x : ref05_Step) : Comp r_ref05_Step x 1 (rI .i64) x.N := Comp.map (Comp.at' (Comp.inS (Comp.inF (Comp.self (rI .i64) x.N) (by decide))) (by rfl : _ = 1))
theorem comp_ref05_Step_Name (x : ref05_Step) : Comp r_ref05_Step x 2 rS x.Name := Comp.map (Comp.at' (Comp.inS (Comp.inS (Comp.inF (Comp.self rS x.Name) (by decide)))) (by rfl : _ = 2))
theorem comp_ref05_Step_To (x : ref05_Step) : Comp r_ref05_Step x 3 rS x.To := Comp.map (Comp.at' (Comp.inS (Comp.inS (Comp.inS (Comp.inF (Comp.self rS x.To) (by decide))))) (by rfl : _ = 3))
theorem comp_ref05_Step_B (x : ref05_Step) : Comp r_ref05_Step x 4 (rL (rU UInt8)) x.B := Comp.map (Comp.at' (Comp.inS (Comp.inS (Comp.inS (Comp.inS (Comp.inF (Comp.self (rL (rU UInt8)) x.B) (by decide)))))) (by rfl : _ = 4))
theorem comp_ref05_Step_Keep (x : ref05_Step) : Comp r_ref05_Step x 5 (rL (rI .i64)) x.Keep := Comp.map (Comp.at' (Comp.inS (Comp.inS (Comp.inS (Comp.inS (Comp.inS (Comp.inF (Comp.self (rL (rI .i64)) x.Keep) (by decide))))))) (by rfl : _ = 5))
def disk_file.tup (x : disk_file) : (List UInt8) × Int × Unit := (x.b, (x.lasts, ()))
abbrev r_disk_file : Rep disk_file := rM disk_file.tup (rP (rL (rU UInt8)) (rP (rI .i64) r0))
theorem comp_disk_file_b (x : disk_file) : Comp r_disk_file x 0 (rL (rU UInt8)) x.b := Comp.map (Comp.at' (Comp.inF (Comp.self (rL (rU UInt8)) x.b) (by decide)) (by rfl : _ = 0))
theorem upd_disk_file_b (x : disk_file) (y : (List UInt8)) : Upd r_disk_file x 0 (rL (rU UInt8)) y { x with b := y } := Upd.map (UpdR.U (UpdR.at (UpdR.fst (UpdR.self rfl)) (by rfl : _ = 0)))
theorem comp_disk_file_lasts (x : disk_file) : Comp r_disk_file x 1 (rI .i64) x.lasts := Comp.map (Comp.at' (Comp.inS (Comp.inF (Comp.self (rI .i64) x.lasts) (by decide))) (by rfl : _ = 1))
theorem upd_disk_file_lasts (x : disk_file) (y : Int) : Upd r_disk_file x 1 (rI .i64) y { x with lasts := y } := Upd.map (UpdR.U (UpdR.at (UpdR.snd (UpdR.fst (UpdR.self rfl))) (by rfl : _ = 1)))

abbrev zq0 := (rP (rW (MPV none)) (rP (rI .i64) (rP (rI .i64) (rP rB (rP (rI .i64) r0)))))
abbrev zq1 (a0 : Option Nat) := (rP (rW (MPV a0)) (rP (rI .i64) (rP (rI .i64) (rP rB (rP (rI .i64) r0)))))
abbrev zq2 := (rP (rW (HDR none 0 0 0)) (rP (rI .i64) r0))
abbrev zq3 (a0 : Nat) : Chunk := cown (some a0) (rU UInt8) ([(117 : UInt8), (118 : UInt8)] : (List UInt8)) 0 (2)
abbrev zq4 (a0 : Nat) := (rP (rW (MPV (some a0))) (rP (rI .i64) (rP (rI .i64) (rP rB (rP (rI .i64) r0)))))
abbrev zq6 (a0 : Nat) (a1 : Option Nat) (a2 : Int) (a3 : Bool) (a4 : Int) : Chunk := cvar a0 (zq1 a1) ((), (a2, ((-1 : Int), (a3, (a4, ())))))
abbrev zq7 (a0 : Nat) (a1 : Option Nat) (a2 : Int) (a3 : Int) : Chunk := cvar a0 (zq1 a1) ((), (a2, ((-1 : Int), (false, (a3, ())))))
abbrev zq8 (a0 : Nat) (a1 : Option Nat) (a2 : Int) : Chunk := cvar a0 (zq1 a1) ((), (a2, ((-1 : Int), (false, ((0 : Int), ())))))
abbrev zq9 (a0 : Nat) (a1 : Option Nat) : Chunk := cvar a0 (zq1 a1) ((), ((30000 : Int), ((-1 : Int), (false, ((0 : Int), ())))))
abbrev zq10 (a0 : Nat) (a1 : Option Nat) (a2 : Int) (a3 : Bool) (a4 : Int) : Chunk := cvar a0 (zq1 a1) ((), ((30000 : Int), (a2, (a3, (a4, ())))))
abbrev zq11 (a0 : Nat) (a1 : Option Nat) (a2 : Int) (a3 : Int) (a4 : Bool) (a5 : Int) : Chunk := cvar a0 (zq1 a1) ((), (a2, (a3, (a4, (a5, ())))))
theorem mixed : Try.prog.follows .mixedOrders = true := by kernel_rfl
theorem tZ4 : tyZ Try.prog 4 (.bool false) := by unfold tyZ; kernel_rfl
theorem zr4 : Zr rB false (Value.cells (.bool false)).toList := (Zr.bool _)
theorem zr64 : Zr zq0 ((), ((0 : Int), ((0 : Int), (false, ((0 : Int), ()))))) (Value.cells (.agg #[.map none, .int .i64 0, .int .i64 0, .bool false, .int .i64 0])).toList := (Zr.two (Zr.w (v := .map none) rfl) (Zr.two (Zr.int _ _) (Zr.two (Zr.int _ _) (Zr.two (Zr.bool _) (Zr.two (Zr.int _ _) Zr.unit rfl) rfl) rfl) rfl) rfl)
theorem tZ64 : tyZ Try.prog 64 (.agg #[.map none, .int .i64 0, .int .i64 0, .bool false, .int .i64 0]) := by unfold tyZ; kernel_rfl
theorem tp64 : tyPl Try.prog 64 [(0, 1), (1, 1), (2, 1), (3, 1), (4, 1)] := by unfold tyPl; kernel_rfl
theorem tu25 : Program.underlying Try.prog 25 = some (.pointer 64) := by kernel_rfl
theorem cl10 : callable Try.prog 10 = true := by kernel_rfl
theorem tu31 : Program.underlying Try.prog 31 = some (.slice 5) := by kernel_rfl
theorem tz5 : tySz Try.prog 5 1 = true := by kernel_rfl
theorem tZ5 : tyZ Try.prog 5 (.int .u8 0) := by unfold tyZ; kernel_rfl
theorem tu5 : Program.underlying Try.prog 5 = some (.int .u8) := by kernel_rfl
theorem tS25 : tyS Try.prog 25 = true := by kernel_rfl
theorem tf64_0 : tyF Try.prog 64 0 0 = true := by kernel_rfl
theorem tS62 : tyS Try.prog 62 = true := by kernel_rfl
theorem tu62 : Program.underlying Try.prog 62 = some (.map 9 69) := by kernel_rfl
theorem cl34 : callable Try.prog 34 = true := by kernel_rfl
theorem tS9 : tyS Try.prog 9 = true := by kernel_rfl
theorem tu9 : Program.underlying Try.prog 9 = some .string := by kernel_rfl
theorem tS5 : tyS Try.prog 5 = true := by kernel_rfl
theorem cl16 : callable Try.prog 16 = true := by kernel_rfl
theorem ky9 : KeyT Try.prog 9 (S rS) := KeyT.str tu9
theorem tZ69 : tyZ Try.prog 69 (.pointer none) := by unfold tyZ; kernel_rfl
theorem zr69 : Zr (rW (PTO none)) () (Value.cells (.pointer none)).toList := (Zr.w (v := .pointer none) rfl)
theorem tS69 : tyS Try.prog 69 = true := by kernel_rfl
theorem tS31 : tyS Try.prog 31 = true := by kernel_rfl
theorem tf64_1 : tyF Try.prog 64 1 1 = true := by kernel_rfl
theorem tS3 : tyS Try.prog 3 = true := by kernel_rfl
theorem tf71_0 : tyF Try.prog 71 0 0 = true := by kernel_rfl
theorem cl11 : callable Try.prog 11 = true := by kernel_rfl
theorem tu69 : Program.underlying Try.prog 69 = some (.pointer 71) := by kernel_rfl
theorem tf64_3 : tyF Try.prog 64 3 3 = true := by kernel_rfl
theorem tS4 : tyS Try.prog 4 = true := by kernel_rfl
theorem tf64_4 : tyF Try.prog 64 4 4 = true := by kernel_rfl
theorem tf64_2 : tyF Try.prog 64 2 2 = true := by kernel_rfl
theorem zr71 : Zr zq2 ((), ((0 : Int), ())) (Value.cells (.agg #[.slice none 0 0, .int .i64 0])).toList := (Zr.two (Zr.w (v := .slice none 0 0) rfl) (Zr.two (Zr.int _ _) Zr.unit rfl) rfl)
theorem tZ71 : tyZ Try.prog 71 (.agg #[.slice none 0 0, .int .i64 0]) := by unfold tyZ; kernel_rfl
theorem tp71 : tyPl Try.prog 71 [(0, 1), (1, 1)] := by unfold tyPl; kernel_rfl
theorem tB5 : tyB Try.prog 5 1 1 (.int .u8 0) := tyB.of (by kernel_rfl)
theorem cl36 : callable Try.prog 36 = true := by kernel_rfl
theorem cl52 : callable Try.prog 52 = true := by kernel_rfl
theorem cl53 : callable Try.prog 53 = true := by kernel_rfl
theorem cl28 : callable Try.prog 28 = true := by kernel_rfl
theorem cl35 : callable Try.prog 35 = true := by kernel_rfl
theorem cl55 : callable Try.prog 55 = true := by kernel_rfl
theorem tf71_1 : tyF Try.prog 71 1 1 = true := by kernel_rfl
theorem cl56 : callable Try.prog 56 = true := by kernel_rfl
theorem cl31 : callable Try.prog 31 = true := by kernel_rfl
theorem tu34 : Program.underlying Try.prog 34 = some (.slice 3) := by kernel_rfl
theorem tz3 : tySz Try.prog 3 1 = true := by kernel_rfl
theorem tZ3 : tyZ Try.prog 3 (.int .i64 0) := by unfold tyZ; kernel_rfl
theorem tA64 : tyA Try.prog 64 5 = true := by kernel_rfl
theorem cl18 : callable Try.prog 18 = true := by kernel_rfl
theorem tZ25 : tyZ Try.prog 25 (.pointer none) := by unfold tyZ; kernel_rfl
theorem zr25 : Zr (rW (PTO none)) () (Value.cells (.pointer none)).toList := (Zr.w (v := .pointer none) rfl)
theorem zr3 : Zr (rI .i64) (0 : Int) (Value.cells (.int .i64 0)).toList := (Zr.int _ _)
theorem tZ75 : tyZ Try.prog 75 (.slice none 0 0) := by unfold tyZ; kernel_rfl
theorem zr75 : Zr (rW (HDR none 0 0 0)) () (Value.cells (.slice none 0 0)).toList := (Zr.w (v := .slice none 0 0) rfl)
theorem tZ34 : tyZ Try.prog 34 (.slice none 0 0) := by unfold tyZ; kernel_rfl
theorem zr34 : Zr (rW (HDR none 0 0 0)) () (Value.cells (.slice none 0 0)).toList := (Zr.w (v := .slice none 0 0) rfl)
theorem cl39 : callable Try.prog 39 = true := by kernel_rfl
theorem cl38 : callable Try.prog 38 = true := by kernel_rfl
theorem tS75 : tyS Try.prog 75 = true := by kernel_rfl
theorem tu75 : Program.underlying Try.prog 75 = some (.slice 9) := by kernel_rfl
theorem tz9 : tySz Try.prog 9 1 = true := by kernel_rfl
theorem tS34 : tyS Try.prog 34 = true := by kernel_rfl
theorem tB3 : tyB Try.prog 3 1 8 (.int .i64 0) := tyB.of (by kernel_rfl)
theorem cl15 : callable Try.prog 15 = true := by kernel_rfl
theorem cl40 : callable Try.prog 40 = true := by kernel_rfl
theorem cl24 : callable Try.prog 24 = true := by kernel_rfl
theorem cl12 : callable Try.prog 12 = true := by kernel_rfl
theorem cl27 : callable Try.prog 27 = true := by kernel_rfl
theorem cl32 : callable Try.prog 32 = true := by kernel_rfl
theorem cl54 : callable Try.prog 54 = true := by kernel_rfl
theorem cl29 : callable Try.prog 29 = true := by kernel_rfl
theorem cl57 : callable Try.prog 57 = true := by kernel_rfl
theorem cl33 : callable Try.prog 33 = true := by kernel_rfl
theorem zv5 : Zr (rU UInt8) (0 : UInt8) (Value.cells (.int .u8 0)).toList := (Zr.u _ rfl rfl)
theorem cl9 : callable Try.prog 9 = true := by kernel_rfl
theorem cl8 : callable Try.prog 8 = true := by kernel_rfl
theorem tu22 : Program.underlying Try.prog 22 = some (.slice 36) := by kernel_rfl
theorem tz36 : tySz Try.prog 36 6 = true := by kernel_rfl
theorem tf36_4 : tyF Try.prog 36 4 4 = true := by kernel_rfl
theorem tf36_2 : tyF Try.prog 36 2 2 = true := by kernel_rfl
theorem tf36_3 : tyF Try.prog 36 3 3 = true := by kernel_rfl
theorem tf36_5 : tyF Try.prog 36 5 5 = true := by kernel_rfl
theorem cl7 : callable Try.prog 7 = true := by kernel_rfl
theorem tA36 : tyA Try.prog 36 6 = true := by kernel_rfl
theorem tf36_0 : tyF Try.prog 36 0 0 = true := by kernel_rfl
theorem tf36_1 : tyF Try.prog 36 1 1 = true := by kernel_rfl
theorem cl58 : callable Try.prog 58 = true := by kernel_rfl
theorem cl37 : callable Try.prog 37 = true := by kernel_rfl
theorem cl13 : callable Try.prog 13 = true := by kernel_rfl
theorem cl25 : callable Try.prog 25 = true := by kernel_rfl
theorem cl26 : callable Try.prog 26 = true := by kernel_rfl
theorem cl51 : callable Try.prog 51 = true := by kernel_rfl
theorem cl21 : callable Try.prog 21 = true := by kernel_rfl
theorem un41 : isFuncT Try.prog 41 = true := by kernel_rfl
theorem tu36 : Program.underlying Try.prog 36 = some (.struct (Program.fieldsOf Try.prog 36)) := by kernel_rfl
theorem fl36 : (Program.fieldsOf Try.prog 36).toList = [{ name := "Kind", type := 3, offset := 0, embedded := false, tag := "", pkgPath := "", byteOffset := 0 }, { name := "N", type := 3, offset := 1, embedded := false, tag := "", pkgPath := "", byteOffset := 8 }, { name := "Name", type := 9, offset := 2, embedded := false, tag := "", pkgPath := "", byteOffset := 16 }, { name := "To", type := 9, offset := 3, embedded := false, tag := "", pkgPath := "", byteOffset := 32 }, { name := "B", type := 31, offset := 4, embedded := false, tag := "", pkgPath := "", byteOffset := 48 }, { name := "Keep", type := 34, offset := 5, embedded := false, tag := "", pkgPath := "", byteOffset := 72 }] := by kernel_rfl
theorem tu3 : Program.underlying Try.prog 3 = some (.int .i64) := by kernel_rfl
end Go.Proofs.Ytipchpbcjkhnaaa
