/- What the walks read off the program's types. -/
import Derived.Test.YtipchpbcjkhnaaaProg
import Derived.Test.YtipchpbcjkhnaaaFw
import Derived.Test.YtipchpbcjkhnaaaFy
import Derived.Test.YtipchpbcjkhnaaaFs
import Derived.Test.YtipchpbcjkhnaaaFda
import Derived.Test.YtipchpbcjkhnaaaFdb
import Derived.Test.YtipchpbcjkhnaaaFde
import Derived.Test.YtipchpbcjkhnaaaFdf
import Derived.Test.YtipchpbcjkhnaaaK
import Derived.Test.YtipchpbcjkhnaaaS
namespace Go.Proofs.Ytipchpbcjkhnaaa
open Go Fw
set_option linter.unusedVariables false

def Za7.tup (x : Za7) : Int × Int × (List UInt8) × (List UInt8) × (List UInt8) × (List Int) × Unit := (x.Kind, (x.N, (x.Name, (x.To, (x.B, (x.Keep, ()))))))
abbrev Zaj : Rep Za7 := rM Za7.tup (rP (rI .i64) (rP (rI .i64) (rP rS (rP rS (rP (rL (rU UInt8)) (rP (rL (rI .i64)) r0))))))
theorem ZdH (x : Za7) : Comp Zaj x 0 (rI .i64) x.Kind := Comp.map (Comp.at' (Comp.inF (Comp.self (rI .i64) x.Kind) (by decide)) (by rfl : _ = 0))
theorem ZcN (x : Za7) : Comp Zaj x 1 (rI .i64) x.N := Comp.map (Comp.at' (Comp.inS (Comp.inF (Comp.self (rI .i64) x.N) (by decide))) (by rfl : _ = 1))
theorem Zav (x : Za7) : Comp Zaj x 2 rS x.Name := Comp.map (Comp.at' (Comp.inS (Comp.inS (Comp.inF (Comp.self rS x.Name) (by decide)))) (by rfl : _ = 2))
theorem Zdi (x : Za7) : Comp Zaj x 3 rS x.To := Comp.map (Comp.at' (Comp.inS (Comp.inS (Comp.inS (Comp.inF (Comp.self rS x.To) (by decide))))) (by rfl : _ = 3))
theorem ZcL (x : Za7) : Comp Zaj x 4 (rL (rU UInt8)) x.B := Comp.map (Comp.at' (Comp.inS (Comp.inS (Comp.inS (Comp.inS (Comp.inF (Comp.self (rL (rU UInt8)) x.B) (by decide)))))) (by rfl : _ = 4))
theorem ZcO (x : Za7) : Comp Zaj x 5 (rL (rI .i64)) x.Keep := Comp.map (Comp.at' (Comp.inS (Comp.inS (Comp.inS (Comp.inS (Comp.inS (Comp.inF (Comp.self (rL (rI .i64)) x.Keep) (by decide))))))) (by rfl : _ = 5))
def Zaf.tup (x : Zaf) : (List UInt8) × Int × Unit := (x.b, (x.lasts, ()))
abbrev Zaa : Rep Zaf := rM Zaf.tup (rP (rL (rU UInt8)) (rP (rI .i64) r0))
theorem Za9 (x : Zaf) : Comp Zaa x 0 (rL (rU UInt8)) x.b := Comp.map (Comp.at' (Comp.inF (Comp.self (rL (rU UInt8)) x.b) (by decide)) (by rfl : _ = 0))
theorem Zda (x : Zaf) (y : (List UInt8)) : Upd Zaa x 0 (rL (rU UInt8)) y { x with b := y } := Upd.map (UpdR.U (UpdR.at (UpdR.fst (UpdR.self rfl)) (by rfl : _ = 0)))
theorem Zbv (x : Zaf) : Comp Zaa x 1 (rI .i64) x.lasts := Comp.map (Comp.at' (Comp.inS (Comp.inF (Comp.self (rI .i64) x.lasts) (by decide))) (by rfl : _ = 1))
theorem Zc1 (x : Zaf) (y : Int) : Upd Zaa x 1 (rI .i64) y { x with lasts := y } := Upd.map (UpdR.U (UpdR.at (UpdR.snd (UpdR.fst (UpdR.self rfl))) (by rfl : _ = 1)))

def Zah.tup (x : Zah) : (List UInt8) × (List UInt8) × Int × Unit := (x.Name, (x.B, (x.Lasts, ())))
abbrev Zab : Rep Zah := rM Zah.tup (rP rS (rP (rL (rU UInt8)) (rP (rI .i64) r0)))
theorem Zbi (x : Zah) : Comp Zab x 0 rS x.Name := Comp.map (Comp.at' (Comp.inF (Comp.self rS x.Name) (by decide)) (by rfl : _ = 0))
theorem Ze2 (x : Zah) (y : (List UInt8)) : Upd Zab x 0 rS y { x with Name := y } := Upd.map (UpdR.U (UpdR.at (UpdR.fst (UpdR.self rfl)) (by rfl : _ = 0)))
theorem Za5 (x : Zah) : Comp Zab x 1 (rL (rU UInt8)) x.B := Comp.map (Comp.at' (Comp.inS (Comp.inF (Comp.self (rL (rU UInt8)) x.B) (by decide))) (by rfl : _ = 1))
theorem ZdB (x : Zah) (y : (List UInt8)) : Upd Zab x 1 (rL (rU UInt8)) y { x with B := y } := Upd.map (UpdR.U (UpdR.at (UpdR.snd (UpdR.fst (UpdR.self rfl))) (by rfl : _ = 1)))
theorem ZbD (x : Zah) : Comp Zab x 2 (rI .i64) x.Lasts := Comp.map (Comp.at' (Comp.inS (Comp.inS (Comp.inF (Comp.self (rI .i64) x.Lasts) (by decide)))) (by rfl : _ = 2))
theorem ZcQ (x : Zah) (y : Int) : Upd Zab x 2 (rI .i64) y { x with Lasts := y } := Upd.map (UpdR.U (UpdR.at (UpdR.snd (UpdR.snd (UpdR.fst (UpdR.self rfl)))) (by rfl : _ = 2)))

def Zge.tup (x : Zge) : (List Zah) × Int × Int × Bool × Int × Unit := (x.L, (x.Capacity, (x.Fuse, (x.Dead, (x.Writes, ())))))
abbrev zq0 := (rP (rW (MPV none)) (rP (rI .i64) (rP (rI .i64) (rP rB (rP (rI .i64) r0)))))
abbrev zq1 (a0 : Option Nat) := (rP (rW (MPV a0)) (rP (rI .i64) (rP (rI .i64) (rP rB (rP (rI .i64) r0)))))
abbrev zq2 := (rP (rW (HDR none 0 0 0)) (rP (rI .i64) r0))
abbrev zq3 (a0 : Nat) : ZaQ := cown (some a0) (rU UInt8) ([(117 : UInt8), (118 : UInt8)] : (List UInt8)) 0 (2)
abbrev zq4 (a0 : Nat) := (rP (rW (MPV (some a0))) (rP (rI .i64) (rP (rI .i64) (rP rB (rP (rI .i64) r0)))))
abbrev zq6 (a0 : Nat) (a1 : Option Nat) (a2 : Int) (a3 : Bool) (a4 : Int) : ZaQ := cvar a0 (zq1 a1) ((), (a2, ((-1 : Int), (a3, (a4, ())))))
abbrev zq7 (a0 : Nat) (a1 : Option Nat) (a2 : Int) (a3 : Int) : ZaQ := cvar a0 (zq1 a1) ((), (a2, ((-1 : Int), (false, (a3, ())))))
abbrev zq8 (a0 : Nat) (a1 : Option Nat) (a2 : Int) : ZaQ := cvar a0 (zq1 a1) ((), (a2, ((-1 : Int), (false, ((0 : Int), ())))))
abbrev zq9 := (rP (rW (HDR none 0 0 0)) (rP (rI .i64) (rP (rI .i64) (rP rB (rP (rI .i64) r0)))))
abbrev zq10 (a0 : Option Nat) (a1 : (List Zah)) (a2 : Nat) := (rP (rW (HDR a0 0 (List.length a1) a2)) (rP (rI .i64) (rP (rI .i64) (rP rB (rP (rI .i64) r0)))))
abbrev zq11 := (rP rS (rP (rW (HDR none 0 0 0)) (rP (rI .i64) r0)))
abbrev zq15 (a0 : Option Nat) (a1 : (List Zah)) (a2 : Nat) := (rP (rW (HL a0 Zab a1 a2)) (rP (rI .i64) (rP (rI .i64) (rP rB (rP (rI .i64) r0)))))
abbrev zq16 (a0 : Nat) (a1 : Option Nat) (a2 : (List Zah)) (a3 : Nat) (a4 : Int) (a5 : Int) (a6 : Bool) (a7 : Int) : ZaQ := cvar a0 (zq10 a1 a2 a3) ((), (a4, (a5, (a6, (a7, ())))))
abbrev zq18 (a0 : Nat) (a1 : Option Nat) (a2 : (List Zah)) (a3 : Nat) (a4 : Int) (a5 : Int) (a6 : Bool) (a7 : Int) : ZaQ := cvar a0 (zq15 a1 a2 a3) ((), (a4, (a5, (a6, (a7, ())))))
abbrev zq21 (a0 : Nat) (a1 : Option Nat) (a2 : (List Zah)) (a3 : Nat) (a4 : Int) : ZaQ := cvar a0 (zq10 a1 a2 a3) ((), (a4, ((-1 : Int), (false, ((0 : Int), ())))))
abbrev zq22 (a0 : Nat) (a1 : Option Nat) (a2 : Int) (a3 : Int) (a4 : Bool) (a5 : Int) : ZaQ := cvar a0 (zq1 a1) ((), (a2, (a3, (a4, (a5, ())))))
abbrev zq23 := (rP (rW (HDR none 0 (List.length ([] : (List Zah))) (0))) (rP (rI .i64) (rP (rI .i64) (rP rB (rP (rI .i64) r0)))))
theorem mixed : Try.prog.follows .mixedOrders = true := by kernel_rfl
theorem zr64 : Zr zq0 ((), ((0 : Int), ((0 : Int), (false, ((0 : Int), ()))))) (Value.cells (.agg #[.map none, .int .i64 0, .int .i64 0, .bool false, .int .i64 0])).toList := (Zr.two (Zr.w (v := .map none) rfl) (Zr.two (Zr.int _ _) (Zr.two (Zr.int _ _) (Zr.two (Zr.bool _) (Zr.two (Zr.int _ _) Zr.unit rfl) rfl) rfl) rfl) rfl)
theorem tZ64 : tyZ Try.prog 64 (.agg #[.map none, .int .i64 0, .int .i64 0, .bool false, .int .i64 0]) := by unfold tyZ; kernel_rfl
theorem tp64 : tyPl Try.prog 64 [(0, 1), (1, 1), (2, 1), (3, 1), (4, 1)] := by unfold tyPl; kernel_rfl
theorem tu25 : Program.underlying Try.prog 25 = some (.pointer 64) := by kernel_rfl
theorem tu22 : Program.underlying Try.prog 22 = some (.slice 36) := by kernel_rfl
theorem tz36 : tySz Try.prog 36 6 = true := by kernel_rfl
theorem Zig : tyF Try.prog 36 4 4 = true := by kernel_rfl
theorem tS31 : tyS Try.prog 31 = true := by kernel_rfl
theorem tu31 : Program.underlying Try.prog 31 = some (.slice 5) := by kernel_rfl
theorem Zdj : tyF Try.prog 36 2 2 = true := by kernel_rfl
theorem tS9 : tyS Try.prog 9 = true := by kernel_rfl
theorem tu9 : Program.underlying Try.prog 9 = some .string := by kernel_rfl
theorem Zi9 : tyF Try.prog 36 3 3 = true := by kernel_rfl
theorem Zjl : tyF Try.prog 36 5 5 = true := by kernel_rfl
theorem tS34 : tyS Try.prog 34 = true := by kernel_rfl
theorem tu34 : Program.underlying Try.prog 34 = some (.slice 3) := by kernel_rfl
theorem cl7 : ZaE Try.prog 7 = true := by kernel_rfl
theorem cl10 : ZaE Try.prog 10 = true := by kernel_rfl
theorem tz5 : tySz Try.prog 5 1 = true := by kernel_rfl
theorem tZ5 : tyZ Try.prog 5 (.int .u8 0) := by unfold tyZ; kernel_rfl
theorem tu5 : Program.underlying Try.prog 5 = some (.int .u8) := by kernel_rfl
theorem tS25 : tyS Try.prog 25 = true := by kernel_rfl
theorem Zct : tyF Try.prog 64 0 0 = true := by kernel_rfl
theorem tS62 : tyS Try.prog 62 = true := by kernel_rfl
theorem tu62 : Program.underlying Try.prog 62 = some (.map 9 69) := by kernel_rfl
theorem cl34 : ZaE Try.prog 34 = true := by kernel_rfl
theorem tS5 : tyS Try.prog 5 = true := by kernel_rfl
theorem cl16 : ZaE Try.prog 16 = true := by kernel_rfl
theorem ky9 : KeyT Try.prog 9 (S rS) := KeyT.str tu9
theorem tZ69 : tyZ Try.prog 69 (.pointer none) := by unfold tyZ; kernel_rfl
theorem zr69 : Zr (rW (PTO none)) () (Value.cells (.pointer none)).toList := (Zr.w (v := .pointer none) rfl)
theorem tS69 : tyS Try.prog 69 = true := by kernel_rfl
theorem Zhe : tyF Try.prog 64 1 1 = true := by kernel_rfl
theorem tS3 : tyS Try.prog 3 = true := by kernel_rfl
theorem Zdh : tyF Try.prog 71 0 0 = true := by kernel_rfl
theorem cl11 : ZaE Try.prog 11 = true := by kernel_rfl
theorem tu69 : Program.underlying Try.prog 69 = some (.pointer 71) := by kernel_rfl
theorem Zd0 : tyF Try.prog 64 3 3 = true := by kernel_rfl
theorem tS4 : tyS Try.prog 4 = true := by kernel_rfl
theorem ZdZ : tyF Try.prog 64 4 4 = true := by kernel_rfl
theorem Zcs : tyF Try.prog 64 2 2 = true := by kernel_rfl
theorem zr71 : Zr zq2 ((), ((0 : Int), ())) (Value.cells (.agg #[.slice none 0 0, .int .i64 0])).toList := (Zr.two (Zr.w (v := .slice none 0 0) rfl) (Zr.two (Zr.int _ _) Zr.unit rfl) rfl)
theorem tZ71 : tyZ Try.prog 71 (.agg #[.slice none 0 0, .int .i64 0]) := by unfold tyZ; kernel_rfl
theorem tp71 : tyPl Try.prog 71 [(0, 1), (1, 1)] := by unfold tyPl; kernel_rfl
theorem tB5 : tyB Try.prog 5 1 1 (.int .u8 0) := tyB.of (by kernel_rfl)
theorem cl36 : ZaE Try.prog 36 = true := by kernel_rfl
theorem cl52 : ZaE Try.prog 52 = true := by kernel_rfl
theorem cl53 : ZaE Try.prog 53 = true := by kernel_rfl
theorem cl28 : ZaE Try.prog 28 = true := by kernel_rfl
theorem cl35 : ZaE Try.prog 35 = true := by kernel_rfl
theorem cl55 : ZaE Try.prog 55 = true := by kernel_rfl
theorem ZeE : tyF Try.prog 71 1 1 = true := by kernel_rfl
theorem cl56 : ZaE Try.prog 56 = true := by kernel_rfl
theorem cl31 : ZaE Try.prog 31 = true := by kernel_rfl
theorem tz3 : tySz Try.prog 3 1 = true := by kernel_rfl
theorem tZ3 : tyZ Try.prog 3 (.int .i64 0) := by unfold tyZ; kernel_rfl
theorem tA64 : tyA Try.prog 64 5 = true := by kernel_rfl
theorem cl18 : ZaE Try.prog 18 = true := by kernel_rfl
theorem tZ25 : tyZ Try.prog 25 (.pointer none) := by unfold tyZ; kernel_rfl
theorem zr25 : Zr (rW (PTO none)) () (Value.cells (.pointer none)).toList := (Zr.w (v := .pointer none) rfl)
theorem zr3 : Zr (rI .i64) (0 : Int) (Value.cells (.int .i64 0)).toList := (Zr.int _ _)
theorem tZ75 : tyZ Try.prog 75 (.slice none 0 0) := by unfold tyZ; kernel_rfl
theorem zr75 : Zr (rW (HDR none 0 0 0)) () (Value.cells (.slice none 0 0)).toList := (Zr.w (v := .slice none 0 0) rfl)
theorem tZ34 : tyZ Try.prog 34 (.slice none 0 0) := by unfold tyZ; kernel_rfl
theorem zr34 : Zr (rW (HDR none 0 0 0)) () (Value.cells (.slice none 0 0)).toList := (Zr.w (v := .slice none 0 0) rfl)
theorem cl39 : ZaE Try.prog 39 = true := by kernel_rfl
theorem cl38 : ZaE Try.prog 38 = true := by kernel_rfl
theorem tS75 : tyS Try.prog 75 = true := by kernel_rfl
theorem tu75 : Program.underlying Try.prog 75 = some (.slice 9) := by kernel_rfl
theorem tz9 : tySz Try.prog 9 1 = true := by kernel_rfl
theorem tB3 : tyB Try.prog 3 1 8 (.int .i64 0) := tyB.of (by kernel_rfl)
theorem cl15 : ZaE Try.prog 15 = true := by kernel_rfl
theorem cl40 : ZaE Try.prog 40 = true := by kernel_rfl
theorem cl24 : ZaE Try.prog 24 = true := by kernel_rfl
theorem cl12 : ZaE Try.prog 12 = true := by kernel_rfl
theorem cl27 : ZaE Try.prog 27 = true := by kernel_rfl
theorem cl32 : ZaE Try.prog 32 = true := by kernel_rfl
theorem cl54 : ZaE Try.prog 54 = true := by kernel_rfl
theorem cl29 : ZaE Try.prog 29 = true := by kernel_rfl
theorem cl57 : ZaE Try.prog 57 = true := by kernel_rfl
theorem cl33 : ZaE Try.prog 33 = true := by kernel_rfl
theorem zv5 : Zr (rU UInt8) (0 : UInt8) (Value.cells (.int .u8 0)).toList := (Zr.u _ rfl rfl)
theorem cl9 : ZaE Try.prog 9 = true := by kernel_rfl
theorem cl8 : ZaE Try.prog 8 = true := by kernel_rfl
theorem zr48 : Zr zq9 ((), ((0 : Int), ((0 : Int), (false, ((0 : Int), ()))))) (Value.cells (.agg #[.slice none 0 0, .int .i64 0, .int .i64 0, .bool false, .int .i64 0])).toList := (Zr.two (Zr.w (v := .slice none 0 0) rfl) (Zr.two (Zr.int _ _) (Zr.two (Zr.int _ _) (Zr.two (Zr.bool _) (Zr.two (Zr.int _ _) Zr.unit rfl) rfl) rfl) rfl) rfl)
theorem tZ48 : tyZ Try.prog 48 (.agg #[.slice none 0 0, .int .i64 0, .int .i64 0, .bool false, .int .i64 0]) := by unfold tyZ; kernel_rfl
theorem tp48 : tyPl Try.prog 48 [(0, 1), (1, 1), (2, 1), (3, 1), (4, 1)] := by unfold tyPl; kernel_rfl
theorem cl23 : ZaE Try.prog 23 = true := by kernel_rfl
theorem Za6 : tyF Try.prog 48 0 0 = true := by kernel_rfl
theorem tS46 : tyS Try.prog 46 = true := by kernel_rfl
theorem tu46 : Program.underlying Try.prog 46 = some (.slice 84) := by kernel_rfl
theorem cl62 : ZaE Try.prog 62 = true := by kernel_rfl
theorem cl41 : ZaE Try.prog 41 = true := by kernel_rfl
theorem tz84 : tySz Try.prog 84 3 = true := by kernel_rfl
theorem Zdn : tyF Try.prog 84 1 1 = true := by kernel_rfl
theorem ZeQ : tyF Try.prog 84 2 2 = true := by kernel_rfl
theorem Zf0 : tyF Try.prog 48 1 1 = true := by kernel_rfl
theorem cl42 : ZaE Try.prog 42 = true := by kernel_rfl
theorem cl25 : ZaE Try.prog 25 = true := by kernel_rfl
theorem Zes : tyF Try.prog 48 3 3 = true := by kernel_rfl
theorem tu4 : Program.underlying Try.prog 4 = some .bool := by kernel_rfl
theorem cl26 : ZaE Try.prog 26 = true := by kernel_rfl
theorem Zft : tyF Try.prog 48 4 4 = true := by kernel_rfl
theorem tZ4 : tyZ Try.prog 4 (.bool false) := by unfold tyZ; kernel_rfl
theorem zr4 : Zr rB false (Value.cells (.bool false)).toList := (Zr.bool _)
theorem un41 : ZhP Try.prog 41 = true := by kernel_rfl
theorem tS45 : tyS Try.prog 45 = true := by kernel_rfl
theorem cl43 : ZaE Try.prog 43 = true := by kernel_rfl
theorem cl17 : ZaE Try.prog 17 = true := by kernel_rfl
theorem tA36 : tyA Try.prog 36 6 = true := by kernel_rfl
theorem Zkc : tyF Try.prog 36 0 0 = true := by kernel_rfl
theorem ZhT : tyF Try.prog 36 1 1 = true := by kernel_rfl
theorem cl58 : ZaE Try.prog 58 = true := by kernel_rfl
theorem cl37 : ZaE Try.prog 37 = true := by kernel_rfl
theorem cl13 : ZaE Try.prog 13 = true := by kernel_rfl
theorem tA48 : tyA Try.prog 48 5 = true := by kernel_rfl
theorem tB84 : tyB Try.prog 84 3 48 (.agg #[.string ⟨#[]⟩, .slice none 0 0, .int .i64 0]) := tyB.of (by kernel_rfl)
theorem cl19 : ZaE Try.prog 19 = true := by kernel_rfl
theorem Zgr : tyF Try.prog 48 2 2 = true := by kernel_rfl
theorem cl63 : ZaE Try.prog 63 = true := by kernel_rfl
theorem zr84 : Zr zq11 (([] : (List UInt8)), ((), ((0 : Int), ()))) (Value.cells (.agg #[.string ⟨#[]⟩, .slice none 0 0, .int .i64 0])).toList := (Zr.two (Zr.str rfl) (Zr.two (Zr.w (v := .slice none 0 0) rfl) (Zr.two (Zr.int _ _) Zr.unit rfl) rfl) rfl)
theorem tZ84 : tyZ Try.prog 84 (.agg #[.string ⟨#[]⟩, .slice none 0 0, .int .i64 0]) := by unfold tyZ; kernel_rfl
theorem tp84 : tyPl Try.prog 84 [(0, 1), (1, 1), (2, 1)] := by unfold tyPl; kernel_rfl
theorem cl64 : ZaE Try.prog 64 = true := by kernel_rfl
theorem cl44 : ZaE Try.prog 44 = true := by kernel_rfl
theorem Zey : tyF Try.prog 84 0 0 = true := by kernel_rfl
theorem cl45 : ZaE Try.prog 45 = true := by kernel_rfl
theorem cl46 : ZaE Try.prog 46 = true := by kernel_rfl
theorem tA84 : tyA Try.prog 84 3 = true := by kernel_rfl
theorem cl65 : ZaE Try.prog 65 = true := by kernel_rfl
theorem cl47 : ZaE Try.prog 47 = true := by kernel_rfl
theorem cl48 : ZaE Try.prog 48 = true := by kernel_rfl
theorem cl49 : ZaE Try.prog 49 = true := by kernel_rfl
theorem cl50 : ZaE Try.prog 50 = true := by kernel_rfl
theorem cl20 : ZaE Try.prog 20 = true := by kernel_rfl
theorem cl51 : ZaE Try.prog 51 = true := by kernel_rfl
theorem cl21 : ZaE Try.prog 21 = true := by kernel_rfl
theorem cl22 : ZaE Try.prog 22 = true := by kernel_rfl
theorem tu3 : Program.underlying Try.prog 3 = some (.int .i64) := by kernel_rfl
theorem tu36 : Program.underlying Try.prog 36 = some (.struct (Program.fieldsOf Try.prog 36)) := by kernel_rfl
theorem fl36 : (Program.fieldsOf Try.prog 36).toList = [{ name := "Kind", type := 3, offset := 0, embedded := false, tag := "", pkgPath := "", byteOffset := 0 }, { name := "N", type := 3, offset := 1, embedded := false, tag := "", pkgPath := "", byteOffset := 8 }, { name := "Name", type := 9, offset := 2, embedded := false, tag := "", pkgPath := "", byteOffset := 16 }, { name := "To", type := 9, offset := 3, embedded := false, tag := "", pkgPath := "", byteOffset := 32 }, { name := "B", type := 31, offset := 4, embedded := false, tag := "", pkgPath := "", byteOffset := 48 }, { name := "Keep", type := 34, offset := 5, embedded := false, tag := "", pkgPath := "", byteOffset := 72 }] := by kernel_rfl
end Go.Proofs.Ytipchpbcjkhnaaa
