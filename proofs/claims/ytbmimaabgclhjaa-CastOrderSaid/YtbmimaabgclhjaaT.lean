/- What the walks read off the program's types. -/
import Derived.Test.YtbmimaabgclhjaaProg
import Derived.Test.YtbmimaabgclhjaaFw
import Derived.Test.YtbmimaabgclhjaaFy
import Derived.Test.YtbmimaabgclhjaaFdb
import Derived.Test.YtbmimaabgclhjaaFde
import Derived.Test.YtbmimaabgclhjaaS
namespace Go.Proofs.Ytbmimaabgclhjaa
open Go Fw
set_option linter.unusedVariables false

def api_Dot.tup (x : api_Dot) : Int × UInt64 × Unit := (x.Region, (x.Count, ()))
abbrev r_api_Dot : Rep api_Dot := rM api_Dot.tup (rP (rI .i64) (rP (rU UInt64) r0))
theorem comp_api_Dot_Region (x : api_Dot) : Comp r_api_Dot x 0 (rI .i64) x.Region := Comp.map (Comp.at' (Comp.inF (Comp.self (rI .i64) x.Region) (by decide)) (by rfl : _ = 0))
theorem comp_api_Dot_Count (x : api_Dot) : Comp r_api_Dot x 1 (rU UInt64) x.Count := Comp.map (Comp.at' (Comp.inS (Comp.inF (Comp.self (rU UInt64) x.Count) (by decide))) (by rfl : _ = 1))
theorem upd_api_Dot_Count (x : api_Dot) (y : UInt64) : Upd r_api_Dot x 1 (rU UInt64) y { x with Count := y } := Upd.map (UpdR.U (UpdR.at (UpdR.snd (UpdR.fst (UpdR.self rfl))) (by rfl : _ = 1)))

def api_Dest.tup (x : api_Dest) : api_Dot × (List UInt8) × Unit := (x.Dot, (x.Device, ()))
abbrev r_api_Dest : Rep api_Dest := rM api_Dest.tup (rP r_api_Dot (rP rS r0))
theorem comp_api_Dest_Dot (x : api_Dest) : Comp r_api_Dest x 0 r_api_Dot x.Dot := Comp.map (Comp.at' (Comp.inF (Comp.self r_api_Dot x.Dot) (by decide)) (by rfl : _ = 0))
theorem comp_api_Dest_Device (x : api_Dest) : Comp r_api_Dest x 2 rS x.Device := Comp.map (Comp.at' (Comp.inS (Comp.inF (Comp.self rS x.Device) (by decide))) (by rfl : _ = 2))
def api_Event.tup (x : api_Event) : api_Dot × (List UInt8) × (List UInt8) × (Vector UInt64 16) × (List api_Dest) × Unit := (x.ID, (x.Topic, (x.Payload, (x.Past, (x.To, ())))))
abbrev r_api_Event : Rep api_Event := rM api_Event.tup (rP r_api_Dot (rP rS (rP (rL (rU UInt8)) (rP (rV 16 (rU UInt64)) (rP (rL r_api_Dest) r0)))))
theorem comp_api_Event_ID (x : api_Event) : Comp r_api_Event x 0 r_api_Dot x.ID := Comp.map (Comp.at' (Comp.inF (Comp.self r_api_Dot x.ID) (by decide)) (by rfl : _ = 0))
theorem comp_api_Event_Topic (x : api_Event) : Comp r_api_Event x 2 rS x.Topic := Comp.map (Comp.at' (Comp.inS (Comp.inF (Comp.self rS x.Topic) (by decide))) (by rfl : _ = 2))
theorem comp_api_Event_Payload (x : api_Event) : Comp r_api_Event x 3 (rL (rU UInt8)) x.Payload := Comp.map (Comp.at' (Comp.inS (Comp.inS (Comp.inF (Comp.self (rL (rU UInt8)) x.Payload) (by decide)))) (by rfl : _ = 3))
theorem comp_api_Event_Past (x : api_Event) : Comp r_api_Event x 4 (rV 16 (rU UInt64)) x.Past := Comp.map (Comp.at' (Comp.inS (Comp.inS (Comp.inS (Comp.inF (Comp.self (rV 16 (rU UInt64)) x.Past) (by decide))))) (by rfl : _ = 4))
theorem comp_api_Event_To (x : api_Event) : Comp r_api_Event x 20 (rL r_api_Dest) x.To := Comp.map (Comp.at' (Comp.inS (Comp.inS (Comp.inS (Comp.inS (Comp.inF (Comp.self (rL r_api_Dest) x.To) (by decide)))))) (by rfl : _ = 20))
def law13_Act.tup (x : law13_Act) : Int × api_Event × Unit := (x.Kind, (x.Event, ()))
abbrev r_law13_Act : Rep law13_Act := rM law13_Act.tup (rP (rI .i64) (rP r_api_Event r0))
theorem comp_law13_Act_Kind (x : law13_Act) : Comp r_law13_Act x 0 (rI .i64) x.Kind := Comp.map (Comp.at' (Comp.inF (Comp.self (rI .i64) x.Kind) (by decide)) (by rfl : _ = 0))
theorem comp_law13_Act_Event (x : law13_Act) : Comp r_law13_Act x 1 r_api_Event x.Event := Comp.map (Comp.at' (Comp.inS (Comp.inF (Comp.self r_api_Event x.Event) (by decide))) (by rfl : _ = 1))
abbrev zq0 := (rP (rI .i64) (rP (rI .i64) (rP (rV 16 (rU UInt64)) (rP (rW (HDR none 0 0 0)) (rP (rW (HDR none 0 0 0)) (rP (rW (MPV none)) r0))))))
abbrev zq1 := (rP r_api_Dot (rP rS (rP (rW (HDR none 0 0 0)) (rP (rV 16 (rU UInt64)) (rP (rW (HDR none 0 0 0)) r0)))))
abbrev zq2 := ((api_Dot.mk (0 : Int) (0 : UInt64)), (([] : (List UInt8)), ((), ((Vector.replicate 16 (0 : UInt64)), ((), ())))))
abbrev zq3 := ((api_Dot.mk (0 : Int) (0 : UInt64)).Region, ((api_Dot.mk (0 : Int) (0 : UInt64)).Count, ()))
abbrev zq4 (a0 : Option Nat) := (rP (rI .i64) (rP (rI .i64) (rP (rV 16 (rU UInt64)) (rP (rW (HDR none 0 0 0)) (rP (rW (HDR none 0 0 0)) (rP (rW (MPV a0)) r0))))))
abbrev zq5 := (rP r_api_Dot (rP rS (rP (rL (rU UInt8)) (rP (rV 16 (rU UInt64)) (rP (rL r_api_Dest) r0)))))
abbrev zq6 (a0 : Option Nat) (a1 : (List UInt8)) (a2 : Nat) := (rP r_api_Dot (rP rS (rP (rW (HDR a0 0 (List.length a1) a2)) (rP (rV 16 (rU UInt64)) (rP (rL r_api_Dest) r0)))))
abbrev zq7 (a0 : Nat) (a1 : Option Nat) (a2 : (List UInt8)) (a3 : Nat) (a4 : api_Event) : Chunk := cvar a0 (zq6 a1 a2 a3) (a4.ID, (a4.Topic, ((), (a4.Past, (a4.To, ())))))
abbrev zq8 (a0 : Option Nat) (a1 : (List UInt8)) (a2 : Nat) (a3 : Option Nat) (a4 : (List api_Dest)) (a5 : Nat) := (rP r_api_Dot (rP rS (rP (rW (HDR a0 0 (List.length a1) a2)) (rP (rV 16 (rU UInt64)) (rP (rW (HDR a3 0 (List.length a4) a5)) r0)))))
abbrev zq9 (a0 : Nat) (a1 : Option Nat) (a2 : (List UInt8)) (a3 : Nat) (a4 : Option Nat) (a5 : (List api_Dest)) (a6 : Nat) (a7 : api_Event) : Chunk := cvar a0 (zq8 a1 a2 a3 a4 a5 a6) (a7.ID, (a7.Topic, ((), (a7.Past, ((), ())))))
abbrev zq10 (a0 : Option Nat) (a1 : (List UInt8)) (a2 : Nat) (a3 : Option Nat) (a4 : (List api_Dest)) (a5 : Nat) := (rP r_api_Dot (rP rS (rP (rW (HL a0 (rU UInt8) a1 a2)) (rP (rV 16 (rU UInt64)) (rP (rW (HDR a3 0 (List.length a4) a5)) r0)))))
abbrev zq11 (a0 : Option Nat) (a1 : (List UInt8)) (a2 : Nat) (a3 : Option Nat) (a4 : (List api_Dest)) (a5 : Nat) := (rP r_api_Dot (rP rS (rP (rW (HL a0 (rU UInt8) a1 a2)) (rP (rV 16 (rU UInt64)) (rP (rW (HL a3 r_api_Dest a4 a5)) r0)))))
abbrev zq12 (a0 : Nat) (a1 : Option Nat) (a2 : Int) (a3 : Int) (a4 : (Vector UInt64 16)) (a5 : Fin 16) (a6 : UInt64) : Chunk := cvar a0 (zq4 a1) (a2, (a3, ((putV a4 a5 a6), ((), ((), ((), ()))))))
abbrev zq15 (a0 : Option Nat) := (rP (rI .i64) (rP (rI .i64) (rP (rV 16 (rU UInt64)) (rP (rW (HDR none 0 (List.length ([] : (List api_Event))) (0))) (rP (rW (HDR none 0 (List.length ([] : (List (Vector UInt64 16)))) (0))) (rP (rW (MPV a0)) r0))))))
abbrev zq16 (a0 : Nat) (a1 : Option Nat) (a2 : Int) (a3 : Int) (a4 : (Vector UInt64 16)) (a5 : Fin 16) (a6 : UInt64) : Chunk := cvar a0 (zq15 a1) (a2, (a3, ((putV a4 a5 a6), ((), ((), ((), ()))))))
abbrev zq17 (a0 : Option Nat) (a1 : (List api_Event)) (a2 : Nat) (a3 : Option Nat) := (rP (rI .i64) (rP (rI .i64) (rP (rV 16 (rU UInt64)) (rP (rW (HDR a0 0 (List.length a1) a2)) (rP (rW (HDR none 0 (List.length ([] : (List (Vector UInt64 16)))) (0))) (rP (rW (MPV a3)) r0))))))
abbrev zq18 (a0 : Nat) (a1 : Option Nat) (a2 : (List api_Event)) (a3 : Nat) (a4 : Option Nat) (a5 : Int) (a6 : Int) (a7 : (Vector UInt64 16)) (a8 : Fin 16) (a9 : UInt64) : Chunk := cvar a0 (zq17 a1 a2 a3 a4) (a5, (a6, ((putV a7 a8 a9), ((), ((), ((), ()))))))
abbrev zq19 (a0 : Option Nat) (a1 : (List api_Event)) (a2 : Nat) (a3 : Option Nat) (a4 : (List (Vector UInt64 16))) (a5 : Nat) (a6 : Option Nat) := (rP (rI .i64) (rP (rI .i64) (rP (rV 16 (rU UInt64)) (rP (rW (HDR a0 0 (List.length a1) a2)) (rP (rW (HDR a3 0 (List.length a4) a5)) (rP (rW (MPV a6)) r0))))))
abbrev zq20 (a0 : Nat) (a1 : Option Nat) (a2 : (List api_Event)) (a3 : Nat) (a4 : Option Nat) (a5 : (List (Vector UInt64 16))) (a6 : Nat) (a7 : Option Nat) (a8 : Int) (a9 : Int) (a10 : (Vector UInt64 16)) (a11 : Fin 16) (a12 : UInt64) : Chunk := cvar a0 (zq19 a1 a2 a3 a4 a5 a6 a7) (a8, (a9, ((putV a10 a11 a12), ((), ((), ((), ()))))))
abbrev zq21 (a0 : Nat) (a1 : Option Nat) (a2 : (List api_Event)) (a3 : Nat) (a4 : Option Nat) (a5 : (List (Vector UInt64 16))) (a6 : Nat) (a7 : Option Nat) (a8 : Int) (a9 : Int) (a10 : (Vector UInt64 16)) : Chunk := cvar a0 (zq19 a1 a2 a3 a4 a5 a6 a7) (a8, (a9, (a10, ((), ((), ((), ()))))))
abbrev zq22 (a0 : Option Nat) (a1 : (List api_Event)) (a2 : Nat) (a3 : Option Nat) (a4 : (List (Vector UInt64 16))) (a5 : Nat) (a6 : Option Nat) := (rP (rI .i64) (rP (rI .i64) (rP (rV 16 (rU UInt64)) (rP (rW (HL a0 r_api_Event a1 a2)) (rP (rW (HDR a3 0 (List.length a4) a5)) (rP (rW (MPV a6)) r0))))))
abbrev zq23 (a0 : Nat) (a1 : Option Nat) (a2 : (List api_Event)) (a3 : Nat) (a4 : Option Nat) (a5 : (List (Vector UInt64 16))) (a6 : Nat) (a7 : Option Nat) (a8 : Int) (a9 : Int) (a10 : (Vector UInt64 16)) : Chunk := cvar a0 (zq22 a1 a2 a3 a4 a5 a6 a7) (a8, (a9, (a10, ((), ((), ((), ()))))))
abbrev zq24 (a0 : Nat) (a1 : Option Nat) (a2 : (List api_Event)) (a3 : Nat) (a4 : Option Nat) (a5 : (List (Vector UInt64 16))) (a6 : Nat) (a7 : Option Nat) (a8 : (Vector UInt64 16)) : Chunk := cvar a0 (zq19 a1 a2 a3 a4 a5 a6 a7) ((2 : Int), ((1 : Int), (a8, ((), ((), ((), ()))))))
abbrev zq25 (a0 : Nat) (a1 : Option Nat) (a2 : Int) (a3 : Int) : Chunk := cvar a0 (zq4 a1) (a2, (a3, ((Vector.replicate 16 (0 : UInt64)), ((), ((), ((), ()))))))
abbrev zq26 (a0 : Nat) (a1 : Int) (a2 : UInt64) (a3 : (List UInt8)) (a4 : (List UInt8)) (a5 : (Vector UInt64 16)) (a6 : (List api_Dest)) : Chunk := cvar a0 zq5 ({ (api_Dot.mk a1 a2) with Count := (1 : UInt64) }, (a3, (a4, (a5, (a6, ())))))
abbrev zq27 (a0 : Int) (a1 : UInt64) (a2 : (List UInt8)) (a3 : (List UInt8)) (a4 : (Vector UInt64 16)) (a5 : Fin 16) (a6 : (List api_Dest)) := ({ (api_Dot.mk a0 a1) with Count := (1 : UInt64) }, (a2, (a3, ((putV a4 a5 (0 : UInt64)), (a6, ())))))
theorem mixed : Try.prog.follows .mixedOrders = true := by kernel_rfl
theorem tu22 : Program.underlying Try.prog 22 = some (.slice 39) := by kernel_rfl
theorem tz39 : tySz Try.prog 39 22 = true := by kernel_rfl
theorem tf39_1 : tyF Try.prog 39 1 1 = true := by kernel_rfl
theorem tf37_4 : tyF Try.prog 37 4 20 = true := by kernel_rfl
theorem tS35 : tyS Try.prog 35 = true := by kernel_rfl
theorem tu35 : Program.underlying Try.prog 35 = some (.slice 91) := by kernel_rfl
theorem tf37_2 : tyF Try.prog 37 2 3 = true := by kernel_rfl
theorem tS32 : tyS Try.prog 32 = true := by kernel_rfl
theorem tu32 : Program.underlying Try.prog 32 = some (.slice 5) := by kernel_rfl
theorem cl8 : callable Try.prog 8 = true := by kernel_rfl
theorem zr74 : Zr zq0 ((0 : Int), ((0 : Int), ((Vector.replicate 16 (0 : UInt64)), ((), ((), ((), ())))))) (Value.cells (.agg #[.int .i64 0, .int .i64 0, .int .u64 0, .int .u64 0, .int .u64 0, .int .u64 0, .int .u64 0, .int .u64 0, .int .u64 0, .int .u64 0, .int .u64 0, .int .u64 0, .int .u64 0, .int .u64 0, .int .u64 0, .int .u64 0, .int .u64 0, .int .u64 0, .slice none 0 0, .slice none 0 0, .map none])).toList := (Zr.two (Zr.int _ _) (Zr.two (Zr.int _ _) (Zr.two (Zr.vec (Zr.u _ rfl rfl) rfl) (Zr.two (Zr.w (v := .slice none 0 0) rfl) (Zr.two (Zr.w (v := .slice none 0 0) rfl) (Zr.two (Zr.w (v := .map none) rfl) Zr.unit rfl) rfl) rfl) rfl) rfl) rfl)
theorem tZ74 : tyZ Try.prog 74 (.agg #[.int .i64 0, .int .i64 0, .int .u64 0, .int .u64 0, .int .u64 0, .int .u64 0, .int .u64 0, .int .u64 0, .int .u64 0, .int .u64 0, .int .u64 0, .int .u64 0, .int .u64 0, .int .u64 0, .int .u64 0, .int .u64 0, .int .u64 0, .int .u64 0, .slice none 0 0, .slice none 0 0, .map none]) := by unfold tyZ; kernel_rfl
theorem tp74 : tyPl Try.prog 74 [(0, 1), (1, 1), (2, 16), (18, 1), (19, 1), (20, 1)] := by unfold tyPl; kernel_rfl
theorem tZ37 : tyZ Try.prog 37 (.agg #[.int .i64 0, .int .u64 0, .string ⟨#[]⟩, .slice none 0 0, .int .u64 0, .int .u64 0, .int .u64 0, .int .u64 0, .int .u64 0, .int .u64 0, .int .u64 0, .int .u64 0, .int .u64 0, .int .u64 0, .int .u64 0, .int .u64 0, .int .u64 0, .int .u64 0, .int .u64 0, .int .u64 0, .slice none 0 0]) := by unfold tyZ; kernel_rfl
theorem zr37 : Zr zq1 zq2 (Value.cells (.agg #[.int .i64 0, .int .u64 0, .string ⟨#[]⟩, .slice none 0 0, .int .u64 0, .int .u64 0, .int .u64 0, .int .u64 0, .int .u64 0, .int .u64 0, .int .u64 0, .int .u64 0, .int .u64 0, .int .u64 0, .int .u64 0, .int .u64 0, .int .u64 0, .int .u64 0, .int .u64 0, .int .u64 0, .slice none 0 0])).toList := (Zr.two (Zr.map (Zr.two (Zr.int _ _) (Zr.two (Zr.u _ rfl rfl) Zr.unit rfl) rfl)) (Zr.two (Zr.str rfl) (Zr.two (Zr.w (v := .slice none 0 0) rfl) (Zr.two (Zr.vec (Zr.u _ rfl rfl) rfl) (Zr.two (Zr.w (v := .slice none 0 0) rfl) Zr.unit rfl) rfl) rfl) rfl) rfl)
theorem tZ34 : tyZ Try.prog 34 (.agg #[.int .u64 0, .int .u64 0, .int .u64 0, .int .u64 0, .int .u64 0, .int .u64 0, .int .u64 0, .int .u64 0, .int .u64 0, .int .u64 0, .int .u64 0, .int .u64 0, .int .u64 0, .int .u64 0, .int .u64 0, .int .u64 0]) := by unfold tyZ; kernel_rfl
theorem zr34 : Zr (rV 16 (rU UInt64)) (Vector.replicate 16 (0 : UInt64)) (Value.cells (.agg #[.int .u64 0, .int .u64 0, .int .u64 0, .int .u64 0, .int .u64 0, .int .u64 0, .int .u64 0, .int .u64 0, .int .u64 0, .int .u64 0, .int .u64 0, .int .u64 0, .int .u64 0, .int .u64 0, .int .u64 0, .int .u64 0])).toList := (Zr.vec (Zr.u _ rfl rfl) rfl)
theorem tr34 : tyAr Try.prog 34 16 1 = true := by kernel_rfl
theorem tS29 : tyS Try.prog 29 = true := by kernel_rfl
theorem zs31 : Zr (rP (rI .i64) (rP (rU UInt64) r0)) zq3 (Value.cells (.agg #[.int .i64 0, .int .u64 0])).toList := (Zr.two (Zr.int _ _) (Zr.two (Zr.u _ rfl rfl) Zr.unit rfl) rfl)
theorem tZ31 : tyZ Try.prog 31 (.agg #[.int .i64 0, .int .u64 0]) := by unfold tyZ; kernel_rfl
theorem tp31 : tyPl Try.prog 31 [(0, 1), (1, 1)] := by unfold tyPl; kernel_rfl
theorem tA34 : tyA Try.prog 34 16 = true := by kernel_rfl
theorem tp37 : tyPl Try.prog 37 [(0, 2), (2, 1), (3, 1), (4, 16), (20, 1)] := by unfold tyPl; kernel_rfl
theorem tA37 : tyA Try.prog 37 21 = true := by kernel_rfl
theorem cl24 : callable Try.prog 24 = true := by kernel_rfl
theorem tu25 : Program.underlying Try.prog 25 = some (.pointer 74) := by kernel_rfl
theorem tf74_5 : tyF Try.prog 74 5 20 = true := by kernel_rfl
theorem tS72 : tyS Try.prog 72 = true := by kernel_rfl
theorem tu72 : Program.underlying Try.prog 72 = some (.map 31 37) := by kernel_rfl
theorem cl26 : callable Try.prog 26 = true := by kernel_rfl
theorem tf37_0 : tyF Try.prog 37 0 0 = true := by kernel_rfl
theorem tA31 : tyA Try.prog 31 2 = true := by kernel_rfl
theorem tf31_0 : tyF Try.prog 31 0 0 = true := by kernel_rfl
theorem tS3 : tyS Try.prog 3 = true := by kernel_rfl
theorem tf31_1 : tyF Try.prog 31 1 1 = true := by kernel_rfl
theorem cl57 : callable Try.prog 57 = true := by kernel_rfl
theorem tf37_3 : tyF Try.prog 37 3 4 = true := by kernel_rfl
theorem tu34 : Program.underlying Try.prog 34 = some (.array 16 29) := by kernel_rfl
theorem tz29 : tySz Try.prog 29 1 = true := by kernel_rfl
theorem tu95 : Program.underlying Try.prog 95 = some (.slice 29) := by kernel_rfl
theorem cl65 : callable Try.prog 65 = true := by kernel_rfl
theorem cl76 : callable Try.prog 76 = true := by kernel_rfl
theorem cl64 : callable Try.prog 64 = true := by kernel_rfl
theorem cl58 : callable Try.prog 58 = true := by kernel_rfl
theorem tf37_1 : tyF Try.prog 37 1 2 = true := by kernel_rfl
theorem tS9 : tyS Try.prog 9 = true := by kernel_rfl
theorem tu9 : Program.underlying Try.prog 9 = some .string := by kernel_rfl
theorem cl59 : callable Try.prog 59 = true := by kernel_rfl
theorem tz91 : tySz Try.prog 91 3 = true := by kernel_rfl
theorem tA91 : tyA Try.prog 91 3 = true := by kernel_rfl
theorem tZ91 : tyZ Try.prog 91 (.agg #[.int .i64 0, .int .u64 0, .string ⟨#[]⟩]) := by unfold tyZ; kernel_rfl
theorem zr91 : Zr r_api_Dest (api_Dest.mk (api_Dot.mk (0 : Int) (0 : UInt64)) ([] : (List UInt8))) (Value.cells (.agg #[.int .i64 0, .int .u64 0, .string ⟨#[]⟩])).toList := (Zr.map (Zr.two (Zr.map (Zr.two (Zr.int _ _) (Zr.two (Zr.u _ rfl rfl) Zr.unit rfl) rfl)) (Zr.two (Zr.str rfl) Zr.unit rfl) rfl))
theorem tf91_0 : tyF Try.prog 91 0 0 = true := by kernel_rfl
theorem tf91_1 : tyF Try.prog 91 1 2 = true := by kernel_rfl
theorem cl54 : callable Try.prog 54 = true := by kernel_rfl
theorem cl36 : callable Try.prog 36 = true := by kernel_rfl
theorem cl55 : callable Try.prog 55 = true := by kernel_rfl
theorem cl37 : callable Try.prog 37 = true := by kernel_rfl
theorem tu50 : Program.underlying Try.prog 50 = some (.slice 3) := by kernel_rfl
theorem tz3 : tySz Try.prog 3 1 = true := by kernel_rfl
theorem tZ3 : tyZ Try.prog 3 (.int .i64 0) := by unfold tyZ; kernel_rfl
theorem cl35 : callable Try.prog 35 = true := by kernel_rfl
theorem cl60 : callable Try.prog 60 = true := by kernel_rfl
theorem cl47 : callable Try.prog 47 = true := by kernel_rfl
theorem tf74_0 : tyF Try.prog 74 0 0 = true := by kernel_rfl
theorem cl27 : callable Try.prog 27 = true := by kernel_rfl
theorem tu3 : Program.underlying Try.prog 3 = some (.int .i64) := by kernel_rfl
theorem tu29 : Program.underlying Try.prog 29 = some (.int .u64) := by kernel_rfl
theorem tu31 : Program.underlying Try.prog 31 = some (.struct (Program.fieldsOf Try.prog 31)) := by kernel_rfl
theorem fl31 : (Program.fieldsOf Try.prog 31).toList = [{ name := "Region", type := 3, offset := 0, embedded := false, tag := "", pkgPath := "", byteOffset := 0 }, { name := "Count", type := 29, offset := 1, embedded := false, tag := "", pkgPath := "", byteOffset := 8 }] := by kernel_rfl
theorem nh31 : notHeld Try.prog 31 = true := by kernel_rfl
theorem qa31 : EqA Try.prog 2 31 r_api_Dot eq_api_Dot := EqA.struct tu31 nh31 (by rw [fl31]; exact (EqF.consS (by decide) rfl tS3 rfl (EqS.int tu3) (EqF.consS (by decide) rfl tS29 rfl (EqS.u (U := UInt64) tu29) EqF.nil))) (fun _ _ => rfl)
theorem ti30 : ∀ {x y : api_Dot}, api_Dot.tup x = api_Dot.tup y → x = y := fun {x y} h => by cases x; cases y; simpa [api_Dot.tup] using h
theorem ky31 : KeyT Try.prog 31 (A r_api_Dot) := KeyT.struct tu31 qa31 (by decide) eq_api_Dot_iff ti30 (KeyR.pair KeyR.int (KeyR.pair KeyR.u KeyR.unit)) (by rw [fl31]; exact (ChkR.cons (by decide) rfl tS3 rfl tu3 (fun h => isKeyI h) (ChkR.cons (by decide) rfl tS29 rfl tu29 (fun h => isKeyU h) ChkR.nil)))
theorem zv37 : Zr r_api_Event (api_Event.mk (api_Dot.mk (0 : Int) (0 : UInt64)) ([] : (List UInt8)) ([] : (List UInt8)) (Vector.replicate 16 (0 : UInt64)) ([] : (List api_Dest))) (Value.cells (.agg #[.int .i64 0, .int .u64 0, .string ⟨#[]⟩, .slice none 0 0, .int .u64 0, .int .u64 0, .int .u64 0, .int .u64 0, .int .u64 0, .int .u64 0, .int .u64 0, .int .u64 0, .int .u64 0, .int .u64 0, .int .u64 0, .int .u64 0, .int .u64 0, .int .u64 0, .int .u64 0, .int .u64 0, .slice none 0 0])).toList := (Zr.map (Zr.two (Zr.map (Zr.two (Zr.int _ _) (Zr.two (Zr.u _ rfl rfl) Zr.unit rfl) rfl)) (Zr.two (Zr.str rfl) (Zr.two (Zr.list _) (Zr.two (Zr.vec (Zr.u _ rfl rfl) rfl) (Zr.two (Zr.list _) Zr.unit rfl) rfl) rfl) rfl) rfl))
theorem tf74_2 : tyF Try.prog 74 2 2 = true := by kernel_rfl
theorem cl30 : callable Try.prog 30 = true := by kernel_rfl
theorem tz5 : tySz Try.prog 5 1 = true := by kernel_rfl
theorem tZ5 : tyZ Try.prog 5 (.int .u8 0) := by unfold tyZ; kernel_rfl
theorem tB5 : tyB Try.prog 5 1 1 (.int .u8 0) := tyB.of (by kernel_rfl)
theorem cl48 : callable Try.prog 48 = true := by kernel_rfl
theorem tB91 : tyB Try.prog 91 3 32 (.agg #[.int .i64 0, .int .u64 0, .string ⟨#[]⟩]) := tyB.of (by kernel_rfl)
theorem cl49 : callable Try.prog 49 = true := by kernel_rfl
theorem cl29 : callable Try.prog 29 = true := by kernel_rfl
theorem tf74_3 : tyF Try.prog 74 3 18 = true := by kernel_rfl
theorem tS42 : tyS Try.prog 42 = true := by kernel_rfl
theorem tu42 : Program.underlying Try.prog 42 = some (.slice 37) := by kernel_rfl
theorem tz37 : tySz Try.prog 37 21 = true := by kernel_rfl
theorem tB37 : tyB Try.prog 37 21 208 (.agg #[.int .i64 0, .int .u64 0, .string ⟨#[]⟩, .slice none 0 0, .int .u64 0, .int .u64 0, .int .u64 0, .int .u64 0, .int .u64 0, .int .u64 0, .int .u64 0, .int .u64 0, .int .u64 0, .int .u64 0, .int .u64 0, .int .u64 0, .int .u64 0, .int .u64 0, .int .u64 0, .int .u64 0, .slice none 0 0]) := tyB.of (by kernel_rfl)
theorem tf74_4 : tyF Try.prog 74 4 19 = true := by kernel_rfl
theorem tS61 : tyS Try.prog 61 = true := by kernel_rfl
theorem tu61 : Program.underlying Try.prog 61 = some (.slice 34) := by kernel_rfl
theorem tz34 : tySz Try.prog 34 16 = true := by kernel_rfl
theorem tB34 : tyB Try.prog 34 16 128 (.agg #[.int .u64 0, .int .u64 0, .int .u64 0, .int .u64 0, .int .u64 0, .int .u64 0, .int .u64 0, .int .u64 0, .int .u64 0, .int .u64 0, .int .u64 0, .int .u64 0, .int .u64 0, .int .u64 0, .int .u64 0, .int .u64 0]) := tyB.of (by kernel_rfl)
theorem cl28 : callable Try.prog 28 = true := by kernel_rfl
theorem zr31 : Zr r_api_Dot (api_Dot.mk (0 : Int) (0 : UInt64)) (Value.cells (.agg #[.int .i64 0, .int .u64 0])).toList := (Zr.map (Zr.two (Zr.int _ _) (Zr.two (Zr.u _ rfl rfl) Zr.unit rfl) rfl))
theorem cl50 : callable Try.prog 50 = true := by kernel_rfl
theorem cl31 : callable Try.prog 31 = true := by kernel_rfl
theorem cl12 : callable Try.prog 12 = true := by kernel_rfl
theorem cl33 : callable Try.prog 33 = true := by kernel_rfl
theorem cl53 : callable Try.prog 53 = true := by kernel_rfl
theorem cl61 : callable Try.prog 61 = true := by kernel_rfl
theorem cl51 : callable Try.prog 51 = true := by kernel_rfl
theorem tu107 : Program.underlying Try.prog 107 = some (.int .u64) := by kernel_rfl
theorem tu5 : Program.underlying Try.prog 5 = some (.int .u8) := by kernel_rfl
theorem cl75 : callable Try.prog 75 = true := by kernel_rfl
theorem cl63 : callable Try.prog 63 = true := by kernel_rfl
theorem cl66 : callable Try.prog 66 = true := by kernel_rfl
theorem cl62 : callable Try.prog 62 = true := by kernel_rfl
theorem cl52 : callable Try.prog 52 = true := by kernel_rfl
theorem cl32 : callable Try.prog 32 = true := by kernel_rfl
theorem cl16 : callable Try.prog 16 = true := by kernel_rfl
theorem cl17 : callable Try.prog 17 = true := by kernel_rfl
theorem zv34 : Zr (rV 16 (rU UInt64)) (Vector.replicate 16 (0 : UInt64)) (Value.cells (.agg #[.int .u64 0, .int .u64 0, .int .u64 0, .int .u64 0, .int .u64 0, .int .u64 0, .int .u64 0, .int .u64 0, .int .u64 0, .int .u64 0, .int .u64 0, .int .u64 0, .int .u64 0, .int .u64 0, .int .u64 0, .int .u64 0])).toList := (Zr.vec (Zr.u _ rfl rfl) rfl)
theorem tp34 : tyPl Try.prog 34 [(0, 1), (1, 1), (2, 1), (3, 1), (4, 1), (5, 1), (6, 1), (7, 1), (8, 1), (9, 1), (10, 1), (11, 1), (12, 1), (13, 1), (14, 1), (15, 1)] := by unfold tyPl; kernel_rfl
theorem qa34 : EqA Try.prog 2 34 (rV 16 (rU UInt64)) (eqV (fun x y => x == y)) := EqA.arrS tu34 tS29 rfl (EqS.u (U := UInt64) tu29)
theorem ng34 : noGuard Try.prog 34 = true := by kernel_rfl
theorem cl10 : callable Try.prog 10 = true := by kernel_rfl
theorem cl9 : callable Try.prog 9 = true := by kernel_rfl
theorem tf39_0 : tyF Try.prog 39 0 0 = true := by kernel_rfl
theorem tf74_1 : tyF Try.prog 74 1 1 = true := by kernel_rfl
theorem cl11 : callable Try.prog 11 = true := by kernel_rfl
theorem cl13 : callable Try.prog 13 = true := by kernel_rfl
theorem tZ46 : tyZ Try.prog 46 (.agg #[.int .u64 0, .int .u64 0, .int .u64 0, .int .u64 0, .int .u64 0, .int .u64 0, .int .u64 0, .int .u64 0, .int .u64 0, .int .u64 0, .int .u64 0, .int .u64 0, .int .u64 0, .int .u64 0, .int .u64 0, .int .u64 0, .int .u64 0]) := by unfold tyZ; kernel_rfl
theorem zr46 : Zr (rV 17 (rU UInt64)) (Vector.replicate 17 (0 : UInt64)) (Value.cells (.agg #[.int .u64 0, .int .u64 0, .int .u64 0, .int .u64 0, .int .u64 0, .int .u64 0, .int .u64 0, .int .u64 0, .int .u64 0, .int .u64 0, .int .u64 0, .int .u64 0, .int .u64 0, .int .u64 0, .int .u64 0, .int .u64 0, .int .u64 0])).toList := (Zr.vec (Zr.u _ rfl rfl) rfl)
theorem tr46 : tyAr Try.prog 46 17 1 = true := by kernel_rfl
theorem cl14 : callable Try.prog 14 = true := by kernel_rfl
theorem tu39 : Program.underlying Try.prog 39 = some (.struct (Program.fieldsOf Try.prog 39)) := by kernel_rfl
theorem fl39 : (Program.fieldsOf Try.prog 39).toList = [{ name := "Kind", type := 3, offset := 0, embedded := false, tag := "", pkgPath := "", byteOffset := 0 }, { name := "Event", type := 37, offset := 1, embedded := false, tag := "", pkgPath := "", byteOffset := 8 }] := by kernel_rfl
theorem tu37 : Program.underlying Try.prog 37 = some (.struct (Program.fieldsOf Try.prog 37)) := by kernel_rfl
theorem fl37 : (Program.fieldsOf Try.prog 37).toList = [{ name := "ID", type := 31, offset := 0, embedded := false, tag := "", pkgPath := "", byteOffset := 0 }, { name := "Topic", type := 9, offset := 2, embedded := false, tag := "", pkgPath := "", byteOffset := 16 }, { name := "Payload", type := 32, offset := 3, embedded := false, tag := "", pkgPath := "", byteOffset := 32 }, { name := "Past", type := 34, offset := 4, embedded := false, tag := "", pkgPath := "", byteOffset := 56 }, { name := "To", type := 35, offset := 20, embedded := false, tag := "", pkgPath := "", byteOffset := 184 }] := by kernel_rfl
theorem tu91 : Program.underlying Try.prog 91 = some (.struct (Program.fieldsOf Try.prog 91)) := by kernel_rfl
theorem fl91 : (Program.fieldsOf Try.prog 91).toList = [{ name := "Dot", type := 31, offset := 0, embedded := false, tag := "", pkgPath := "", byteOffset := 0 }, { name := "Device", type := 9, offset := 2, embedded := false, tag := "", pkgPath := "", byteOffset := 16 }] := by kernel_rfl
end Go.Proofs.Ytbmimaabgclhjaa
