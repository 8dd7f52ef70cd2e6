/- What the walks read off the program's types. -/
import Derived.Test.YtkbkdfcakpbojaaProg
import Derived.Test.YtkbkdfcakpbojaaFw
import Derived.Test.YtkbkdfcakpbojaaFs
import Derived.Test.YtkbkdfcakpbojaaS
namespace Go.Proofs.Ytkbkdfcakpbojaa
open Go Fw
set_option linter.unusedVariables false

def law01_Step.tup (x : law01_Step) : Int × Int × Unit := (x.Kind, (x.N, ()))
abbrev r_law01_Step : Rep law01_Step := rM law01_Step.tup (rP (rI .i64) (rP (rI .i64) r0))
theorem comp_law01_Step_Kind (x : law01_Step) : Comp r_law01_Step x 0 (rI .i64) x.Kind := Comp.map (Comp.at' (Comp.inF (Comp.self (rI .i64) x.Kind) (by decide)) (by rfl : _ = 0))
theorem upd_law01_Step_Kind (x : law01_Step) (y : Int) : Upd r_law01_Step x 0 (rI .i64) y { x with Kind := y } := Upd.map (UpdR.U (UpdR.at (UpdR.fst (UpdR.self rfl)) (by rfl : _ = 0)))
theorem comp_law01_Step_N (x : law01_Step) : Comp r_law01_Step x 1 (rI .i64) x.N := Comp.map (Comp.at' (Comp.inS (Comp.inF (Comp.self (rI .i64) x.N) (by decide))) (by rfl : _ = 1))
theorem upd_law01_Step_N (x : law01_Step) (y : Int) : Upd r_law01_Step x 1 (rI .i64) y { x with N := y } := Upd.map (UpdR.U (UpdR.at (UpdR.snd (UpdR.fst (UpdR.self rfl))) (by rfl : _ = 1)))

def api_Dot.tup (x : api_Dot) : Int × UInt64 × Unit := (x.Region, (x.Count, ()))
abbrev r_api_Dot : Rep api_Dot := rM api_Dot.tup (rP (rI .i64) (rP (rU UInt64) r0))
theorem comp_api_Dot_Region (x : api_Dot) : Comp r_api_Dot x 0 (rI .i64) x.Region := Comp.map (Comp.at' (Comp.inF (Comp.self (rI .i64) x.Region) (by decide)) (by rfl : _ = 0))
theorem upd_api_Dot_Region (x : api_Dot) (y : Int) : Upd r_api_Dot x 0 (rI .i64) y { x with Region := y } := Upd.map (UpdR.U (UpdR.at (UpdR.fst (UpdR.self rfl)) (by rfl : _ = 0)))
theorem comp_api_Dot_Count (x : api_Dot) : Comp r_api_Dot x 1 (rU UInt64) x.Count := Comp.map (Comp.at' (Comp.inS (Comp.inF (Comp.self (rU UInt64) x.Count) (by decide))) (by rfl : _ = 1))
theorem upd_api_Dot_Count (x : api_Dot) (y : UInt64) : Upd r_api_Dot x 1 (rU UInt64) y { x with Count := y } := Upd.map (UpdR.U (UpdR.at (UpdR.snd (UpdR.fst (UpdR.self rfl))) (by rfl : _ = 1)))

def ref01_Reader.tup (x : ref01_Reader) : (List UInt8) × Int × Bool × Unit := (x.B, (x.At, (x.Failed, ())))
abbrev r_ref01_Reader : Rep ref01_Reader := rM ref01_Reader.tup (rP (rL (rU UInt8)) (rP (rI .i64) (rP rB r0)))
theorem comp_ref01_Reader_B (x : ref01_Reader) : Comp r_ref01_Reader x 0 (rL (rU UInt8)) x.B := Comp.map (Comp.at' (Comp.inF (Comp.self (rL (rU UInt8)) x.B) (by decide)) (by rfl : _ = 0))
theorem upd_ref01_Reader_B (x : ref01_Reader) (y : (List UInt8)) : Upd r_ref01_Reader x 0 (rL (rU UInt8)) y { x with B := y } := Upd.map (UpdR.U (UpdR.at (UpdR.fst (UpdR.self rfl)) (by rfl : _ = 0)))
theorem comp_ref01_Reader_At (x : ref01_Reader) : Comp r_ref01_Reader x 1 (rI .i64) x.At := Comp.map (Comp.at' (Comp.inS (Comp.inF (Comp.self (rI .i64) x.At) (by decide))) (by rfl : _ = 1))
theorem upd_ref01_Reader_At (x : ref01_Reader) (y : Int) : Upd r_ref01_Reader x 1 (rI .i64) y { x with At := y } := Upd.map (UpdR.U (UpdR.at (UpdR.snd (UpdR.fst (UpdR.self rfl))) (by rfl : _ = 1)))
theorem comp_ref01_Reader_Failed (x : ref01_Reader) : Comp r_ref01_Reader x 2 rB x.Failed := Comp.map (Comp.at' (Comp.inS (Comp.inS (Comp.inF (Comp.self rB x.Failed) (by decide)))) (by rfl : _ = 2))
theorem upd_ref01_Reader_Failed (x : ref01_Reader) (y : Bool) : Upd r_ref01_Reader x 2 rB y { x with Failed := y } := Upd.map (UpdR.U (UpdR.at (UpdR.snd (UpdR.snd (UpdR.fst (UpdR.self rfl)))) (by rfl : _ = 2)))

theorem mixed : Try.prog.follows .mixedOrders = true := by kernel_rfl
theorem tu23 : Program.underlying Try.prog 23 = some (.slice 5) := by kernel_rfl
theorem tu35 : Program.underlying Try.prog 35 = some (.slice 43) := by kernel_rfl
theorem tu22 : Program.underlying Try.prog 22 = some (.int .u64) := by kernel_rfl
theorem tu5 : Program.underlying Try.prog 5 = some (.int .u8) := by kernel_rfl
theorem tz5 : tySz Try.prog 5 1 = true := by kernel_rfl
theorem tZ5 : tyZ Try.prog 5 (.int .u8 0) := by unfold tyZ; kernel_rfl
theorem tB5 : tyB Try.prog 5 1 1 (.int .u8 0) := tyB.of (by kernel_rfl)
theorem cl10 : callable Try.prog 10 = true := by kernel_rfl
theorem tu3 : Program.underlying Try.prog 3 = some (.int .i64) := by kernel_rfl
theorem cl31 : callable Try.prog 31 = true := by kernel_rfl
theorem zs48 : Zr (rP (rI .i64) (rP (rU UInt64) r0)) ((api_Dot.mk (0 : Int) (0 : UInt64)).Region, ((api_Dot.mk (0 : Int) (0 : UInt64)).Count, ())) (Value.cells (.agg #[.int .i64 0, .int .u64 0])).toList := (Zr.two (Zr.int _ _) (Zr.two (Zr.u _ rfl rfl) Zr.unit rfl) rfl)
theorem tZ48 : tyZ Try.prog 48 (.agg #[.int .i64 0, .int .u64 0]) := by unfold tyZ; kernel_rfl
theorem tp48 : tyPl Try.prog 48 [(0, 1), (1, 1)] := by unfold tyPl; kernel_rfl
theorem tf48_0 : tyF Try.prog 48 0 0 = true := by kernel_rfl
theorem tS3 : tyS Try.prog 3 = true := by kernel_rfl
theorem tf48_1 : tyF Try.prog 48 1 1 = true := by kernel_rfl
theorem tS22 : tyS Try.prog 22 = true := by kernel_rfl
theorem cl30 : callable Try.prog 30 = true := by kernel_rfl
theorem tu9 : Program.underlying Try.prog 9 = some .string := by kernel_rfl
theorem cl13 : callable Try.prog 13 = true := by kernel_rfl
theorem cl41 : callable Try.prog 41 = true := by kernel_rfl
theorem zr75 : Zr (rP (rW (HDR none 0 0 0)) (rP rB (rP rB r0))) ((), (false, (false, ()))) (Value.cells (.agg #[.slice none 0 0, .bool false, .bool false])).toList := (Zr.two (Zr.w (v := .slice none 0 0) rfl) (Zr.two (Zr.bool _) (Zr.two (Zr.bool _) Zr.unit rfl) rfl) rfl)
theorem tZ75 : tyZ Try.prog 75 (.agg #[.slice none 0 0, .bool false, .bool false]) := by unfold tyZ; kernel_rfl
theorem tp75 : tyPl Try.prog 75 [(0, 1), (1, 1), (2, 1)] := by unfold tyPl; kernel_rfl
theorem cl16 : callable Try.prog 16 = true := by kernel_rfl
theorem tu36 : Program.underlying Try.prog 36 = some (.pointer 75) := by kernel_rfl
theorem tf75_1 : tyF Try.prog 75 1 1 = true := by kernel_rfl
theorem tS4 : tyS Try.prog 4 = true := by kernel_rfl
theorem cl20 : callable Try.prog 20 = true := by kernel_rfl
theorem tf75_0 : tyF Try.prog 75 0 0 = true := by kernel_rfl
theorem tS23 : tyS Try.prog 23 = true := by kernel_rfl
theorem tA75 : tyA Try.prog 75 3 = true := by kernel_rfl
theorem cl47 : callable Try.prog 47 = true := by kernel_rfl
theorem tS5 : tyS Try.prog 5 = true := by kernel_rfl
theorem cl14 : callable Try.prog 14 = true := by kernel_rfl
theorem cl39 : callable Try.prog 39 = true := by kernel_rfl
theorem cl40 : callable Try.prog 40 = true := by kernel_rfl
theorem cl26 : callable Try.prog 26 = true := by kernel_rfl
theorem cl18 : callable Try.prog 18 = true := by kernel_rfl
theorem tf75_2 : tyF Try.prog 75 2 2 = true := by kernel_rfl
theorem cl21 : callable Try.prog 21 = true := by kernel_rfl
theorem cl9 : callable Try.prog 9 = true := by kernel_rfl
theorem zr40 : Zr (rP (rW (HDR none 0 0 0)) (rP (rI .i64) (rP rB r0))) ((), ((0 : Int), (false, ()))) (Value.cells (.agg #[.slice none 0 0, .int .i64 0, .bool false])).toList := (Zr.two (Zr.w (v := .slice none 0 0) rfl) (Zr.two (Zr.int _ _) (Zr.two (Zr.bool _) Zr.unit rfl) rfl) rfl)
theorem tZ40 : tyZ Try.prog 40 (.agg #[.slice none 0 0, .int .i64 0, .bool false]) := by unfold tyZ; kernel_rfl
theorem tp40 : tyPl Try.prog 40 [(0, 1), (1, 1), (2, 1)] := by unfold tyPl; kernel_rfl
theorem tz43 : tySz Try.prog 43 2 = true := by kernel_rfl
theorem tA43 : tyA Try.prog 43 2 = true := by kernel_rfl
theorem tf43_0 : tyF Try.prog 43 0 0 = true := by kernel_rfl
theorem tf43_1 : tyF Try.prog 43 1 1 = true := by kernel_rfl
theorem tf40_2 : tyF Try.prog 40 2 2 = true := by kernel_rfl
theorem tf40_0 : tyF Try.prog 40 0 0 = true := by kernel_rfl
theorem tf40_1 : tyF Try.prog 40 1 1 = true := by kernel_rfl
theorem cl46 : callable Try.prog 46 = true := by kernel_rfl
theorem cl15 : callable Try.prog 15 = true := by kernel_rfl
theorem cl42 : callable Try.prog 42 = true := by kernel_rfl
theorem cl43 : callable Try.prog 43 = true := by kernel_rfl
theorem zr48 : Zr r_api_Dot (api_Dot.mk (0 : Int) (0 : UInt64)) (Value.cells (.agg #[.int .i64 0, .int .u64 0])).toList := (Zr.map (Zr.two (Zr.int _ _) (Zr.two (Zr.u _ rfl rfl) Zr.unit rfl) rfl))
theorem tA48 : tyA Try.prog 48 2 = true := by kernel_rfl
theorem cl27 : callable Try.prog 27 = true := by kernel_rfl
theorem zv48 : Zr r_api_Dot (api_Dot.mk (0 : Int) (0 : UInt64)) (Value.cells (.agg #[.int .i64 0, .int .u64 0])).toList := (Zr.map (Zr.two (Zr.int _ _) (Zr.two (Zr.u _ rfl rfl) Zr.unit rfl) rfl))
theorem cl44 : callable Try.prog 44 = true := by kernel_rfl
theorem tu48 : Program.underlying Try.prog 48 = some (.struct (Program.fieldsOf Try.prog 48)) := by kernel_rfl
theorem fl48 : (Program.fieldsOf Try.prog 48).toList = [{ name := "Region", type := 3, offset := 0, embedded := false, tag := "", pkgPath := "", byteOffset := 0 }, { name := "Count", type := 22, offset := 1, embedded := false, tag := "", pkgPath := "", byteOffset := 8 }] := by kernel_rfl
theorem nh48 : notHeld Try.prog 48 = true := by kernel_rfl
theorem qa48 : EqA Try.prog 2 48 r_api_Dot eq_api_Dot := EqA.struct tu48 nh48 (by rw [fl48]; exact (EqF.consS (by decide) rfl tS3 rfl (EqS.int tu3) (EqF.consS (by decide) rfl tS22 rfl (EqS.u (U := UInt64) tu22) EqF.nil))) (fun _ _ => rfl)
theorem ng48 : noGuard Try.prog 48 = true := by kernel_rfl
theorem tZ50 : tyZ Try.prog 50 (.agg #[.int .u64 0, .int .u64 0, .int .u64 0, .int .u64 0, .int .u64 0, .int .u64 0, .int .u64 0, .int .u64 0, .int .u64 0, .int .u64 0, .int .u64 0, .int .u64 0, .int .u64 0, .int .u64 0, .int .u64 0, .int .u64 0]) := by unfold tyZ; kernel_rfl
theorem zr50 : Zr (rV 16 (rU UInt64)) (Vector.replicate 16 (0 : UInt64)) (Value.cells (.agg #[.int .u64 0, .int .u64 0, .int .u64 0, .int .u64 0, .int .u64 0, .int .u64 0, .int .u64 0, .int .u64 0, .int .u64 0, .int .u64 0, .int .u64 0, .int .u64 0, .int .u64 0, .int .u64 0, .int .u64 0, .int .u64 0])).toList := (Zr.vec (Zr.u _ rfl rfl) rfl)
theorem tZ36 : tyZ Try.prog 36 (.pointer none) := by unfold tyZ; kernel_rfl
theorem zr36 : Zr (rW (PTO none)) () (Value.cells (.pointer none)).toList := (Zr.w (v := .pointer none) rfl)
theorem tS36 : tyS Try.prog 36 = true := by kernel_rfl
theorem cl48 : callable Try.prog 48 = true := by kernel_rfl
theorem tr50 : tyAr Try.prog 50 16 1 = true := by kernel_rfl
theorem tA50 : tyA Try.prog 50 16 = true := by kernel_rfl
theorem cl28 : callable Try.prog 28 = true := by kernel_rfl
theorem cl45 : callable Try.prog 45 = true := by kernel_rfl
theorem tu50 : Program.underlying Try.prog 50 = some (.array 16 22) := by kernel_rfl
theorem qa50 : EqA Try.prog 2 50 (rV 16 (rU UInt64)) (eqV (fun x y => x == y)) := EqA.arrS tu50 tS22 rfl (EqS.u (U := UInt64) tu22)
theorem ng50 : noGuard Try.prog 50 = true := by kernel_rfl
theorem cl17 : callable Try.prog 17 = true := by kernel_rfl
theorem cl19 : callable Try.prog 19 = true := by kernel_rfl
theorem tu4 : Program.underlying Try.prog 4 = some .bool := by kernel_rfl
theorem cl22 : callable Try.prog 22 = true := by kernel_rfl
theorem tu43 : Program.underlying Try.prog 43 = some (.struct (Program.fieldsOf Try.prog 43)) := by kernel_rfl
theorem fl43 : (Program.fieldsOf Try.prog 43).toList = [{ name := "Kind", type := 3, offset := 0, embedded := false, tag := "", pkgPath := "", byteOffset := 0 }, { name := "N", type := 3, offset := 1, embedded := false, tag := "", pkgPath := "", byteOffset := 8 }] := by kernel_rfl
end Go.Proofs.Ytkbkdfcakpbojaa
