/- What the walks read off the program's types. -/
import Derived.Test.YtnhiiabdoichlaaProg
import Derived.Test.YtnhiiabdoichlaaFr
import Derived.Test.YtnhiiabdoichlaaS
namespace Go.Proofs.Ytnhiiabdoichlaa
open Go Fw
set_option linter.unusedVariables false

def sha_state.tup (x : sha_state) : (Vector UInt32 8) × (Vector UInt32 64) × Unit := (x.h, (x.k, ()))
abbrev r_sha_state : Rep sha_state := rM sha_state.tup (rP (rV 8 (rU UInt32)) (rP (rV 64 (rU UInt32)) r0))
theorem comp_sha_state_h (x : sha_state) : Comp r_sha_state x 0 (rV 8 (rU UInt32)) x.h := Comp.map (Comp.at' (Comp.inF (Comp.self (rV 8 (rU UInt32)) x.h) (by decide)) (by rfl : _ = 0))
theorem upd_sha_state_h (x : sha_state) (y : (Vector UInt32 8)) : Upd r_sha_state x 0 (rV 8 (rU UInt32)) y { x with h := y } := Upd.map (UpdR.U (UpdR.at (UpdR.fst (UpdR.self rfl)) (by rfl : _ = 0)))
theorem comp_sha_state_k (x : sha_state) : Comp r_sha_state x 8 (rV 64 (rU UInt32)) x.k := Comp.map (Comp.at' (Comp.inS (Comp.inF (Comp.self (rV 64 (rU UInt32)) x.k) (by decide))) (by rfl : _ = 8))
theorem upd_sha_state_k (x : sha_state) (y : (Vector UInt32 64)) : Upd r_sha_state x 8 (rV 64 (rU UInt32)) y { x with k := y } := Upd.map (UpdR.U (UpdR.at (UpdR.snd (UpdR.fst (UpdR.self rfl))) (by rfl : _ = 8)))

def wire_Reader.tup (x : wire_Reader) : (List UInt8) × Bool × Bool × Unit := (x.rest, (x.is, (x.made, ())))
abbrev r_wire_Reader : Rep wire_Reader := rM wire_Reader.tup (rP (rL (rU UInt8)) (rP rB (rP rB r0)))
theorem comp_wire_Reader_rest (x : wire_Reader) : Comp r_wire_Reader x 0 (rL (rU UInt8)) x.rest := Comp.map (Comp.at' (Comp.inF (Comp.self (rL (rU UInt8)) x.rest) (by decide)) (by rfl : _ = 0))
theorem upd_wire_Reader_rest (x : wire_Reader) (y : (List UInt8)) : Upd r_wire_Reader x 0 (rL (rU UInt8)) y { x with rest := y } := Upd.map (UpdR.U (UpdR.at (UpdR.fst (UpdR.self rfl)) (by rfl : _ = 0)))
theorem comp_wire_Reader_is (x : wire_Reader) : Comp r_wire_Reader x 1 rB x.is := Comp.map (Comp.at' (Comp.inS (Comp.inF (Comp.self rB x.is) (by decide))) (by rfl : _ = 1))
theorem upd_wire_Reader_is (x : wire_Reader) (y : Bool) : Upd r_wire_Reader x 1 rB y { x with is := y } := Upd.map (UpdR.U (UpdR.at (UpdR.snd (UpdR.fst (UpdR.self rfl))) (by rfl : _ = 1)))
theorem comp_wire_Reader_made (x : wire_Reader) : Comp r_wire_Reader x 2 rB x.made := Comp.map (Comp.at' (Comp.inS (Comp.inS (Comp.inF (Comp.self rB x.made) (by decide)))) (by rfl : _ = 2))
theorem upd_wire_Reader_made (x : wire_Reader) (y : Bool) : Upd r_wire_Reader x 2 rB y { x with made := y } := Upd.map (UpdR.U (UpdR.at (UpdR.snd (UpdR.snd (UpdR.fst (UpdR.self rfl)))) (by rfl : _ = 2)))

theorem mixed : Try.prog.follows .mixedOrders = true := by kernel_rfl
theorem tu22 : Program.underlying Try.prog 22 = some (.slice 5) := by kernel_rfl
theorem tz5 : tySz Try.prog 5 1 = true := by kernel_rfl
theorem tZ5 : tyZ Try.prog 5 (.int .u8 0) := by unfold tyZ; kernel_rfl
theorem tu5 : Program.underlying Try.prog 5 = some (.int .u8) := by kernel_rfl
theorem tZ25 : tyZ Try.prog 25 (.agg #[.int .u64 0, .int .u64 0, .int .u64 0, .int .u64 0, .int .u64 0, .int .u64 0, .int .u64 0, .int .u64 0, .int .u64 0, .int .u64 0, .int .u64 0, .int .u64 0, .int .u64 0, .int .u64 0, .int .u64 0, .int .u64 0]) := by unfold tyZ; kernel_rfl
theorem zv25 : Zr (rV 16 (rU UInt64)) (Vector.replicate 16 (0 : UInt64)) (Value.cells (.agg #[.int .u64 0, .int .u64 0, .int .u64 0, .int .u64 0, .int .u64 0, .int .u64 0, .int .u64 0, .int .u64 0, .int .u64 0, .int .u64 0, .int .u64 0, .int .u64 0, .int .u64 0, .int .u64 0, .int .u64 0, .int .u64 0])).toList := (Zr.vec (Zr.u _ rfl rfl) rfl)
theorem tp25 : tyPl Try.prog 25 [(0, 1), (1, 1), (2, 1), (3, 1), (4, 1), (5, 1), (6, 1), (7, 1), (8, 1), (9, 1), (10, 1), (11, 1), (12, 1), (13, 1), (14, 1), (15, 1)] := by unfold tyPl; kernel_rfl
theorem zr25 : Zr (rV 16 (rU UInt64)) (Vector.replicate 16 (0 : UInt64)) (Value.cells (.agg #[.int .u64 0, .int .u64 0, .int .u64 0, .int .u64 0, .int .u64 0, .int .u64 0, .int .u64 0, .int .u64 0, .int .u64 0, .int .u64 0, .int .u64 0, .int .u64 0, .int .u64 0, .int .u64 0, .int .u64 0, .int .u64 0])).toList := (Zr.vec (Zr.u _ rfl rfl) rfl)
theorem tA25 : tyA Try.prog 25 16 = true := by kernel_rfl
theorem tu9 : Program.underlying Try.prog 9 = some .string := by kernel_rfl
theorem cl19 : callable Try.prog 19 = true := by kernel_rfl
theorem tu25 : Program.underlying Try.prog 25 = some (.array 16 23) := by kernel_rfl
theorem tS23 : tyS Try.prog 23 = true := by kernel_rfl
theorem cl14 : callable Try.prog 14 = true := by kernel_rfl
theorem tu23 : Program.underlying Try.prog 23 = some (.int .u64) := by kernel_rfl
theorem tB5 : tyB Try.prog 5 1 1 (.int .u8 0) := tyB.of (by kernel_rfl)
theorem cl30 : callable Try.prog 30 = true := by kernel_rfl
theorem cl20 : callable Try.prog 20 = true := by kernel_rfl
theorem tZ45 : tyZ Try.prog 45 (.agg #[.int .u8 0, .int .u8 0, .int .u8 0, .int .u8 0, .int .u8 0, .int .u8 0, .int .u8 0, .int .u8 0, .int .u8 0, .int .u8 0, .int .u8 0, .int .u8 0, .int .u8 0, .int .u8 0, .int .u8 0, .int .u8 0, .int .u8 0, .int .u8 0, .int .u8 0, .int .u8 0, .int .u8 0, .int .u8 0, .int .u8 0, .int .u8 0, .int .u8 0, .int .u8 0, .int .u8 0, .int .u8 0, .int .u8 0, .int .u8 0, .int .u8 0, .int .u8 0]) := by unfold tyZ; kernel_rfl
theorem zr45 : Zr (rV 32 (rU UInt8)) (Vector.replicate 32 (0 : UInt8)) (Value.cells (.agg #[.int .u8 0, .int .u8 0, .int .u8 0, .int .u8 0, .int .u8 0, .int .u8 0, .int .u8 0, .int .u8 0, .int .u8 0, .int .u8 0, .int .u8 0, .int .u8 0, .int .u8 0, .int .u8 0, .int .u8 0, .int .u8 0, .int .u8 0, .int .u8 0, .int .u8 0, .int .u8 0, .int .u8 0, .int .u8 0, .int .u8 0, .int .u8 0, .int .u8 0, .int .u8 0, .int .u8 0, .int .u8 0, .int .u8 0, .int .u8 0, .int .u8 0, .int .u8 0])).toList := (Zr.vec (Zr.u _ rfl rfl) rfl)
theorem tu3 : Program.underlying Try.prog 3 = some (.int .i64) := by kernel_rfl
theorem cl31 : callable Try.prog 31 = true := by kernel_rfl
theorem tu65 : Program.underlying Try.prog 65 = some (.slice 22) := by kernel_rfl
theorem tz22 : tySz Try.prog 22 1 = true := by kernel_rfl
theorem tZ22 : tyZ Try.prog 22 (.slice none 0 0) := by unfold tyZ; kernel_rfl
theorem tZ70 : tyZ Try.prog 70 (.agg #[.int .u32 0, .int .u32 0, .int .u32 0, .int .u32 0, .int .u32 0, .int .u32 0, .int .u32 0, .int .u32 0, .int .u32 0, .int .u32 0, .int .u32 0, .int .u32 0, .int .u32 0, .int .u32 0, .int .u32 0, .int .u32 0, .int .u32 0, .int .u32 0, .int .u32 0, .int .u32 0, .int .u32 0, .int .u32 0, .int .u32 0, .int .u32 0, .int .u32 0, .int .u32 0, .int .u32 0, .int .u32 0, .int .u32 0, .int .u32 0, .int .u32 0, .int .u32 0, .int .u32 0, .int .u32 0, .int .u32 0, .int .u32 0, .int .u32 0, .int .u32 0, .int .u32 0, .int .u32 0, .int .u32 0, .int .u32 0, .int .u32 0, .int .u32 0, .int .u32 0, .int .u32 0, .int .u32 0, .int .u32 0, .int .u32 0, .int .u32 0, .int .u32 0, .int .u32 0, .int .u32 0, .int .u32 0, .int .u32 0, .int .u32 0, .int .u32 0, .int .u32 0, .int .u32 0, .int .u32 0, .int .u32 0, .int .u32 0, .int .u32 0, .int .u32 0, .int .u32 0, .int .u32 0, .int .u32 0, .int .u32 0, .int .u32 0, .int .u32 0, .int .u32 0, .int .u32 0]) := by unfold tyZ; kernel_rfl
theorem zr70 : Zr r_sha_state (sha_state.mk (Vector.replicate 8 (0 : UInt32)) (Vector.replicate 64 (0 : UInt32))) (Value.cells (.agg #[.int .u32 0, .int .u32 0, .int .u32 0, .int .u32 0, .int .u32 0, .int .u32 0, .int .u32 0, .int .u32 0, .int .u32 0, .int .u32 0, .int .u32 0, .int .u32 0, .int .u32 0, .int .u32 0, .int .u32 0, .int .u32 0, .int .u32 0, .int .u32 0, .int .u32 0, .int .u32 0, .int .u32 0, .int .u32 0, .int .u32 0, .int .u32 0, .int .u32 0, .int .u32 0, .int .u32 0, .int .u32 0, .int .u32 0, .int .u32 0, .int .u32 0, .int .u32 0, .int .u32 0, .int .u32 0, .int .u32 0, .int .u32 0, .int .u32 0, .int .u32 0, .int .u32 0, .int .u32 0, .int .u32 0, .int .u32 0, .int .u32 0, .int .u32 0, .int .u32 0, .int .u32 0, .int .u32 0, .int .u32 0, .int .u32 0, .int .u32 0, .int .u32 0, .int .u32 0, .int .u32 0, .int .u32 0, .int .u32 0, .int .u32 0, .int .u32 0, .int .u32 0, .int .u32 0, .int .u32 0, .int .u32 0, .int .u32 0, .int .u32 0, .int .u32 0, .int .u32 0, .int .u32 0, .int .u32 0, .int .u32 0, .int .u32 0, .int .u32 0, .int .u32 0, .int .u32 0])).toList := (Zr.map (Zr.two (Zr.vec (Zr.u _ rfl rfl) rfl) (Zr.two (Zr.vec (Zr.u _ rfl rfl) rfl) Zr.unit rfl) rfl))
theorem tZ23 : tyZ Try.prog 23 (.int .u64 0) := by unfold tyZ; kernel_rfl
theorem zr23 : Zr (rU UInt64) (0 : UInt64) (Value.cells (.int .u64 0)).toList := (Zr.u _ rfl rfl)
theorem tu81 : Program.underlying Try.prog 81 = some (.slice 23) := by kernel_rfl
theorem tz23 : tySz Try.prog 23 1 = true := by kernel_rfl
theorem cl54 : callable Try.prog 54 = true := by kernel_rfl
theorem cl65 : callable Try.prog 65 = true := by kernel_rfl
theorem cl53 : callable Try.prog 53 = true := by kernel_rfl
theorem tB23 : tyB Try.prog 23 1 8 (.int .u64 0) := tyB.of (by kernel_rfl)
theorem cl46 : callable Try.prog 46 = true := by kernel_rfl
theorem tZ91 : tyZ Try.prog 91 (.agg #[.int .u64 0, .int .u64 0]) := by unfold tyZ; kernel_rfl
theorem zr91 : Zr (rV 2 (rU UInt64)) (Vector.replicate 2 (0 : UInt64)) (Value.cells (.agg #[.int .u64 0, .int .u64 0])).toList := (Zr.vec (Zr.u _ rfl rfl) rfl)
theorem cl66 : callable Try.prog 66 = true := by kernel_rfl
theorem zv91 : Zr (rV 2 (rU UInt64)) (Vector.replicate 2 (0 : UInt64)) (Value.cells (.agg #[.int .u64 0, .int .u64 0])).toList := (Zr.vec (Zr.u _ rfl rfl) rfl)
theorem tp91 : tyPl Try.prog 91 [(0, 1), (1, 1)] := by unfold tyPl; kernel_rfl
theorem tA91 : tyA Try.prog 91 2 = true := by kernel_rfl
theorem cl60 : callable Try.prog 60 = true := by kernel_rfl
theorem tr91 : tyAr Try.prog 91 2 1 = true := by kernel_rfl
theorem ex67 : isExt Try.prog 67 exAdd64 := ⟨Try.f67, rfl, by kernel_rfl, rfl, by kernel_rfl, by kernel_rfl⟩
theorem cl57 : callable Try.prog 57 = true := by kernel_rfl
theorem cl58 : callable Try.prog 58 = true := by kernel_rfl
theorem cl56 : callable Try.prog 56 = true := by kernel_rfl
theorem tu66 : Program.underlying Try.prog 66 = some (.int .u32) := by kernel_rfl
theorem cl55 : callable Try.prog 55 = true := by kernel_rfl
theorem cl47 : callable Try.prog 47 = true := by kernel_rfl
theorem tf70_1 : tyF Try.prog 70 1 8 = true := by kernel_rfl
theorem tr68 : tyAr Try.prog 68 64 1 = true := by kernel_rfl
theorem tS66 : tyS Try.prog 66 = true := by kernel_rfl
theorem cl59 : callable Try.prog 59 = true := by kernel_rfl
theorem cl48 : callable Try.prog 48 = true := by kernel_rfl
theorem tf70_0 : tyF Try.prog 70 0 0 = true := by kernel_rfl
theorem tr67 : tyAr Try.prog 67 8 1 = true := by kernel_rfl
theorem tA70 : tyA Try.prog 70 72 = true := by kernel_rfl
theorem cl39 : callable Try.prog 39 = true := by kernel_rfl
theorem tS22 : tyS Try.prog 22 = true := by kernel_rfl
theorem zv5 : Zr (rU UInt8) (0 : UInt8) (Value.cells (.int .u8 0)).toList := (Zr.u _ rfl rfl)
theorem cl61 : callable Try.prog 61 = true := by kernel_rfl
theorem cl49 : callable Try.prog 49 = true := by kernel_rfl
theorem tZ68 : tyZ Try.prog 68 (.agg #[.int .u32 0, .int .u32 0, .int .u32 0, .int .u32 0, .int .u32 0, .int .u32 0, .int .u32 0, .int .u32 0, .int .u32 0, .int .u32 0, .int .u32 0, .int .u32 0, .int .u32 0, .int .u32 0, .int .u32 0, .int .u32 0, .int .u32 0, .int .u32 0, .int .u32 0, .int .u32 0, .int .u32 0, .int .u32 0, .int .u32 0, .int .u32 0, .int .u32 0, .int .u32 0, .int .u32 0, .int .u32 0, .int .u32 0, .int .u32 0, .int .u32 0, .int .u32 0, .int .u32 0, .int .u32 0, .int .u32 0, .int .u32 0, .int .u32 0, .int .u32 0, .int .u32 0, .int .u32 0, .int .u32 0, .int .u32 0, .int .u32 0, .int .u32 0, .int .u32 0, .int .u32 0, .int .u32 0, .int .u32 0, .int .u32 0, .int .u32 0, .int .u32 0, .int .u32 0, .int .u32 0, .int .u32 0, .int .u32 0, .int .u32 0, .int .u32 0, .int .u32 0, .int .u32 0, .int .u32 0, .int .u32 0, .int .u32 0, .int .u32 0, .int .u32 0]) := by unfold tyZ; kernel_rfl
theorem zr68 : Zr (rV 64 (rU UInt32)) (Vector.replicate 64 (0 : UInt32)) (Value.cells (.agg #[.int .u32 0, .int .u32 0, .int .u32 0, .int .u32 0, .int .u32 0, .int .u32 0, .int .u32 0, .int .u32 0, .int .u32 0, .int .u32 0, .int .u32 0, .int .u32 0, .int .u32 0, .int .u32 0, .int .u32 0, .int .u32 0, .int .u32 0, .int .u32 0, .int .u32 0, .int .u32 0, .int .u32 0, .int .u32 0, .int .u32 0, .int .u32 0, .int .u32 0, .int .u32 0, .int .u32 0, .int .u32 0, .int .u32 0, .int .u32 0, .int .u32 0, .int .u32 0, .int .u32 0, .int .u32 0, .int .u32 0, .int .u32 0, .int .u32 0, .int .u32 0, .int .u32 0, .int .u32 0, .int .u32 0, .int .u32 0, .int .u32 0, .int .u32 0, .int .u32 0, .int .u32 0, .int .u32 0, .int .u32 0, .int .u32 0, .int .u32 0, .int .u32 0, .int .u32 0, .int .u32 0, .int .u32 0, .int .u32 0, .int .u32 0, .int .u32 0, .int .u32 0, .int .u32 0, .int .u32 0, .int .u32 0, .int .u32 0, .int .u32 0, .int .u32 0])).toList := (Zr.vec (Zr.u _ rfl rfl) rfl)
theorem tS5 : tyS Try.prog 5 = true := by kernel_rfl
theorem tu98 : Program.underlying Try.prog 98 = some (.slice 3) := by kernel_rfl
theorem tz3 : tySz Try.prog 3 1 = true := by kernel_rfl
theorem tZ3 : tyZ Try.prog 3 (.int .i64 0) := by unfold tyZ; kernel_rfl
theorem tS3 : tyS Try.prog 3 = true := by kernel_rfl
theorem tu80 : Program.underlying Try.prog 80 = some (.int .u64) := by kernel_rfl
theorem cl63 : callable Try.prog 63 = true := by kernel_rfl
theorem cl62 : callable Try.prog 62 = true := by kernel_rfl
theorem tZ67 : tyZ Try.prog 67 (.agg #[.int .u32 0, .int .u32 0, .int .u32 0, .int .u32 0, .int .u32 0, .int .u32 0, .int .u32 0, .int .u32 0]) := by unfold tyZ; kernel_rfl
theorem zv67 : Zr (rV 8 (rU UInt32)) (Vector.replicate 8 (0 : UInt32)) (Value.cells (.agg #[.int .u32 0, .int .u32 0, .int .u32 0, .int .u32 0, .int .u32 0, .int .u32 0, .int .u32 0, .int .u32 0])).toList := (Zr.vec (Zr.u _ rfl rfl) rfl)
theorem tp67 : tyPl Try.prog 67 [(0, 1), (1, 1), (2, 1), (3, 1), (4, 1), (5, 1), (6, 1), (7, 1)] := by unfold tyPl; kernel_rfl
theorem tu67 : Program.underlying Try.prog 67 = some (.array 8 66) := by kernel_rfl
theorem cl50 : callable Try.prog 50 = true := by kernel_rfl
theorem tr45 : tyAr Try.prog 45 32 1 = true := by kernel_rfl
theorem tA45 : tyA Try.prog 45 32 = true := by kernel_rfl
theorem cl40 : callable Try.prog 40 = true := by kernel_rfl
theorem tu45 : Program.underlying Try.prog 45 = some (.array 32 5) := by kernel_rfl
theorem tZ73 : tyZ Try.prog 73 (.agg #[.int .u8 0, .int .u8 0, .int .u8 0, .int .u8 0, .int .u8 0, .int .u8 0, .int .u8 0, .int .u8 0, .int .u8 0, .int .u8 0, .int .u8 0, .int .u8 0, .int .u8 0, .int .u8 0, .int .u8 0, .int .u8 0, .int .u8 0, .int .u8 0, .int .u8 0, .int .u8 0, .int .u8 0, .int .u8 0, .int .u8 0, .int .u8 0, .int .u8 0, .int .u8 0, .int .u8 0, .int .u8 0, .int .u8 0, .int .u8 0, .int .u8 0, .int .u8 0, .int .u8 0, .int .u8 0, .int .u8 0, .int .u8 0, .int .u8 0, .int .u8 0, .int .u8 0, .int .u8 0, .int .u8 0, .int .u8 0, .int .u8 0, .int .u8 0, .int .u8 0, .int .u8 0, .int .u8 0, .int .u8 0, .int .u8 0, .int .u8 0, .int .u8 0, .int .u8 0, .int .u8 0, .int .u8 0, .int .u8 0, .int .u8 0, .int .u8 0, .int .u8 0, .int .u8 0, .int .u8 0, .int .u8 0, .int .u8 0, .int .u8 0, .int .u8 0]) := by unfold tyZ; kernel_rfl
theorem zr73 : Zr (rV 64 (rU UInt8)) (Vector.replicate 64 (0 : UInt8)) (Value.cells (.agg #[.int .u8 0, .int .u8 0, .int .u8 0, .int .u8 0, .int .u8 0, .int .u8 0, .int .u8 0, .int .u8 0, .int .u8 0, .int .u8 0, .int .u8 0, .int .u8 0, .int .u8 0, .int .u8 0, .int .u8 0, .int .u8 0, .int .u8 0, .int .u8 0, .int .u8 0, .int .u8 0, .int .u8 0, .int .u8 0, .int .u8 0, .int .u8 0, .int .u8 0, .int .u8 0, .int .u8 0, .int .u8 0, .int .u8 0, .int .u8 0, .int .u8 0, .int .u8 0, .int .u8 0, .int .u8 0, .int .u8 0, .int .u8 0, .int .u8 0, .int .u8 0, .int .u8 0, .int .u8 0, .int .u8 0, .int .u8 0, .int .u8 0, .int .u8 0, .int .u8 0, .int .u8 0, .int .u8 0, .int .u8 0, .int .u8 0, .int .u8 0, .int .u8 0, .int .u8 0, .int .u8 0, .int .u8 0, .int .u8 0, .int .u8 0, .int .u8 0, .int .u8 0, .int .u8 0, .int .u8 0, .int .u8 0, .int .u8 0, .int .u8 0, .int .u8 0])).toList := (Zr.vec (Zr.u _ rfl rfl) rfl)
theorem tu73 : Program.underlying Try.prog 73 = some (.array 64 5) := by kernel_rfl
theorem tA73 : tyA Try.prog 73 64 = true := by kernel_rfl
theorem tr73 : tyAr Try.prog 73 64 1 = true := by kernel_rfl
theorem tB22 : tyB Try.prog 22 1 24 (.slice none 0 0) := tyB.of (by kernel_rfl)
theorem cl32 : callable Try.prog 32 = true := by kernel_rfl
theorem cl21 : callable Try.prog 21 = true := by kernel_rfl
theorem cl7 : callable Try.prog 7 = true := by kernel_rfl
theorem cl8 : callable Try.prog 8 = true := by kernel_rfl
theorem cl33 : callable Try.prog 33 = true := by kernel_rfl
theorem zr58 : Zr (rP (rW (HDR none 0 0 0)) (rP rB (rP rB r0))) ((), (false, (false, ()))) (Value.cells (.agg #[.slice none 0 0, .bool false, .bool false])).toList := (Zr.two (Zr.w (v := .slice none 0 0) rfl) (Zr.two (Zr.bool _) (Zr.two (Zr.bool _) Zr.unit rfl) rfl) rfl)
theorem tZ58 : tyZ Try.prog 58 (.agg #[.slice none 0 0, .bool false, .bool false]) := by unfold tyZ; kernel_rfl
theorem tp58 : tyPl Try.prog 58 [(0, 1), (1, 1), (2, 1)] := by unfold tyPl; kernel_rfl
theorem cl22 : callable Try.prog 22 = true := by kernel_rfl
theorem tu47 : Program.underlying Try.prog 47 = some (.pointer 58) := by kernel_rfl
theorem tf58_1 : tyF Try.prog 58 1 1 = true := by kernel_rfl
theorem tS4 : tyS Try.prog 4 = true := by kernel_rfl
theorem cl41 : callable Try.prog 41 = true := by kernel_rfl
theorem tf58_0 : tyF Try.prog 58 0 0 = true := by kernel_rfl
theorem tA58 : tyA Try.prog 58 3 = true := by kernel_rfl
theorem cl34 : callable Try.prog 34 = true := by kernel_rfl
theorem tZ47 : tyZ Try.prog 47 (.pointer none) := by unfold tyZ; kernel_rfl
theorem zr47 : Zr (rW (PTO none)) () (Value.cells (.pointer none)).toList := (Zr.w (v := .pointer none) rfl)
theorem tS47 : tyS Try.prog 47 = true := by kernel_rfl
theorem cl42 : callable Try.prog 42 = true := by kernel_rfl
theorem cl36 : callable Try.prog 36 = true := by kernel_rfl
theorem cl35 : callable Try.prog 35 = true := by kernel_rfl
theorem tr25 : tyAr Try.prog 25 16 1 = true := by kernel_rfl
theorem cl23 : callable Try.prog 23 = true := by kernel_rfl
theorem cl24 : callable Try.prog 24 = true := by kernel_rfl
theorem cl9 : callable Try.prog 9 = true := by kernel_rfl
theorem qa25 : EqA Try.prog 2 25 (rV 16 (rU UInt64)) (eqV (fun x y => x == y)) := EqA.arrS tu25 tS23 rfl (EqS.u (U := UInt64) tu23)
theorem ng25 : noGuard Try.prog 25 = true := by kernel_rfl
theorem cl6 : callable Try.prog 6 = true := by kernel_rfl
theorem tu4 : Program.underlying Try.prog 4 = some .bool := by kernel_rfl
theorem cl10 : callable Try.prog 10 = true := by kernel_rfl
theorem cl25 : callable Try.prog 25 = true := by kernel_rfl
theorem cl11 : callable Try.prog 11 = true := by kernel_rfl
theorem cl37 : callable Try.prog 37 = true := by kernel_rfl
theorem cl26 : callable Try.prog 26 = true := by kernel_rfl
theorem cl28 : callable Try.prog 28 = true := by kernel_rfl
theorem zr67 : Zr (rV 8 (rU UInt32)) (Vector.replicate 8 (0 : UInt32)) (Value.cells (.agg #[.int .u32 0, .int .u32 0, .int .u32 0, .int .u32 0, .int .u32 0, .int .u32 0, .int .u32 0, .int .u32 0])).toList := (Zr.vec (Zr.u _ rfl rfl) rfl)
theorem tu76 : Program.underlying Try.prog 76 = some (.slice 66) := by kernel_rfl
theorem cl64 : callable Try.prog 64 = true := by kernel_rfl
theorem cl51 : callable Try.prog 51 = true := by kernel_rfl
theorem tz66 : tySz Try.prog 66 1 = true := by kernel_rfl
theorem tZ66 : tyZ Try.prog 66 (.int .u32 0) := by unfold tyZ; kernel_rfl
theorem tB66 : tyB Try.prog 66 1 4 (.int .u32 0) := tyB.of (by kernel_rfl)
theorem tA67 : tyA Try.prog 67 8 = true := by kernel_rfl
theorem cl43 : callable Try.prog 43 = true := by kernel_rfl
theorem cl44 : callable Try.prog 44 = true := by kernel_rfl
theorem cl29 : callable Try.prog 29 = true := by kernel_rfl
theorem cl52 : callable Try.prog 52 = true := by kernel_rfl
theorem cl45 : callable Try.prog 45 = true := by kernel_rfl
theorem cl38 : callable Try.prog 38 = true := by kernel_rfl
theorem cl27 : callable Try.prog 27 = true := by kernel_rfl
theorem cl12 : callable Try.prog 12 = true := by kernel_rfl
theorem cl13 : callable Try.prog 13 = true := by kernel_rfl
theorem cl15 : callable Try.prog 15 = true := by kernel_rfl
theorem cl16 : callable Try.prog 16 = true := by kernel_rfl
theorem cl17 : callable Try.prog 17 = true := by kernel_rfl
theorem cl18 : callable Try.prog 18 = true := by kernel_rfl
end Go.Proofs.Ytnhiiabdoichlaa
