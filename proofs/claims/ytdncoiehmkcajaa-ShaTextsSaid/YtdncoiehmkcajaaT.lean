/- What the walks read off the program's types. -/
import Derived.Test.YtdncoiehmkcajaaProg
import Derived.Test.YtdncoiehmkcajaaFr
import Derived.Test.YtdncoiehmkcajaaS
namespace Go.Proofs.Ytdncoiehmkcajaa
open Go Fw
set_option linter.unusedVariables false

def sha_state.tup (x : sha_state) : (Vector UInt32 8) × (Vector UInt32 64) × Unit := (x.h, (x.k, ()))
abbrev r_sha_state : Rep sha_state := rM sha_state.tup (rP (rV 8 (rU UInt32)) (rP (rV 64 (rU UInt32)) r0))
theorem comp_sha_state_h (x : sha_state) : Comp r_sha_state x 0 (rV 8 (rU UInt32)) x.h := Comp.map (Comp.at' (Comp.inF (Comp.self (rV 8 (rU UInt32)) x.h) (by decide)) (by rfl : _ = 0))
theorem upd_sha_state_h (x : sha_state) (y : (Vector UInt32 8)) : Upd r_sha_state x 0 (rV 8 (rU UInt32)) y { x with h := y } := Upd.map (UpdR.U (UpdR.at (UpdR.fst (UpdR.self rfl)) (by rfl : _ = 0)))
theorem comp_sha_state_k (x : sha_state) : Comp r_sha_state x 8 (rV 64 (rU UInt32)) x.k := Comp.map (Comp.at' (Comp.inS (Comp.inF (Comp.self (rV 64 (rU UInt32)) x.k) (by decide))) (by rfl : _ = 8))
theorem upd_sha_state_k (x : sha_state) (y : (Vector UInt32 64)) : Upd r_sha_state x 8 (rV 64 (rU UInt32)) y { x with k := y } := Upd.map (UpdR.U (UpdR.at (UpdR.snd (UpdR.fst (UpdR.self rfl))) (by rfl : _ = 8)))

theorem mixed : Try.prog.follows .mixedOrders = true := by kernel_rfl
theorem tu22 : Program.underlying Try.prog 22 = some (.slice 25) := by kernel_rfl
theorem tz25 : tySz Try.prog 25 1 = true := by kernel_rfl
theorem tS25 : tyS Try.prog 25 = true := by kernel_rfl
theorem tu25 : Program.underlying Try.prog 25 = some (.slice 5) := by kernel_rfl
theorem cl8 : callable Try.prog 8 = true := by kernel_rfl
theorem tZ28 : tyZ Try.prog 28 (.agg #[.int .u8 0, .int .u8 0, .int .u8 0, .int .u8 0, .int .u8 0, .int .u8 0, .int .u8 0, .int .u8 0, .int .u8 0, .int .u8 0, .int .u8 0, .int .u8 0, .int .u8 0, .int .u8 0, .int .u8 0, .int .u8 0, .int .u8 0, .int .u8 0, .int .u8 0, .int .u8 0, .int .u8 0, .int .u8 0, .int .u8 0, .int .u8 0, .int .u8 0, .int .u8 0, .int .u8 0, .int .u8 0, .int .u8 0, .int .u8 0, .int .u8 0, .int .u8 0]) := by unfold tyZ; kernel_rfl
theorem zr28 : Zr (rV 32 (rU UInt8)) (Vector.replicate 32 (0 : UInt8)) (Value.cells (.agg #[.int .u8 0, .int .u8 0, .int .u8 0, .int .u8 0, .int .u8 0, .int .u8 0, .int .u8 0, .int .u8 0, .int .u8 0, .int .u8 0, .int .u8 0, .int .u8 0, .int .u8 0, .int .u8 0, .int .u8 0, .int .u8 0, .int .u8 0, .int .u8 0, .int .u8 0, .int .u8 0, .int .u8 0, .int .u8 0, .int .u8 0, .int .u8 0, .int .u8 0, .int .u8 0, .int .u8 0, .int .u8 0, .int .u8 0, .int .u8 0, .int .u8 0, .int .u8 0])).toList := (Zr.vec (Zr.u _ rfl rfl) rfl)
theorem tZ52 : tyZ Try.prog 52 (.agg #[.int .u32 0, .int .u32 0, .int .u32 0, .int .u32 0, .int .u32 0, .int .u32 0, .int .u32 0, .int .u32 0, .int .u32 0, .int .u32 0, .int .u32 0, .int .u32 0, .int .u32 0, .int .u32 0, .int .u32 0, .int .u32 0, .int .u32 0, .int .u32 0, .int .u32 0, .int .u32 0, .int .u32 0, .int .u32 0, .int .u32 0, .int .u32 0, .int .u32 0, .int .u32 0, .int .u32 0, .int .u32 0, .int .u32 0, .int .u32 0, .int .u32 0, .int .u32 0, .int .u32 0, .int .u32 0, .int .u32 0, .int .u32 0, .int .u32 0, .int .u32 0, .int .u32 0, .int .u32 0, .int .u32 0, .int .u32 0, .int .u32 0, .int .u32 0, .int .u32 0, .int .u32 0, .int .u32 0, .int .u32 0, .int .u32 0, .int .u32 0, .int .u32 0, .int .u32 0, .int .u32 0, .int .u32 0, .int .u32 0, .int .u32 0, .int .u32 0, .int .u32 0, .int .u32 0, .int .u32 0, .int .u32 0, .int .u32 0, .int .u32 0, .int .u32 0, .int .u32 0, .int .u32 0, .int .u32 0, .int .u32 0, .int .u32 0, .int .u32 0, .int .u32 0, .int .u32 0]) := by unfold tyZ; kernel_rfl
theorem zr52 : Zr r_sha_state (sha_state.mk (Vector.replicate 8 (0 : UInt32)) (Vector.replicate 64 (0 : UInt32))) (Value.cells (.agg #[.int .u32 0, .int .u32 0, .int .u32 0, .int .u32 0, .int .u32 0, .int .u32 0, .int .u32 0, .int .u32 0, .int .u32 0, .int .u32 0, .int .u32 0, .int .u32 0, .int .u32 0, .int .u32 0, .int .u32 0, .int .u32 0, .int .u32 0, .int .u32 0, .int .u32 0, .int .u32 0, .int .u32 0, .int .u32 0, .int .u32 0, .int .u32 0, .int .u32 0, .int .u32 0, .int .u32 0, .int .u32 0, .int .u32 0, .int .u32 0, .int .u32 0, .int .u32 0, .int .u32 0, .int .u32 0, .int .u32 0, .int .u32 0, .int .u32 0, .int .u32 0, .int .u32 0, .int .u32 0, .int .u32 0, .int .u32 0, .int .u32 0, .int .u32 0, .int .u32 0, .int .u32 0, .int .u32 0, .int .u32 0, .int .u32 0, .int .u32 0, .int .u32 0, .int .u32 0, .int .u32 0, .int .u32 0, .int .u32 0, .int .u32 0, .int .u32 0, .int .u32 0, .int .u32 0, .int .u32 0, .int .u32 0, .int .u32 0, .int .u32 0, .int .u32 0, .int .u32 0, .int .u32 0, .int .u32 0, .int .u32 0, .int .u32 0, .int .u32 0, .int .u32 0, .int .u32 0])).toList := (Zr.map (Zr.two (Zr.vec (Zr.u _ rfl rfl) rfl) (Zr.two (Zr.vec (Zr.u _ rfl rfl) rfl) Zr.unit rfl) rfl))
theorem tZ65 : tyZ Try.prog 65 (.int .u64 0) := by unfold tyZ; kernel_rfl
theorem zr65 : Zr (rU UInt64) (0 : UInt64) (Value.cells (.int .u64 0)).toList := (Zr.u _ rfl rfl)
theorem tS65 : tyS Try.prog 65 = true := by kernel_rfl
theorem tu66 : Program.underlying Try.prog 66 = some (.slice 65) := by kernel_rfl
theorem tz65 : tySz Try.prog 65 1 = true := by kernel_rfl
theorem cl48 : callable Try.prog 48 = true := by kernel_rfl
theorem cl56 : callable Try.prog 56 = true := by kernel_rfl
theorem cl47 : callable Try.prog 47 = true := by kernel_rfl
theorem tB65 : tyB Try.prog 65 1 8 (.int .u64 0) := tyB.of (by kernel_rfl)
theorem cl34 : callable Try.prog 34 = true := by kernel_rfl
theorem tZ77 : tyZ Try.prog 77 (.agg #[.int .u64 0, .int .u64 0]) := by unfold tyZ; kernel_rfl
theorem zr77 : Zr (rV 2 (rU UInt64)) (Vector.replicate 2 (0 : UInt64)) (Value.cells (.agg #[.int .u64 0, .int .u64 0])).toList := (Zr.vec (Zr.u _ rfl rfl) rfl)
theorem cl55 : callable Try.prog 55 = true := by kernel_rfl
theorem zv77 : Zr (rV 2 (rU UInt64)) (Vector.replicate 2 (0 : UInt64)) (Value.cells (.agg #[.int .u64 0, .int .u64 0])).toList := (Zr.vec (Zr.u _ rfl rfl) rfl)
theorem tp77 : tyPl Try.prog 77 [(0, 1), (1, 1)] := by unfold tyPl; kernel_rfl
theorem tA77 : tyA Try.prog 77 2 = true := by kernel_rfl
theorem cl46 : callable Try.prog 46 = true := by kernel_rfl
theorem tr77 : tyAr Try.prog 77 2 1 = true := by kernel_rfl
theorem ex57 : isExt Try.prog 57 exAdd64 := ⟨Try.f57, rfl, by kernel_rfl, rfl, by kernel_rfl, by kernel_rfl⟩
theorem cl51 : callable Try.prog 51 = true := by kernel_rfl
theorem cl45 : callable Try.prog 45 = true := by kernel_rfl
theorem cl50 : callable Try.prog 50 = true := by kernel_rfl
theorem tu65 : Program.underlying Try.prog 65 = some (.int .u64) := by kernel_rfl
theorem tu46 : Program.underlying Try.prog 46 = some (.int .u32) := by kernel_rfl
theorem cl43 : callable Try.prog 43 = true := by kernel_rfl
theorem cl37 : callable Try.prog 37 = true := by kernel_rfl
theorem tf52_1 : tyF Try.prog 52 1 8 = true := by kernel_rfl
theorem tr50 : tyAr Try.prog 50 64 1 = true := by kernel_rfl
theorem tS46 : tyS Try.prog 46 = true := by kernel_rfl
theorem cl44 : callable Try.prog 44 = true := by kernel_rfl
theorem cl33 : callable Try.prog 33 = true := by kernel_rfl
theorem tf52_0 : tyF Try.prog 52 0 0 = true := by kernel_rfl
theorem tr49 : tyAr Try.prog 49 8 1 = true := by kernel_rfl
theorem tA52 : tyA Try.prog 52 72 = true := by kernel_rfl
theorem cl26 : callable Try.prog 26 = true := by kernel_rfl
theorem tz5 : tySz Try.prog 5 1 = true := by kernel_rfl
theorem tu3 : Program.underlying Try.prog 3 = some (.int .i64) := by kernel_rfl
theorem tB5 : tyB Try.prog 5 1 1 (.int .u8 0) := tyB.of (by kernel_rfl)
theorem zv5 : Zr (rU UInt8) (0 : UInt8) (Value.cells (.int .u8 0)).toList := (Zr.u _ rfl rfl)
theorem cl52 : callable Try.prog 52 = true := by kernel_rfl
theorem cl38 : callable Try.prog 38 = true := by kernel_rfl
theorem tZ5 : tyZ Try.prog 5 (.int .u8 0) := by unfold tyZ; kernel_rfl
theorem tu5 : Program.underlying Try.prog 5 = some (.int .u8) := by kernel_rfl
theorem tZ50 : tyZ Try.prog 50 (.agg #[.int .u32 0, .int .u32 0, .int .u32 0, .int .u32 0, .int .u32 0, .int .u32 0, .int .u32 0, .int .u32 0, .int .u32 0, .int .u32 0, .int .u32 0, .int .u32 0, .int .u32 0, .int .u32 0, .int .u32 0, .int .u32 0, .int .u32 0, .int .u32 0, .int .u32 0, .int .u32 0, .int .u32 0, .int .u32 0, .int .u32 0, .int .u32 0, .int .u32 0, .int .u32 0, .int .u32 0, .int .u32 0, .int .u32 0, .int .u32 0, .int .u32 0, .int .u32 0, .int .u32 0, .int .u32 0, .int .u32 0, .int .u32 0, .int .u32 0, .int .u32 0, .int .u32 0, .int .u32 0, .int .u32 0, .int .u32 0, .int .u32 0, .int .u32 0, .int .u32 0, .int .u32 0, .int .u32 0, .int .u32 0, .int .u32 0, .int .u32 0, .int .u32 0, .int .u32 0, .int .u32 0, .int .u32 0, .int .u32 0, .int .u32 0, .int .u32 0, .int .u32 0, .int .u32 0, .int .u32 0, .int .u32 0, .int .u32 0, .int .u32 0, .int .u32 0]) := by unfold tyZ; kernel_rfl
theorem zr50 : Zr (rV 64 (rU UInt32)) (Vector.replicate 64 (0 : UInt32)) (Value.cells (.agg #[.int .u32 0, .int .u32 0, .int .u32 0, .int .u32 0, .int .u32 0, .int .u32 0, .int .u32 0, .int .u32 0, .int .u32 0, .int .u32 0, .int .u32 0, .int .u32 0, .int .u32 0, .int .u32 0, .int .u32 0, .int .u32 0, .int .u32 0, .int .u32 0, .int .u32 0, .int .u32 0, .int .u32 0, .int .u32 0, .int .u32 0, .int .u32 0, .int .u32 0, .int .u32 0, .int .u32 0, .int .u32 0, .int .u32 0, .int .u32 0, .int .u32 0, .int .u32 0, .int .u32 0, .int .u32 0, .int .u32 0, .int .u32 0, .int .u32 0, .int .u32 0, .int .u32 0, .int .u32 0, .int .u32 0, .int .u32 0, .int .u32 0, .int .u32 0, .int .u32 0, .int .u32 0, .int .u32 0, .int .u32 0, .int .u32 0, .int .u32 0, .int .u32 0, .int .u32 0, .int .u32 0, .int .u32 0, .int .u32 0, .int .u32 0, .int .u32 0, .int .u32 0, .int .u32 0, .int .u32 0, .int .u32 0, .int .u32 0, .int .u32 0, .int .u32 0])).toList := (Zr.vec (Zr.u _ rfl rfl) rfl)
theorem tS5 : tyS Try.prog 5 = true := by kernel_rfl
theorem tu86 : Program.underlying Try.prog 86 = some (.slice 3) := by kernel_rfl
theorem tz3 : tySz Try.prog 3 1 = true := by kernel_rfl
theorem tZ3 : tyZ Try.prog 3 (.int .i64 0) := by unfold tyZ; kernel_rfl
theorem tS3 : tyS Try.prog 3 = true := by kernel_rfl
theorem tu59 : Program.underlying Try.prog 59 = some (.int .u64) := by kernel_rfl
theorem cl54 : callable Try.prog 54 = true := by kernel_rfl
theorem cl53 : callable Try.prog 53 = true := by kernel_rfl
theorem tZ49 : tyZ Try.prog 49 (.agg #[.int .u32 0, .int .u32 0, .int .u32 0, .int .u32 0, .int .u32 0, .int .u32 0, .int .u32 0, .int .u32 0]) := by unfold tyZ; kernel_rfl
theorem zv49 : Zr (rV 8 (rU UInt32)) (Vector.replicate 8 (0 : UInt32)) (Value.cells (.agg #[.int .u32 0, .int .u32 0, .int .u32 0, .int .u32 0, .int .u32 0, .int .u32 0, .int .u32 0, .int .u32 0])).toList := (Zr.vec (Zr.u _ rfl rfl) rfl)
theorem tp49 : tyPl Try.prog 49 [(0, 1), (1, 1), (2, 1), (3, 1), (4, 1), (5, 1), (6, 1), (7, 1)] := by unfold tyPl; kernel_rfl
theorem tu49 : Program.underlying Try.prog 49 = some (.array 8 46) := by kernel_rfl
theorem cl39 : callable Try.prog 39 = true := by kernel_rfl
theorem tr28 : tyAr Try.prog 28 32 1 = true := by kernel_rfl
theorem tA28 : tyA Try.prog 28 32 = true := by kernel_rfl
theorem cl27 : callable Try.prog 27 = true := by kernel_rfl
theorem cl11 : callable Try.prog 11 = true := by kernel_rfl
theorem cl15 : callable Try.prog 15 = true := by kernel_rfl
theorem tZ25 : tyZ Try.prog 25 (.slice none 0 0) := by unfold tyZ; kernel_rfl
theorem tu28 : Program.underlying Try.prog 28 = some (.array 32 5) := by kernel_rfl
theorem tZ60 : tyZ Try.prog 60 (.agg #[.int .u8 0, .int .u8 0, .int .u8 0, .int .u8 0, .int .u8 0, .int .u8 0, .int .u8 0, .int .u8 0, .int .u8 0, .int .u8 0, .int .u8 0, .int .u8 0, .int .u8 0, .int .u8 0, .int .u8 0, .int .u8 0, .int .u8 0, .int .u8 0, .int .u8 0, .int .u8 0, .int .u8 0, .int .u8 0, .int .u8 0, .int .u8 0, .int .u8 0, .int .u8 0, .int .u8 0, .int .u8 0, .int .u8 0, .int .u8 0, .int .u8 0, .int .u8 0, .int .u8 0, .int .u8 0, .int .u8 0, .int .u8 0, .int .u8 0, .int .u8 0, .int .u8 0, .int .u8 0, .int .u8 0, .int .u8 0, .int .u8 0, .int .u8 0, .int .u8 0, .int .u8 0, .int .u8 0, .int .u8 0, .int .u8 0, .int .u8 0, .int .u8 0, .int .u8 0, .int .u8 0, .int .u8 0, .int .u8 0, .int .u8 0, .int .u8 0, .int .u8 0, .int .u8 0, .int .u8 0, .int .u8 0, .int .u8 0, .int .u8 0, .int .u8 0]) := by unfold tyZ; kernel_rfl
theorem zr60 : Zr (rV 64 (rU UInt8)) (Vector.replicate 64 (0 : UInt8)) (Value.cells (.agg #[.int .u8 0, .int .u8 0, .int .u8 0, .int .u8 0, .int .u8 0, .int .u8 0, .int .u8 0, .int .u8 0, .int .u8 0, .int .u8 0, .int .u8 0, .int .u8 0, .int .u8 0, .int .u8 0, .int .u8 0, .int .u8 0, .int .u8 0, .int .u8 0, .int .u8 0, .int .u8 0, .int .u8 0, .int .u8 0, .int .u8 0, .int .u8 0, .int .u8 0, .int .u8 0, .int .u8 0, .int .u8 0, .int .u8 0, .int .u8 0, .int .u8 0, .int .u8 0, .int .u8 0, .int .u8 0, .int .u8 0, .int .u8 0, .int .u8 0, .int .u8 0, .int .u8 0, .int .u8 0, .int .u8 0, .int .u8 0, .int .u8 0, .int .u8 0, .int .u8 0, .int .u8 0, .int .u8 0, .int .u8 0, .int .u8 0, .int .u8 0, .int .u8 0, .int .u8 0, .int .u8 0, .int .u8 0, .int .u8 0, .int .u8 0, .int .u8 0, .int .u8 0, .int .u8 0, .int .u8 0, .int .u8 0, .int .u8 0, .int .u8 0, .int .u8 0])).toList := (Zr.vec (Zr.u _ rfl rfl) rfl)
theorem tu60 : Program.underlying Try.prog 60 = some (.array 64 5) := by kernel_rfl
theorem tA60 : tyA Try.prog 60 64 = true := by kernel_rfl
theorem tr60 : tyAr Try.prog 60 64 1 = true := by kernel_rfl
theorem tB25 : tyB Try.prog 25 1 24 (.slice none 0 0) := tyB.of (by kernel_rfl)
theorem cl13 : callable Try.prog 13 = true := by kernel_rfl
theorem cl22 : callable Try.prog 22 = true := by kernel_rfl
theorem cl24 : callable Try.prog 24 = true := by kernel_rfl
theorem cl9 : callable Try.prog 9 = true := by kernel_rfl
theorem cl10 : callable Try.prog 10 = true := by kernel_rfl
theorem zr49 : Zr (rV 8 (rU UInt32)) (Vector.replicate 8 (0 : UInt32)) (Value.cells (.agg #[.int .u32 0, .int .u32 0, .int .u32 0, .int .u32 0, .int .u32 0, .int .u32 0, .int .u32 0, .int .u32 0])).toList := (Zr.vec (Zr.u _ rfl rfl) rfl)
theorem tu54 : Program.underlying Try.prog 54 = some (.slice 46) := by kernel_rfl
theorem cl49 : callable Try.prog 49 = true := by kernel_rfl
theorem cl35 : callable Try.prog 35 = true := by kernel_rfl
theorem tz46 : tySz Try.prog 46 1 = true := by kernel_rfl
theorem tZ46 : tyZ Try.prog 46 (.int .u32 0) := by unfold tyZ; kernel_rfl
theorem tB46 : tyB Try.prog 46 1 4 (.int .u32 0) := tyB.of (by kernel_rfl)
theorem tA49 : tyA Try.prog 49 8 = true := by kernel_rfl
theorem cl28 : callable Try.prog 28 = true := by kernel_rfl
theorem cl40 : callable Try.prog 40 = true := by kernel_rfl
theorem cl29 : callable Try.prog 29 = true := by kernel_rfl
theorem cl41 : callable Try.prog 41 = true := by kernel_rfl
theorem cl42 : callable Try.prog 42 = true := by kernel_rfl
theorem cl30 : callable Try.prog 30 = true := by kernel_rfl
theorem cl12 : callable Try.prog 12 = true := by kernel_rfl
theorem qa28 : EqA Try.prog 2 28 (rV 32 (rU UInt8)) (eqV (fun x y => x == y)) := EqA.arrS tu28 tS5 rfl (EqS.u (U := UInt8) tu5)
theorem ng28 : noGuard Try.prog 28 = true := by kernel_rfl
theorem tu9 : Program.underlying Try.prog 9 = some .string := by kernel_rfl
theorem cl14 : callable Try.prog 14 = true := by kernel_rfl
theorem cl17 : callable Try.prog 17 = true := by kernel_rfl
theorem cl31 : callable Try.prog 31 = true := by kernel_rfl
theorem zv28 : Zr (rV 32 (rU UInt8)) (Vector.replicate 32 (0 : UInt8)) (Value.cells (.agg #[.int .u8 0, .int .u8 0, .int .u8 0, .int .u8 0, .int .u8 0, .int .u8 0, .int .u8 0, .int .u8 0, .int .u8 0, .int .u8 0, .int .u8 0, .int .u8 0, .int .u8 0, .int .u8 0, .int .u8 0, .int .u8 0, .int .u8 0, .int .u8 0, .int .u8 0, .int .u8 0, .int .u8 0, .int .u8 0, .int .u8 0, .int .u8 0, .int .u8 0, .int .u8 0, .int .u8 0, .int .u8 0, .int .u8 0, .int .u8 0, .int .u8 0, .int .u8 0])).toList := (Zr.vec (Zr.u _ rfl rfl) rfl)
theorem tp28 : tyPl Try.prog 28 [(0, 1), (1, 1), (2, 1), (3, 1), (4, 1), (5, 1), (6, 1), (7, 1), (8, 1), (9, 1), (10, 1), (11, 1), (12, 1), (13, 1), (14, 1), (15, 1), (16, 1), (17, 1), (18, 1), (19, 1), (20, 1), (21, 1), (22, 1), (23, 1), (24, 1), (25, 1), (26, 1), (27, 1), (28, 1), (29, 1), (30, 1), (31, 1)] := by unfold tyPl; kernel_rfl
theorem cl16 : callable Try.prog 16 = true := by kernel_rfl
theorem cl18 : callable Try.prog 18 = true := by kernel_rfl
theorem cl32 : callable Try.prog 32 = true := by kernel_rfl
theorem cl19 : callable Try.prog 19 = true := by kernel_rfl
theorem cl20 : callable Try.prog 20 = true := by kernel_rfl
theorem cl21 : callable Try.prog 21 = true := by kernel_rfl
theorem tu4 : Program.underlying Try.prog 4 = some .bool := by kernel_rfl
theorem cl36 : callable Try.prog 36 = true := by kernel_rfl
theorem cl23 : callable Try.prog 23 = true := by kernel_rfl
theorem cl25 : callable Try.prog 25 = true := by kernel_rfl
end Go.Proofs.Ytdncoiehmkcajaa
