/- What the walks read off the program's types. -/
import Derived.Test.YtbflmobpbjnekaaProg
import Derived.Test.YtbflmobpbjnekaaFw
import Derived.Test.YtbflmobpbjnekaaFdb
import Derived.Test.YtbflmobpbjnekaaFdc
import Derived.Test.YtbflmobpbjnekaaS
namespace Go.Proofs.Ytbflmobpbjnekaa
open Go Fw
set_option linter.unusedVariables false

def law08_Step.tup (x : law08_Step) : Int × (List UInt8) × Unit := (x.Bucket, (x.B, ()))
abbrev r_law08_Step : Rep law08_Step := rM law08_Step.tup (rP (rI .i64) (rP (rL (rU UInt8)) r0))
theorem comp_law08_Step_Bucket (x : law08_Step) : Comp r_law08_Step x 0 (rI .i64) x.Bucket := Comp.map (Comp.at' (Comp.inF (Comp.self (rI .i64) x.Bucket) (by decide)) (by rfl : _ = 0))
theorem comp_law08_Step_B (x : law08_Step) : Comp r_law08_Step x 1 (rL (rU UInt8)) x.B := Comp.map (Comp.at' (Comp.inS (Comp.inF (Comp.self (rL (rU UInt8)) x.B) (by decide))) (by rfl : _ = 1))
def sha_state.tup (x : sha_state) : (Vector UInt32 8) × (Vector UInt32 64) × Unit := (x.h, (x.k, ()))
abbrev r_sha_state : Rep sha_state := rM sha_state.tup (rP (rV 8 (rU UInt32)) (rP (rV 64 (rU UInt32)) r0))
theorem comp_sha_state_h (x : sha_state) : Comp r_sha_state x 0 (rV 8 (rU UInt32)) x.h := Comp.map (Comp.at' (Comp.inF (Comp.self (rV 8 (rU UInt32)) x.h) (by decide)) (by rfl : _ = 0))
theorem upd_sha_state_h (x : sha_state) (y : (Vector UInt32 8)) : Upd r_sha_state x 0 (rV 8 (rU UInt32)) y { x with h := y } := Upd.map (UpdR.U (UpdR.at (UpdR.fst (UpdR.self rfl)) (by rfl : _ = 0)))
theorem comp_sha_state_k (x : sha_state) : Comp r_sha_state x 8 (rV 64 (rU UInt32)) x.k := Comp.map (Comp.at' (Comp.inS (Comp.inF (Comp.self (rV 64 (rU UInt32)) x.k) (by decide))) (by rfl : _ = 8))
theorem upd_sha_state_k (x : sha_state) (y : (Vector UInt32 64)) : Upd r_sha_state x 8 (rV 64 (rU UInt32)) y { x with k := y } := Upd.map (UpdR.U (UpdR.at (UpdR.snd (UpdR.fst (UpdR.self rfl))) (by rfl : _ = 8)))

def merkle_Tree.tup (x : merkle_Tree) : (Vector (Vector UInt8 32) 128) × Bool × Unit := (x.n, (x.is, ()))
abbrev r_merkle_Tree : Rep merkle_Tree := rM merkle_Tree.tup (rP (rV 128 (rV 32 (rU UInt8))) (rP rB r0))
theorem comp_merkle_Tree_n (x : merkle_Tree) : Comp r_merkle_Tree x 0 (rV 128 (rV 32 (rU UInt8))) x.n := Comp.map (Comp.at' (Comp.inF (Comp.self (rV 128 (rV 32 (rU UInt8))) x.n) (by decide)) (by rfl : _ = 0))
theorem upd_merkle_Tree_n (x : merkle_Tree) (y : (Vector (Vector UInt8 32) 128)) : Upd r_merkle_Tree x 0 (rV 128 (rV 32 (rU UInt8))) y { x with n := y } := Upd.map (UpdR.U (UpdR.at (UpdR.fst (UpdR.self rfl)) (by rfl : _ = 0)))
theorem comp_merkle_Tree_is (x : merkle_Tree) : Comp r_merkle_Tree x 4096 rB x.is := Comp.map (Comp.at' (Comp.inS (Comp.inF (Comp.self rB x.is) (by decide))) (by rfl : _ = 4096))
abbrev zq0 (a0 : Nat) : Chunk := cvar a0 r_sha_state (sha_state.mk (Vector.replicate 8 (0 : UInt32)) (Vector.replicate 64 (0 : UInt32)))
abbrev zq1 := (rP (rV 128 (rV 32 (rU UInt8))) (rP rB r0))
abbrev zq2 := ((merkle_Tree.mk (Vector.replicate 128 (Vector.replicate 32 (0 : UInt8))) false).n, ((merkle_Tree.mk (Vector.replicate 128 (Vector.replicate 32 (0 : UInt8))) false).is, ()))
abbrev zq3 := ((merkle_Tree.mk (Vector.replicate 128 (Vector.replicate 32 (0 : UInt8))) false).n, (true, ()))
abbrev zq4 (a0 : Nat) (a1 : Nat) (a2 : Nat) (a3 : Nat) (a4 : Nat) : Chunk := cvar a0 (rW (CLO 35 [PTR a1 0, PTR a2 0, PTR a3 0, PTR a4 0, PTR a0 0])) ()
abbrev zq5 (a0 : Nat) : Chunk := cvar a0 r_merkle_Tree (merkle_Tree.mk (Vector.replicate 128 (Vector.replicate 32 (0 : UInt8))) false)
def zbig0 : List Value := ((List.replicate 128 (List.replicate 32 [.int .u8 0]).flatten).flatten ++ ([.bool false] ++ []))
theorem mixed : Try.prog.follows .mixedOrders = true := by kernel_rfl
theorem tu33 : Program.underlying Try.prog 33 = some (.slice 39) := by kernel_rfl
theorem tz39 : tySz Try.prog 39 2 = true := by kernel_rfl
theorem tf39_1 : tyF Try.prog 39 1 1 = true := by kernel_rfl
theorem tS37 : tyS Try.prog 37 = true := by kernel_rfl
theorem tu37 : Program.underlying Try.prog 37 = some (.slice 5) := by kernel_rfl
theorem cl11 : callable Try.prog 11 = true := by kernel_rfl
theorem tZ30 : tyZ Try.prog 30 (.agg #[.int .u8 0, .int .u8 0, .int .u8 0, .int .u8 0, .int .u8 0, .int .u8 0, .int .u8 0, .int .u8 0, .int .u8 0, .int .u8 0, .int .u8 0, .int .u8 0, .int .u8 0, .int .u8 0, .int .u8 0, .int .u8 0, .int .u8 0, .int .u8 0, .int .u8 0, .int .u8 0, .int .u8 0, .int .u8 0, .int .u8 0, .int .u8 0, .int .u8 0, .int .u8 0, .int .u8 0, .int .u8 0, .int .u8 0, .int .u8 0, .int .u8 0, .int .u8 0]) := by unfold tyZ; kernel_rfl
theorem zr30 : Zr (rV 32 (rU UInt8)) (Vector.replicate 32 (0 : UInt8)) (Value.cells (.agg #[.int .u8 0, .int .u8 0, .int .u8 0, .int .u8 0, .int .u8 0, .int .u8 0, .int .u8 0, .int .u8 0, .int .u8 0, .int .u8 0, .int .u8 0, .int .u8 0, .int .u8 0, .int .u8 0, .int .u8 0, .int .u8 0, .int .u8 0, .int .u8 0, .int .u8 0, .int .u8 0, .int .u8 0, .int .u8 0, .int .u8 0, .int .u8 0, .int .u8 0, .int .u8 0, .int .u8 0, .int .u8 0, .int .u8 0, .int .u8 0, .int .u8 0, .int .u8 0])).toList := (Zr.vec (Zr.u _ rfl rfl) rfl)
theorem zv30 : Zr (rV 32 (rU UInt8)) (Vector.replicate 32 (0 : UInt8)) (Value.cells (.agg #[.int .u8 0, .int .u8 0, .int .u8 0, .int .u8 0, .int .u8 0, .int .u8 0, .int .u8 0, .int .u8 0, .int .u8 0, .int .u8 0, .int .u8 0, .int .u8 0, .int .u8 0, .int .u8 0, .int .u8 0, .int .u8 0, .int .u8 0, .int .u8 0, .int .u8 0, .int .u8 0, .int .u8 0, .int .u8 0, .int .u8 0, .int .u8 0, .int .u8 0, .int .u8 0, .int .u8 0, .int .u8 0, .int .u8 0, .int .u8 0, .int .u8 0, .int .u8 0])).toList := (Zr.vec (Zr.u _ rfl rfl) rfl)
theorem tp30 : tyPl Try.prog 30 [(0, 1), (1, 1), (2, 1), (3, 1), (4, 1), (5, 1), (6, 1), (7, 1), (8, 1), (9, 1), (10, 1), (11, 1), (12, 1), (13, 1), (14, 1), (15, 1), (16, 1), (17, 1), (18, 1), (19, 1), (20, 1), (21, 1), (22, 1), (23, 1), (24, 1), (25, 1), (26, 1), (27, 1), (28, 1), (29, 1), (30, 1), (31, 1)] := by unfold tyPl; kernel_rfl
theorem tA30 : tyA Try.prog 30 32 = true := by kernel_rfl
theorem tu3 : Program.underlying Try.prog 3 = some (.int .i64) := by kernel_rfl
theorem tu5 : Program.underlying Try.prog 5 = some (.int .u8) := by kernel_rfl
theorem tz5 : tySz Try.prog 5 1 = true := by kernel_rfl
theorem tZ5 : tyZ Try.prog 5 (.int .u8 0) := by unfold tyZ; kernel_rfl
theorem tu76 : Program.underlying Try.prog 76 = some (.slice 37) := by kernel_rfl
theorem tz37 : tySz Try.prog 37 1 = true := by kernel_rfl
theorem tZ37 : tyZ Try.prog 37 (.slice none 0 0) := by unfold tyZ; kernel_rfl
theorem tZ79 : tyZ Try.prog 79 (.agg #[.int .u32 0, .int .u32 0, .int .u32 0, .int .u32 0, .int .u32 0, .int .u32 0, .int .u32 0, .int .u32 0, .int .u32 0, .int .u32 0, .int .u32 0, .int .u32 0, .int .u32 0, .int .u32 0, .int .u32 0, .int .u32 0, .int .u32 0, .int .u32 0, .int .u32 0, .int .u32 0, .int .u32 0, .int .u32 0, .int .u32 0, .int .u32 0, .int .u32 0, .int .u32 0, .int .u32 0, .int .u32 0, .int .u32 0, .int .u32 0, .int .u32 0, .int .u32 0, .int .u32 0, .int .u32 0, .int .u32 0, .int .u32 0, .int .u32 0, .int .u32 0, .int .u32 0, .int .u32 0, .int .u32 0, .int .u32 0, .int .u32 0, .int .u32 0, .int .u32 0, .int .u32 0, .int .u32 0, .int .u32 0, .int .u32 0, .int .u32 0, .int .u32 0, .int .u32 0, .int .u32 0, .int .u32 0, .int .u32 0, .int .u32 0, .int .u32 0, .int .u32 0, .int .u32 0, .int .u32 0, .int .u32 0, .int .u32 0, .int .u32 0, .int .u32 0, .int .u32 0, .int .u32 0, .int .u32 0, .int .u32 0, .int .u32 0, .int .u32 0, .int .u32 0, .int .u32 0]) := by unfold tyZ; kernel_rfl
theorem zr79 : Zr r_sha_state (sha_state.mk (Vector.replicate 8 (0 : UInt32)) (Vector.replicate 64 (0 : UInt32))) (Value.cells (.agg #[.int .u32 0, .int .u32 0, .int .u32 0, .int .u32 0, .int .u32 0, .int .u32 0, .int .u32 0, .int .u32 0, .int .u32 0, .int .u32 0, .int .u32 0, .int .u32 0, .int .u32 0, .int .u32 0, .int .u32 0, .int .u32 0, .int .u32 0, .int .u32 0, .int .u32 0, .int .u32 0, .int .u32 0, .int .u32 0, .int .u32 0, .int .u32 0, .int .u32 0, .int .u32 0, .int .u32 0, .int .u32 0, .int .u32 0, .int .u32 0, .int .u32 0, .int .u32 0, .int .u32 0, .int .u32 0, .int .u32 0, .int .u32 0, .int .u32 0, .int .u32 0, .int .u32 0, .int .u32 0, .int .u32 0, .int .u32 0, .int .u32 0, .int .u32 0, .int .u32 0, .int .u32 0, .int .u32 0, .int .u32 0, .int .u32 0, .int .u32 0, .int .u32 0, .int .u32 0, .int .u32 0, .int .u32 0, .int .u32 0, .int .u32 0, .int .u32 0, .int .u32 0, .int .u32 0, .int .u32 0, .int .u32 0, .int .u32 0, .int .u32 0, .int .u32 0, .int .u32 0, .int .u32 0, .int .u32 0, .int .u32 0, .int .u32 0, .int .u32 0, .int .u32 0, .int .u32 0])).toList := (Zr.map (Zr.two (Zr.vec (Zr.u _ rfl rfl) rfl) (Zr.two (Zr.vec (Zr.u _ rfl rfl) rfl) Zr.unit rfl) rfl))
theorem tZ71 : tyZ Try.prog 71 (.int .u64 0) := by unfold tyZ; kernel_rfl
theorem zr71 : Zr (rU UInt64) (0 : UInt64) (Value.cells (.int .u64 0)).toList := (Zr.u _ rfl rfl)
theorem tS71 : tyS Try.prog 71 = true := by kernel_rfl
theorem tu82 : Program.underlying Try.prog 82 = some (.slice 71) := by kernel_rfl
theorem tz71 : tySz Try.prog 71 1 = true := by kernel_rfl
theorem cl53 : callable Try.prog 53 = true := by kernel_rfl
theorem cl63 : callable Try.prog 63 = true := by kernel_rfl
theorem cl52 : callable Try.prog 52 = true := by kernel_rfl
theorem tB71 : tyB Try.prog 71 1 8 (.int .u64 0) := tyB.of (by kernel_rfl)
theorem cl45 : callable Try.prog 45 = true := by kernel_rfl
theorem tZ93 : tyZ Try.prog 93 (.agg #[.int .u64 0, .int .u64 0]) := by unfold tyZ; kernel_rfl
theorem zr93 : Zr (rV 2 (rU UInt64)) (Vector.replicate 2 (0 : UInt64)) (Value.cells (.agg #[.int .u64 0, .int .u64 0])).toList := (Zr.vec (Zr.u _ rfl rfl) rfl)
theorem cl50 : callable Try.prog 50 = true := by kernel_rfl
theorem zv93 : Zr (rV 2 (rU UInt64)) (Vector.replicate 2 (0 : UInt64)) (Value.cells (.agg #[.int .u64 0, .int .u64 0])).toList := (Zr.vec (Zr.u _ rfl rfl) rfl)
theorem tp93 : tyPl Try.prog 93 [(0, 1), (1, 1)] := by unfold tyPl; kernel_rfl
theorem tA93 : tyA Try.prog 93 2 = true := by kernel_rfl
theorem cl59 : callable Try.prog 59 = true := by kernel_rfl
theorem tr93 : tyAr Try.prog 93 2 1 = true := by kernel_rfl
theorem ex51 : isExt Try.prog 51 exAdd64 := ⟨Try.f51, rfl, by kernel_rfl, rfl, by kernel_rfl, by kernel_rfl⟩
theorem cl56 : callable Try.prog 56 = true := by kernel_rfl
theorem cl57 : callable Try.prog 57 = true := by kernel_rfl
theorem cl55 : callable Try.prog 55 = true := by kernel_rfl
theorem tu71 : Program.underlying Try.prog 71 = some (.int .u64) := by kernel_rfl
theorem tu60 : Program.underlying Try.prog 60 = some (.int .u32) := by kernel_rfl
theorem cl54 : callable Try.prog 54 = true := by kernel_rfl
theorem cl46 : callable Try.prog 46 = true := by kernel_rfl
theorem tf79_1 : tyF Try.prog 79 1 8 = true := by kernel_rfl
theorem tr77 : tyAr Try.prog 77 64 1 = true := by kernel_rfl
theorem tS60 : tyS Try.prog 60 = true := by kernel_rfl
theorem cl58 : callable Try.prog 58 = true := by kernel_rfl
theorem cl47 : callable Try.prog 47 = true := by kernel_rfl
theorem tf79_0 : tyF Try.prog 79 0 0 = true := by kernel_rfl
theorem tr61 : tyAr Try.prog 61 8 1 = true := by kernel_rfl
theorem tA79 : tyA Try.prog 79 72 = true := by kernel_rfl
theorem cl42 : callable Try.prog 42 = true := by kernel_rfl
theorem tB5 : tyB Try.prog 5 1 1 (.int .u8 0) := tyB.of (by kernel_rfl)
theorem zv5 : Zr (rU UInt8) (0 : UInt8) (Value.cells (.int .u8 0)).toList := (Zr.u _ rfl rfl)
theorem cl60 : callable Try.prog 60 = true := by kernel_rfl
theorem cl48 : callable Try.prog 48 = true := by kernel_rfl
theorem tZ77 : tyZ Try.prog 77 (.agg #[.int .u32 0, .int .u32 0, .int .u32 0, .int .u32 0, .int .u32 0, .int .u32 0, .int .u32 0, .int .u32 0, .int .u32 0, .int .u32 0, .int .u32 0, .int .u32 0, .int .u32 0, .int .u32 0, .int .u32 0, .int .u32 0, .int .u32 0, .int .u32 0, .int .u32 0, .int .u32 0, .int .u32 0, .int .u32 0, .int .u32 0, .int .u32 0, .int .u32 0, .int .u32 0, .int .u32 0, .int .u32 0, .int .u32 0, .int .u32 0, .int .u32 0, .int .u32 0, .int .u32 0, .int .u32 0, .int .u32 0, .int .u32 0, .int .u32 0, .int .u32 0, .int .u32 0, .int .u32 0, .int .u32 0, .int .u32 0, .int .u32 0, .int .u32 0, .int .u32 0, .int .u32 0, .int .u32 0, .int .u32 0, .int .u32 0, .int .u32 0, .int .u32 0, .int .u32 0, .int .u32 0, .int .u32 0, .int .u32 0, .int .u32 0, .int .u32 0, .int .u32 0, .int .u32 0, .int .u32 0, .int .u32 0, .int .u32 0, .int .u32 0, .int .u32 0]) := by unfold tyZ; kernel_rfl
theorem zr77 : Zr (rV 64 (rU UInt32)) (Vector.replicate 64 (0 : UInt32)) (Value.cells (.agg #[.int .u32 0, .int .u32 0, .int .u32 0, .int .u32 0, .int .u32 0, .int .u32 0, .int .u32 0, .int .u32 0, .int .u32 0, .int .u32 0, .int .u32 0, .int .u32 0, .int .u32 0, .int .u32 0, .int .u32 0, .int .u32 0, .int .u32 0, .int .u32 0, .int .u32 0, .int .u32 0, .int .u32 0, .int .u32 0, .int .u32 0, .int .u32 0, .int .u32 0, .int .u32 0, .int .u32 0, .int .u32 0, .int .u32 0, .int .u32 0, .int .u32 0, .int .u32 0, .int .u32 0, .int .u32 0, .int .u32 0, .int .u32 0, .int .u32 0, .int .u32 0, .int .u32 0, .int .u32 0, .int .u32 0, .int .u32 0, .int .u32 0, .int .u32 0, .int .u32 0, .int .u32 0, .int .u32 0, .int .u32 0, .int .u32 0, .int .u32 0, .int .u32 0, .int .u32 0, .int .u32 0, .int .u32 0, .int .u32 0, .int .u32 0, .int .u32 0, .int .u32 0, .int .u32 0, .int .u32 0, .int .u32 0, .int .u32 0, .int .u32 0, .int .u32 0])).toList := (Zr.vec (Zr.u _ rfl rfl) rfl)
theorem tS5 : tyS Try.prog 5 = true := by kernel_rfl
theorem tu53 : Program.underlying Try.prog 53 = some (.slice 3) := by kernel_rfl
theorem tz3 : tySz Try.prog 3 1 = true := by kernel_rfl
theorem tZ3 : tyZ Try.prog 3 (.int .i64 0) := by unfold tyZ; kernel_rfl
theorem tS3 : tyS Try.prog 3 = true := by kernel_rfl
theorem tu67 : Program.underlying Try.prog 67 = some (.int .u64) := by kernel_rfl
theorem cl62 : callable Try.prog 62 = true := by kernel_rfl
theorem cl61 : callable Try.prog 61 = true := by kernel_rfl
theorem tZ61 : tyZ Try.prog 61 (.agg #[.int .u32 0, .int .u32 0, .int .u32 0, .int .u32 0, .int .u32 0, .int .u32 0, .int .u32 0, .int .u32 0]) := by unfold tyZ; kernel_rfl
theorem zv61 : Zr (rV 8 (rU UInt32)) (Vector.replicate 8 (0 : UInt32)) (Value.cells (.agg #[.int .u32 0, .int .u32 0, .int .u32 0, .int .u32 0, .int .u32 0, .int .u32 0, .int .u32 0, .int .u32 0])).toList := (Zr.vec (Zr.u _ rfl rfl) rfl)
theorem tp61 : tyPl Try.prog 61 [(0, 1), (1, 1), (2, 1), (3, 1), (4, 1), (5, 1), (6, 1), (7, 1)] := by unfold tyPl; kernel_rfl
theorem tu61 : Program.underlying Try.prog 61 = some (.array 8 60) := by kernel_rfl
theorem cl49 : callable Try.prog 49 = true := by kernel_rfl
theorem tr30 : tyAr Try.prog 30 32 1 = true := by kernel_rfl
theorem cl43 : callable Try.prog 43 = true := by kernel_rfl
theorem cl37 : callable Try.prog 37 = true := by kernel_rfl
theorem cl28 : callable Try.prog 28 = true := by kernel_rfl
theorem tu22 : Program.underlying Try.prog 22 = some (.slice 30) := by kernel_rfl
theorem tz30 : tySz Try.prog 30 32 = true := by kernel_rfl
theorem tB30 : tyB Try.prog 30 32 32 (.agg #[.int .u8 0, .int .u8 0, .int .u8 0, .int .u8 0, .int .u8 0, .int .u8 0, .int .u8 0, .int .u8 0, .int .u8 0, .int .u8 0, .int .u8 0, .int .u8 0, .int .u8 0, .int .u8 0, .int .u8 0, .int .u8 0, .int .u8 0, .int .u8 0, .int .u8 0, .int .u8 0, .int .u8 0, .int .u8 0, .int .u8 0, .int .u8 0, .int .u8 0, .int .u8 0, .int .u8 0, .int .u8 0, .int .u8 0, .int .u8 0, .int .u8 0, .int .u8 0]) := tyB.of (by kernel_rfl)
theorem zs52 : Zr zq1 zq2 (Value.cells (.agg (List.toArray zbig0))).toList := show Zr zq1 zq2 zbig0 by unfold zbig0; exact (Zr.two (Zr.vec (Zr.vec (Zr.u _ rfl rfl) rfl) rfl) (Zr.two (Zr.bool _) Zr.unit rfl) rfl)
theorem tZ52 : tyZ Try.prog 52 (.agg (List.toArray zbig0)) := by unfold tyZ; kernel_rfl
theorem tp52 : tyPl Try.prog 52 [(0, 4096), (4096, 1)] := by unfold tyPl; kernel_rfl
theorem tf52_0 : tyF Try.prog 52 0 0 = true := by kernel_rfl
theorem tu50 : Program.underlying Try.prog 50 = some (.array 128 30) := by kernel_rfl
theorem tr50 : tyAr Try.prog 50 128 32 = true := by kernel_rfl
theorem tu30 : Program.underlying Try.prog 30 = some (.array 32 5) := by kernel_rfl
theorem cl26 : callable Try.prog 26 = true := by kernel_rfl
theorem cl8 : callable Try.prog 8 = true := by kernel_rfl
theorem tu24 : Program.underlying Try.prog 24 = some (.pointer 52) := by kernel_rfl
theorem tf52_1 : tyF Try.prog 52 1 4096 = true := by kernel_rfl
theorem tS4 : tyS Try.prog 4 = true := by kernel_rfl
theorem cl29 : callable Try.prog 29 = true := by kernel_rfl
theorem cl23 : callable Try.prog 23 = true := by kernel_rfl
theorem tS24 : tyS Try.prog 24 = true := by kernel_rfl
theorem tZ53 : tyZ Try.prog 53 (.slice none 0 0) := by unfold tyZ; kernel_rfl
theorem zr53 : Zr (rW (HDR none 0 0 0)) () (Value.cells (.slice none 0 0)).toList := (Zr.w (v := .slice none 0 0) rfl)
theorem zr3 : Zr (rI .i64) (0 : Int) (Value.cells (.int .i64 0)).toList := (Zr.int _ _)
theorem tZ57 : tyZ Try.prog 57 (.nilFunc) := by unfold tyZ; kernel_rfl
theorem zr57 : Zr (rW (NILF)) () (Value.cells (.nilFunc)).toList := (Zr.w (v := .nilFunc) rfl)
theorem tS57 : tyS Try.prog 57 = true := by kernel_rfl
theorem cl36 : callable Try.prog 36 = true := by kernel_rfl
theorem tS53 : tyS Try.prog 53 = true := by kernel_rfl
theorem tB3 : tyB Try.prog 3 1 8 (.int .i64 0) := tyB.of (by kernel_rfl)
theorem cl35 : callable Try.prog 35 = true := by kernel_rfl
theorem cl24 : callable Try.prog 24 = true := by kernel_rfl
theorem qa30 : EqA Try.prog 2 30 (rV 32 (rU UInt8)) (eqV (fun x y => x == y)) := EqA.arrS tu30 tS5 rfl (EqS.u (U := UInt8) tu5)
theorem ng30 : noGuard Try.prog 30 = true := by kernel_rfl
theorem cl13 : callable Try.prog 13 = true := by kernel_rfl
theorem cl14 : callable Try.prog 14 = true := by kernel_rfl
theorem cl9 : callable Try.prog 9 = true := by kernel_rfl
theorem cl25 : callable Try.prog 25 = true := by kernel_rfl
theorem tu4 : Program.underlying Try.prog 4 = some .bool := by kernel_rfl
theorem cl34 : callable Try.prog 34 = true := by kernel_rfl
theorem cl20 : callable Try.prog 20 = true := by kernel_rfl
theorem cl12 : callable Try.prog 12 = true := by kernel_rfl
theorem cl7 : callable Try.prog 7 = true := by kernel_rfl
theorem zr61 : Zr (rV 8 (rU UInt32)) (Vector.replicate 8 (0 : UInt32)) (Value.cells (.agg #[.int .u32 0, .int .u32 0, .int .u32 0, .int .u32 0, .int .u32 0, .int .u32 0, .int .u32 0, .int .u32 0])).toList := (Zr.vec (Zr.u _ rfl rfl) rfl)
theorem tu62 : Program.underlying Try.prog 62 = some (.slice 60) := by kernel_rfl
theorem cl44 : callable Try.prog 44 = true := by kernel_rfl
theorem cl38 : callable Try.prog 38 = true := by kernel_rfl
theorem tz60 : tySz Try.prog 60 1 = true := by kernel_rfl
theorem tZ60 : tyZ Try.prog 60 (.int .u32 0) := by unfold tyZ; kernel_rfl
theorem tB60 : tyB Try.prog 60 1 4 (.int .u32 0) := tyB.of (by kernel_rfl)
theorem tA61 : tyA Try.prog 61 8 = true := by kernel_rfl
theorem cl30 : callable Try.prog 30 = true := by kernel_rfl
theorem cl39 : callable Try.prog 39 = true := by kernel_rfl
theorem cl31 : callable Try.prog 31 = true := by kernel_rfl
theorem cl40 : callable Try.prog 40 = true := by kernel_rfl
theorem cl41 : callable Try.prog 41 = true := by kernel_rfl
theorem cl32 : callable Try.prog 32 = true := by kernel_rfl
theorem cl15 : callable Try.prog 15 = true := by kernel_rfl
theorem cl33 : callable Try.prog 33 = true := by kernel_rfl
theorem cl17 : callable Try.prog 17 = true := by kernel_rfl
theorem tf39_0 : tyF Try.prog 39 0 0 = true := by kernel_rfl
theorem tu9 : Program.underlying Try.prog 9 = some .string := by kernel_rfl
theorem cl18 : callable Try.prog 18 = true := by kernel_rfl
theorem cl27 : callable Try.prog 27 = true := by kernel_rfl
theorem cl21 : callable Try.prog 21 = true := by kernel_rfl
theorem cl16 : callable Try.prog 16 = true := by kernel_rfl
theorem cl10 : callable Try.prog 10 = true := by kernel_rfl
theorem tA52 : tyA Try.prog 52 4097 = true := by kernel_rfl
theorem zr52 : Zr r_merkle_Tree (merkle_Tree.mk (Vector.replicate 128 (Vector.replicate 32 (0 : UInt8))) false) (Value.cells (.agg (List.toArray zbig0))).toList := show Zr r_merkle_Tree (merkle_Tree.mk (Vector.replicate 128 (Vector.replicate 32 (0 : UInt8))) false) zbig0 by unfold zbig0; exact (Zr.map (Zr.two (Zr.vec (Zr.vec (Zr.u _ rfl rfl) rfl) rfl) (Zr.two (Zr.bool _) Zr.unit rfl) rfl))
theorem cl19 : callable Try.prog 19 = true := by kernel_rfl
theorem tu39 : Program.underlying Try.prog 39 = some (.struct (Program.fieldsOf Try.prog 39)) := by kernel_rfl
theorem fl39 : (Program.fieldsOf Try.prog 39).toList = [{ name := "Bucket", type := 3, offset := 0, embedded := false, tag := "", pkgPath := "", byteOffset := 0 }, { name := "B", type := 37, offset := 1, embedded := false, tag := "", pkgPath := "", byteOffset := 8 }] := by kernel_rfl
end Go.Proofs.Ytbflmobpbjnekaa
