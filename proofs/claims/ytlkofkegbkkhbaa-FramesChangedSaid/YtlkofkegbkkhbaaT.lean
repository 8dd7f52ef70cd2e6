/- What the walks read off the program's types. -/
import Derived.Test.YtlkofkegbkkhbaaProg
import Derived.Test.YtlkofkegbkkhbaaFo
import Derived.Test.YtlkofkegbkkhbaaS
namespace Go.Proofs.Ytlkofkegbkkhbaa
open Go Fw
set_option linter.unusedVariables false

theorem mixed : Try.prog.follows .mixedOrders = true := by kernel_rfl
theorem tZ42 : tyZ Try.prog 42 (.agg #[.int .u32 0, .int .u32 0, .int .u32 0, .int .u32 0, .int .u32 0, .int .u32 0, .int .u32 0, .int .u32 0, .int .u32 0, .int .u32 0, .int .u32 0, .int .u32 0, .int .u32 0, .int .u32 0, .int .u32 0, .int .u32 0]) := by unfold tyZ; kernel_rfl
theorem zr42 : Zr (rV 16 (rU UInt32)) (Vector.replicate 16 (0 : UInt32)) (Value.cells (.agg #[.int .u32 0, .int .u32 0, .int .u32 0, .int .u32 0, .int .u32 0, .int .u32 0, .int .u32 0, .int .u32 0, .int .u32 0, .int .u32 0, .int .u32 0, .int .u32 0, .int .u32 0, .int .u32 0, .int .u32 0, .int .u32 0])).toList := (Zr.vec (Zr.u _ rfl rfl) rfl)
theorem tr42 : tyAr Try.prog 42 16 1 = true := by kernel_rfl
theorem tS26 : tyS Try.prog 26 = true := by kernel_rfl
theorem tA42 : tyA Try.prog 42 16 = true := by kernel_rfl
theorem cl18 : callable Try.prog 18 = true := by kernel_rfl
theorem tu23 : Program.underlying Try.prog 23 = some (.slice 5) := by kernel_rfl
theorem tz5 : tySz Try.prog 5 1 = true := by kernel_rfl
theorem tS5 : tyS Try.prog 5 = true := by kernel_rfl
theorem tu5 : Program.underlying Try.prog 5 = some (.int .u8) := by kernel_rfl
theorem tu26 : Program.underlying Try.prog 26 = some (.int .u32) := by kernel_rfl
theorem tu22 : Program.underlying Try.prog 22 = some (.slice 23) := by kernel_rfl
theorem tz23 : tySz Try.prog 23 1 = true := by kernel_rfl
theorem tS23 : tyS Try.prog 23 = true := by kernel_rfl
theorem cl16 : callable Try.prog 16 = true := by kernel_rfl
theorem tB5 : tyB Try.prog 5 1 1 (.int .u8 0) := tyB.of (by kernel_rfl)
theorem tZ23 : tyZ Try.prog 23 (.slice none 0 0) := by unfold tyZ; kernel_rfl
theorem cl10 : callable Try.prog 10 = true := by kernel_rfl
theorem tZ5 : tyZ Try.prog 5 (.int .u8 0) := by unfold tyZ; kernel_rfl
theorem cl9 : callable Try.prog 9 = true := by kernel_rfl
theorem cl13 : callable Try.prog 13 = true := by kernel_rfl
theorem cl14 : callable Try.prog 14 = true := by kernel_rfl
theorem zr5 : Zr (rU UInt8) (0 : UInt8) (Value.cells (.int .u8 0)).toList := (Zr.u _ rfl rfl)
theorem tu9 : Program.underlying Try.prog 9 = some .string := by kernel_rfl
theorem tZ40 : tyZ Try.prog 40 (.agg #[.bool false, .bool false, .bool false, .bool false, .bool false, .bool false, .bool false, .bool false, .bool false, .bool false, .bool false, .bool false, .bool false, .bool false, .bool false, .bool false, .bool false, .bool false, .bool false, .bool false, .bool false, .bool false, .bool false, .bool false, .bool false, .bool false, .bool false, .bool false, .bool false, .bool false, .bool false, .bool false]) := by unfold tyZ; kernel_rfl
theorem zr40 : Zr (rV 32 rB) (Vector.replicate 32 false) (Value.cells (.agg #[.bool false, .bool false, .bool false, .bool false, .bool false, .bool false, .bool false, .bool false, .bool false, .bool false, .bool false, .bool false, .bool false, .bool false, .bool false, .bool false, .bool false, .bool false, .bool false, .bool false, .bool false, .bool false, .bool false, .bool false, .bool false, .bool false, .bool false, .bool false, .bool false, .bool false, .bool false, .bool false])).toList := (Zr.vec (Zr.bool _) rfl)
theorem tr40 : tyAr Try.prog 40 32 1 = true := by kernel_rfl
theorem tS4 : tyS Try.prog 4 = true := by kernel_rfl
theorem tu4 : Program.underlying Try.prog 4 = some .bool := by kernel_rfl
theorem cl19 : callable Try.prog 19 = true := by kernel_rfl
theorem tA40 : tyA Try.prog 40 32 = true := by kernel_rfl
theorem tu3 : Program.underlying Try.prog 3 = some (.int .i64) := by kernel_rfl
theorem tu36 : Program.underlying Try.prog 36 = some (.int .u64) := by kernel_rfl
theorem cl17 : callable Try.prog 17 = true := by kernel_rfl
theorem cl11 : callable Try.prog 11 = true := by kernel_rfl
theorem cl8 : callable Try.prog 8 = true := by kernel_rfl
theorem cl12 : callable Try.prog 12 = true := by kernel_rfl
theorem cl15 : callable Try.prog 15 = true := by kernel_rfl
end Go.Proofs.Ytlkofkegbkkhbaa
