/- What the walks read off the program's types. -/
import Derived.Test.YtnadeehdnmgebaaProg
import Derived.Test.YtnadeehdnmgebaaFw
import Derived.Test.YtnadeehdnmgebaaFy
import Derived.Test.YtnadeehdnmgebaaFz
import Derived.Test.YtnadeehdnmgebaaFs
import Derived.Test.YtnadeehdnmgebaaFda
import Derived.Test.YtnadeehdnmgebaaS
namespace Go.Proofs.Ytnadeehdnmgebaa
open Go Fw
set_option linter.unusedVariables false

def law12_Act.tup (x : law12_Act) : Int × Int × Int × (List UInt8) × Unit := (x.Kind, (x.A, (x.B, (x.Bytes, ()))))
abbrev r_law12_Act : Rep law12_Act := rM law12_Act.tup (rP (rI .i64) (rP (rI .i64) (rP (rI .i64) (rP (rL (rU UInt8)) r0))))
theorem comp_law12_Act_Kind (x : law12_Act) : Comp r_law12_Act x 0 (rI .i64) x.Kind := Comp.map (Comp.at' (Comp.inF (Comp.self (rI .i64) x.Kind) (by decide)) (by rfl : _ = 0))
theorem comp_law12_Act_A (x : law12_Act) : Comp r_law12_Act x 1 (rI .i64) x.A := Comp.map (Comp.at' (Comp.inS (Comp.inF (Comp.self (rI .i64) x.A) (by decide))) (by rfl : _ = 1))
theorem comp_law12_Act_B (x : law12_Act) : Comp r_law12_Act x 2 (rI .i64) x.B := Comp.map (Comp.at' (Comp.inS (Comp.inS (Comp.inF (Comp.self (rI .i64) x.B) (by decide)))) (by rfl : _ = 2))
theorem comp_law12_Act_Bytes (x : law12_Act) : Comp r_law12_Act x 3 (rL (rU UInt8)) x.Bytes := Comp.map (Comp.at' (Comp.inS (Comp.inS (Comp.inS (Comp.inF (Comp.self (rL (rU UInt8)) x.Bytes) (by decide))))) (by rfl : _ = 3))
def net_pair.tup (x : net_pair) : Int × Int × Unit := (x.from_, (x.to, ()))
abbrev r_net_pair : Rep net_pair := rM net_pair.tup (rP (rI .i64) (rP (rI .i64) r0))
theorem comp_net_pair_to (x : net_pair) : Comp r_net_pair x 1 (rI .i64) x.to := Comp.map (Comp.at' (Comp.inS (Comp.inF (Comp.self (rI .i64) x.to) (by decide))) (by rfl : _ = 1))
def api_Flight.tup (x : api_Flight) : Int × Int × (List UInt8) × Unit := (x.From, (x.To, (x.Bytes, ())))
abbrev r_api_Flight : Rep api_Flight := rM api_Flight.tup (rP (rI .i64) (rP (rI .i64) (rP (rL (rU UInt8)) r0)))
theorem comp_api_Flight_From (x : api_Flight) : Comp r_api_Flight x 0 (rI .i64) x.From := Comp.map (Comp.at' (Comp.inF (Comp.self (rI .i64) x.From) (by decide)) (by rfl : _ = 0))
theorem comp_api_Flight_To (x : api_Flight) : Comp r_api_Flight x 1 (rI .i64) x.To := Comp.map (Comp.at' (Comp.inS (Comp.inF (Comp.self (rI .i64) x.To) (by decide))) (by rfl : _ = 1))
theorem comp_api_Flight_Bytes (x : api_Flight) : Comp r_api_Flight x 2 (rL (rU UInt8)) x.Bytes := Comp.map (Comp.at' (Comp.inS (Comp.inS (Comp.inF (Comp.self (rL (rU UInt8)) x.Bytes) (by decide)))) (by rfl : _ = 2))
theorem mixed : Try.prog.follows .mixedOrders = true := by kernel_rfl
theorem zr57 : Zr (rP (rW (MPV none)) (rP (rI .i64) (rP (rI .i64) r0))) ((), ((0 : Int), ((0 : Int), ()))) (Value.cells (.agg #[.map none, .int .i64 0, .int .i64 0])).toList := (Zr.two (Zr.w (v := .map none) rfl) (Zr.two (Zr.int _ _) (Zr.two (Zr.int _ _) Zr.unit rfl) rfl) rfl)
theorem tZ57 : tyZ Try.prog 57 (.agg #[.map none, .int .i64 0, .int .i64 0]) := by unfold tyZ; kernel_rfl
theorem tp57 : tyPl Try.prog 57 [(0, 1), (1, 1), (2, 1)] := by unfold tyPl; kernel_rfl
theorem tu25 : Program.underlying Try.prog 25 = some (.pointer 57) := by kernel_rfl
theorem tu22 : Program.underlying Try.prog 22 = some (.slice 33) := by kernel_rfl
theorem tz33 : tySz Try.prog 33 4 = true := by kernel_rfl
theorem tf33_3 : tyF Try.prog 33 3 3 = true := by kernel_rfl
theorem tS31 : tyS Try.prog 31 = true := by kernel_rfl
theorem tu31 : Program.underlying Try.prog 31 = some (.slice 5) := by kernel_rfl
theorem tf33_0 : tyF Try.prog 33 0 0 = true := by kernel_rfl
theorem tS3 : tyS Try.prog 3 = true := by kernel_rfl
theorem cl10 : callable Try.prog 10 = true := by kernel_rfl
theorem cl12 : callable Try.prog 12 = true := by kernel_rfl
theorem tz5 : tySz Try.prog 5 1 = true := by kernel_rfl
theorem tZ5 : tyZ Try.prog 5 (.int .u8 0) := by unfold tyZ; kernel_rfl
theorem tu5 : Program.underlying Try.prog 5 = some (.int .u8) := by kernel_rfl
theorem tf57_0 : tyF Try.prog 57 0 0 = true := by kernel_rfl
theorem tS55 : tyS Try.prog 55 = true := by kernel_rfl
theorem tu55 : Program.underlying Try.prog 55 = some (.map 60 58) := by kernel_rfl
theorem cl29 : callable Try.prog 29 = true := by kernel_rfl
theorem tf57_1 : tyF Try.prog 57 1 1 = true := by kernel_rfl
theorem zs60 : Zr (rP (rI .i64) (rP (rI .i64) r0)) ((net_pair.mk (0 : Int) (0 : Int)).from_, ((net_pair.mk (0 : Int) (0 : Int)).to, ())) (Value.cells (.agg #[.int .i64 0, .int .i64 0])).toList := (Zr.two (Zr.int _ _) (Zr.two (Zr.int _ _) Zr.unit rfl) rfl)
theorem tZ60 : tyZ Try.prog 60 (.agg #[.int .i64 0, .int .i64 0]) := by unfold tyZ; kernel_rfl
theorem tp60 : tyPl Try.prog 60 [(0, 1), (1, 1)] := by unfold tyPl; kernel_rfl
theorem tu3 : Program.underlying Try.prog 3 = some (.int .i64) := by kernel_rfl
theorem tu60 : Program.underlying Try.prog 60 = some (.struct (Program.fieldsOf Try.prog 60)) := by kernel_rfl
theorem fl60 : (Program.fieldsOf Try.prog 60).toList = [{ name := "from", type := 3, offset := 0, embedded := false, tag := "", pkgPath := "minster/net", byteOffset := 0 }, { name := "to", type := 3, offset := 1, embedded := false, tag := "", pkgPath := "minster/net", byteOffset := 8 }] := by kernel_rfl
theorem nh60 : notHeld Try.prog 60 = true := by kernel_rfl
theorem qa60 : EqA Try.prog 2 60 r_net_pair eq_net_pair := EqA.struct tu60 nh60 (by rw [fl60]; exact (EqF.consS (by decide) rfl tS3 rfl (EqS.int tu3) (EqF.consS (by decide) rfl tS3 rfl (EqS.int tu3) EqF.nil))) (fun _ _ => rfl)
theorem ti59 : ∀ {x y : net_pair}, net_pair.tup x = net_pair.tup y → x = y := fun {x y} h => by cases x; cases y; simpa [net_pair.tup] using h
theorem ky60 : KeyT Try.prog 60 (A r_net_pair) := KeyT.struct tu60 qa60 (by decide) eq_net_pair_iff ti59 (KeyR.pair KeyR.int (KeyR.pair KeyR.int KeyR.unit)) (by rw [fl60]; exact (ChkR.cons (by decide) rfl tS3 rfl tu3 (fun h => isKeyI h) (ChkR.cons (by decide) rfl tS3 rfl tu3 (fun h => isKeyI h) ChkR.nil)))
theorem tZ58 : tyZ Try.prog 58 (.slice none 0 0) := by unfold tyZ; kernel_rfl
theorem zv58 : Zr (rL (rL (rU UInt8))) ([] : (List (List UInt8))) (Value.cells (.slice none 0 0)).toList := (Zr.list _)
theorem tu58 : Program.underlying Try.prog 58 = some (.slice 31) := by kernel_rfl
theorem tf57_2 : tyF Try.prog 57 2 2 = true := by kernel_rfl
theorem tA60 : tyA Try.prog 60 2 = true := by kernel_rfl
theorem tz31 : tySz Try.prog 31 1 = true := by kernel_rfl
theorem tB5 : tyB Try.prog 5 1 1 (.int .u8 0) := tyB.of (by kernel_rfl)
theorem cl40 : callable Try.prog 40 = true := by kernel_rfl
theorem tZ31 : tyZ Try.prog 31 (.slice none 0 0) := by unfold tyZ; kernel_rfl
theorem tB31 : tyB Try.prog 31 1 24 (.slice none 0 0) := tyB.of (by kernel_rfl)
theorem cl30 : callable Try.prog 30 = true := by kernel_rfl
theorem cl13 : callable Try.prog 13 = true := by kernel_rfl
theorem tZ36 : tyZ Try.prog 36 (.agg #[.int .i64 0, .int .i64 0, .slice none 0 0]) := by unfold tyZ; kernel_rfl
theorem zr36 : Zr (rP (rI .i64) (rP (rI .i64) (rP (rW (HDR none 0 0 0)) r0))) ((0 : Int), ((0 : Int), ((), ()))) (Value.cells (.agg #[.int .i64 0, .int .i64 0, .slice none 0 0])).toList := (Zr.two (Zr.int _ _) (Zr.two (Zr.int _ _) (Zr.two (Zr.w (v := .slice none 0 0) rfl) Zr.unit rfl) rfl) rfl)
theorem tZ26 : tyZ Try.prog 26 (.int .i64 0) := by unfold tyZ; kernel_rfl
theorem zr26 : Zr (rI .i64) (0 : Int) (Value.cells (.int .i64 0)).toList := (Zr.int _ _)
theorem tA36 : tyA Try.prog 36 3 = true := by kernel_rfl
theorem tS26 : tyS Try.prog 26 = true := by kernel_rfl
theorem tZ30 : tyZ Try.prog 30 (.slice none 0 0) := by unfold tyZ; kernel_rfl
theorem zr30 : Zr (rW (HDR none 0 0 0)) () (Value.cells (.slice none 0 0)).toList := (Zr.w (v := .slice none 0 0) rfl)
theorem tS30 : tyS Try.prog 30 = true := by kernel_rfl
theorem tp36 : tyPl Try.prog 36 [(0, 1), (1, 1), (2, 1)] := by unfold tyPl; kernel_rfl
theorem tu30 : Program.underlying Try.prog 30 = some (.slice 36) := by kernel_rfl
theorem tz36 : tySz Try.prog 36 3 = true := by kernel_rfl
theorem tB36 : tyB Try.prog 36 3 40 (.agg #[.int .i64 0, .int .i64 0, .slice none 0 0]) := tyB.of (by kernel_rfl)
theorem cl31 : callable Try.prog 31 = true := by kernel_rfl
theorem tf36_2 : tyF Try.prog 36 2 2 = true := by kernel_rfl
theorem cl41 : callable Try.prog 41 = true := by kernel_rfl
theorem cl14 : callable Try.prog 14 = true := by kernel_rfl
theorem tS25 : tyS Try.prog 25 = true := by kernel_rfl
theorem tf36_0 : tyF Try.prog 36 0 0 = true := by kernel_rfl
theorem tf36_1 : tyF Try.prog 36 1 1 = true := by kernel_rfl
theorem zr60 : Zr r_net_pair (net_pair.mk (0 : Int) (0 : Int)) (Value.cells (.agg #[.int .i64 0, .int .i64 0])).toList := (Zr.map (Zr.two (Zr.int _ _) (Zr.two (Zr.int _ _) Zr.unit rfl) rfl))
theorem tf60_0 : tyF Try.prog 60 0 0 = true := by kernel_rfl
theorem tf60_1 : tyF Try.prog 60 1 1 = true := by kernel_rfl
theorem cl33 : callable Try.prog 33 = true := by kernel_rfl
theorem zv31 : Zr (rL (rU UInt8)) ([] : (List UInt8)) (Value.cells (.slice none 0 0)).toList := (Zr.list _)
theorem cl32 : callable Try.prog 32 = true := by kernel_rfl
theorem cl15 : callable Try.prog 15 = true := by kernel_rfl
theorem tu9 : Program.underlying Try.prog 9 = some .string := by kernel_rfl
theorem cl17 : callable Try.prog 17 = true := by kernel_rfl
theorem cl16 : callable Try.prog 16 = true := by kernel_rfl
theorem cl19 : callable Try.prog 19 = true := by kernel_rfl
theorem cl21 : callable Try.prog 21 = true := by kernel_rfl
theorem cl28 : callable Try.prog 28 = true := by kernel_rfl
theorem cl11 : callable Try.prog 11 = true := by kernel_rfl
theorem cl9 : callable Try.prog 9 = true := by kernel_rfl
theorem zr43 : Zr (rP (rW (HDR none 0 0 0)) (rP (rI .i64) (rP (rI .i64) r0))) ((), ((0 : Int), ((0 : Int), ()))) (Value.cells (.agg #[.slice none 0 0, .int .i64 0, .int .i64 0])).toList := (Zr.two (Zr.w (v := .slice none 0 0) rfl) (Zr.two (Zr.int _ _) (Zr.two (Zr.int _ _) Zr.unit rfl) rfl) rfl)
theorem tZ43 : tyZ Try.prog 43 (.agg #[.slice none 0 0, .int .i64 0, .int .i64 0]) := by unfold tyZ; kernel_rfl
theorem tp43 : tyPl Try.prog 43 [(0, 1), (1, 1), (2, 1)] := by unfold tyPl; kernel_rfl
theorem tA57 : tyA Try.prog 57 3 = true := by kernel_rfl
theorem cl23 : callable Try.prog 23 = true := by kernel_rfl
theorem tf43_0 : tyF Try.prog 43 0 0 = true := by kernel_rfl
theorem tf43_1 : tyF Try.prog 43 1 1 = true := by kernel_rfl
theorem tf43_2 : tyF Try.prog 43 2 2 = true := by kernel_rfl
theorem cl24 : callable Try.prog 24 = true := by kernel_rfl
theorem tA33 : tyA Try.prog 33 4 = true := by kernel_rfl
theorem tf33_1 : tyF Try.prog 33 1 1 = true := by kernel_rfl
theorem tf33_2 : tyF Try.prog 33 2 2 = true := by kernel_rfl
theorem tS5 : tyS Try.prog 5 = true := by kernel_rfl
theorem cl39 : callable Try.prog 39 = true := by kernel_rfl
theorem cl42 : callable Try.prog 42 = true := by kernel_rfl
theorem cl34 : callable Try.prog 34 = true := by kernel_rfl
theorem cl38 : callable Try.prog 38 = true := by kernel_rfl
theorem cl35 : callable Try.prog 35 = true := by kernel_rfl
theorem cl36 : callable Try.prog 36 = true := by kernel_rfl
theorem cl20 : callable Try.prog 20 = true := by kernel_rfl
theorem cl37 : callable Try.prog 37 = true := by kernel_rfl
theorem cl18 : callable Try.prog 18 = true := by kernel_rfl
theorem cl26 : callable Try.prog 26 = true := by kernel_rfl
theorem tZ4 : tyZ Try.prog 4 (.bool false) := by unfold tyZ; kernel_rfl
theorem zr4 : Zr rB false (Value.cells (.bool false)).toList := (Zr.bool _)
theorem tZ3 : tyZ Try.prog 3 (.int .i64 0) := by unfold tyZ; kernel_rfl
theorem zr3 : Zr (rI .i64) (0 : Int) (Value.cells (.int .i64 0)).toList := (Zr.int _ _)
theorem un63 : isFuncT Try.prog 63 = true := by kernel_rfl
theorem tS41 : tyS Try.prog 41 = true := by kernel_rfl
theorem tS4 : tyS Try.prog 4 = true := by kernel_rfl
theorem cl22 : callable Try.prog 22 = true := by kernel_rfl
theorem cl25 : callable Try.prog 25 = true := by kernel_rfl
theorem tu33 : Program.underlying Try.prog 33 = some (.struct (Program.fieldsOf Try.prog 33)) := by kernel_rfl
theorem fl33 : (Program.fieldsOf Try.prog 33).toList = [{ name := "Kind", type := 3, offset := 0, embedded := false, tag := "", pkgPath := "", byteOffset := 0 }, { name := "A", type := 3, offset := 1, embedded := false, tag := "", pkgPath := "", byteOffset := 8 }, { name := "B", type := 3, offset := 2, embedded := false, tag := "", pkgPath := "", byteOffset := 16 }, { name := "Bytes", type := 31, offset := 3, embedded := false, tag := "", pkgPath := "", byteOffset := 24 }] := by kernel_rfl
end Go.Proofs.Ytnadeehdnmgebaa
