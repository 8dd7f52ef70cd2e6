/- What the walks read off the program's types. -/
import Derived.Test.YthoggbomakolkaaProg
import Derived.Test.YthoggbomakolkaaFw
import Derived.Test.YthoggbomakolkaaFs
import Derived.Test.YthoggbomakolkaaS
namespace Go.Proofs.Ythoggbomakolkaa
open Go Fw
set_option linter.unusedVariables false

def api_Dot.tup (x : api_Dot) : Int × UInt64 × Unit := (x.Region, (x.Count, ()))
abbrev r_api_Dot : Rep api_Dot := rM api_Dot.tup (rP (rI .i64) (rP (rU UInt64) r0))
theorem comp_api_Dot_Region (x : api_Dot) : Comp r_api_Dot x 0 (rI .i64) x.Region := Comp.map (Comp.at' (Comp.inF (Comp.self (rI .i64) x.Region) (by decide)) (by rfl : _ = 0))
theorem comp_api_Dot_Count (x : api_Dot) : Comp r_api_Dot x 1 (rU UInt64) x.Count := Comp.map (Comp.at' (Comp.inS (Comp.inF (Comp.self (rU UInt64) x.Count) (by decide))) (by rfl : _ = 1))
def api_Dest.tup (x : api_Dest) : api_Dot × (List UInt8) × Unit := (x.Dot, (x.Device, ()))
abbrev r_api_Dest : Rep api_Dest := rM api_Dest.tup (rP r_api_Dot (rP rS r0))
theorem comp_api_Dest_Dot (x : api_Dest) : Comp r_api_Dest x 0 r_api_Dot x.Dot := Comp.map (Comp.at' (Comp.inF (Comp.self r_api_Dot x.Dot) (by decide)) (by rfl : _ = 0))
theorem upd_api_Dest_Dot (x : api_Dest) (y : api_Dot) : Upd r_api_Dest x 0 r_api_Dot y { x with Dot := y } := Upd.map (UpdR.U (UpdR.at (UpdR.fst (UpdR.self rfl)) (by rfl : _ = 0)))
theorem comp_api_Dest_Device (x : api_Dest) : Comp r_api_Dest x 2 rS x.Device := Comp.map (Comp.at' (Comp.inS (Comp.inF (Comp.self rS x.Device) (by decide))) (by rfl : _ = 2))
theorem upd_api_Dest_Device (x : api_Dest) (y : (List UInt8)) : Upd r_api_Dest x 2 rS y { x with Device := y } := Upd.map (UpdR.U (UpdR.at (UpdR.snd (UpdR.fst (UpdR.self rfl))) (by rfl : _ = 2)))

def api_Event.tup (x : api_Event) : api_Dot × (List UInt8) × (List UInt8) × (Vector UInt64 16) × (List api_Dest) × Unit := (x.ID, (x.Topic, (x.Payload, (x.Past, (x.To, ())))))
abbrev r_api_Event : Rep api_Event := rM api_Event.tup (rP r_api_Dot (rP rS (rP (rL (rU UInt8)) (rP (rV 16 (rU UInt64)) (rP (rL r_api_Dest) r0)))))
theorem comp_api_Event_ID (x : api_Event) : Comp r_api_Event x 0 r_api_Dot x.ID := Comp.map (Comp.at' (Comp.inF (Comp.self r_api_Dot x.ID) (by decide)) (by rfl : _ = 0))
theorem comp_api_Event_Topic (x : api_Event) : Comp r_api_Event x 2 rS x.Topic := Comp.map (Comp.at' (Comp.inS (Comp.inF (Comp.self rS x.Topic) (by decide))) (by rfl : _ = 2))
theorem comp_api_Event_Payload (x : api_Event) : Comp r_api_Event x 3 (rL (rU UInt8)) x.Payload := Comp.map (Comp.at' (Comp.inS (Comp.inS (Comp.inF (Comp.self (rL (rU UInt8)) x.Payload) (by decide)))) (by rfl : _ = 3))
theorem comp_api_Event_Past (x : api_Event) : Comp r_api_Event x 4 (rV 16 (rU UInt64)) x.Past := Comp.map (Comp.at' (Comp.inS (Comp.inS (Comp.inS (Comp.inF (Comp.self (rV 16 (rU UInt64)) x.Past) (by decide))))) (by rfl : _ = 4))
theorem comp_api_Event_To (x : api_Event) : Comp r_api_Event x 20 (rL r_api_Dest) x.To := Comp.map (Comp.at' (Comp.inS (Comp.inS (Comp.inS (Comp.inS (Comp.inF (Comp.self (rL r_api_Dest) x.To) (by decide)))))) (by rfl : _ = 20))
def ref01_Reader.tup (x : ref01_Reader) : (List UInt8) × Int × Bool × Unit := (x.B, (x.At, (x.Failed, ())))
abbrev r_ref01_Reader : Rep ref01_Reader := rM ref01_Reader.tup (rP (rL (rU UInt8)) (rP (rI .i64) (rP rB r0)))
theorem comp_ref01_Reader_B (x : ref01_Reader) : Comp r_ref01_Reader x 0 (rL (rU UInt8)) x.B := Comp.map (Comp.at' (Comp.inF (Comp.self (rL (rU UInt8)) x.B) (by decide)) (by rfl : _ = 0))
theorem comp_ref01_Reader_At (x : ref01_Reader) : Comp r_ref01_Reader x 1 (rI .i64) x.At := Comp.map (Comp.at' (Comp.inS (Comp.inF (Comp.self (rI .i64) x.At) (by decide))) (by rfl : _ = 1))
theorem upd_ref01_Reader_At (x : ref01_Reader) (y : Int) : Upd r_ref01_Reader x 1 (rI .i64) y { x with At := y } := Upd.map (UpdR.U (UpdR.at (UpdR.snd (UpdR.fst (UpdR.self rfl))) (by rfl : _ = 1)))
theorem comp_ref01_Reader_Failed (x : ref01_Reader) : Comp r_ref01_Reader x 2 rB x.Failed := Comp.map (Comp.at' (Comp.inS (Comp.inS (Comp.inF (Comp.self rB x.Failed) (by decide)))) (by rfl : _ = 2))
theorem upd_ref01_Reader_Failed (x : ref01_Reader) (y : Bool) : Upd r_ref01_Reader x 2 rB y { x with Failed := y } := Upd.map (UpdR.U (UpdR.at (UpdR.snd (UpdR.snd (UpdR.fst (UpdR.self rfl)))) (by rfl : _ = 2)))

theorem mixed : Try.prog.follows .mixedOrders = true := by kernel_rfl
theorem tA38 : tyA Try.prog 38 21 = true := by kernel_rfl
theorem tf38_1 : tyF Try.prog 38 1 2 = true := by kernel_rfl
theorem tS9 : tyS Try.prog 9 = true := by kernel_rfl
theorem tu9 : Program.underlying Try.prog 9 = some .string := by kernel_rfl
theorem tf38_2 : tyF Try.prog 38 2 3 = true := by kernel_rfl
theorem tS35 : tyS Try.prog 35 = true := by kernel_rfl
theorem tu35 : Program.underlying Try.prog 35 = some (.slice 5) := by kernel_rfl
theorem tf38_4 : tyF Try.prog 38 4 20 = true := by kernel_rfl
theorem tS36 : tyS Try.prog 36 = true := by kernel_rfl
theorem tu36 : Program.underlying Try.prog 36 = some (.slice 59) := by kernel_rfl
theorem tz59 : tySz Try.prog 59 3 = true := by kernel_rfl
theorem tf59_1 : tyF Try.prog 59 1 2 = true := by kernel_rfl
theorem cl14 : callable Try.prog 14 = true := by kernel_rfl
theorem zs24 : Zr (rP (rI .i64) (rP (rU UInt64) r0)) ((api_Dot.mk (0 : Int) (0 : UInt64)).Region, ((api_Dot.mk (0 : Int) (0 : UInt64)).Count, ())) (Value.cells (.agg #[.int .i64 0, .int .u64 0])).toList := (Zr.two (Zr.int _ _) (Zr.two (Zr.u _ rfl rfl) Zr.unit rfl) rfl)
theorem tZ24 : tyZ Try.prog 24 (.agg #[.int .i64 0, .int .u64 0]) := by unfold tyZ; kernel_rfl
theorem tp24 : tyPl Try.prog 24 [(0, 1), (1, 1)] := by unfold tyPl; kernel_rfl
theorem tZ26 : tyZ Try.prog 26 (.agg #[.int .u64 0, .int .u64 0, .int .u64 0, .int .u64 0, .int .u64 0, .int .u64 0, .int .u64 0, .int .u64 0, .int .u64 0, .int .u64 0, .int .u64 0, .int .u64 0, .int .u64 0, .int .u64 0, .int .u64 0, .int .u64 0]) := by unfold tyZ; kernel_rfl
theorem zv26 : Zr (rV 16 (rU UInt64)) (Vector.replicate 16 (0 : UInt64)) (Value.cells (.agg #[.int .u64 0, .int .u64 0, .int .u64 0, .int .u64 0, .int .u64 0, .int .u64 0, .int .u64 0, .int .u64 0, .int .u64 0, .int .u64 0, .int .u64 0, .int .u64 0, .int .u64 0, .int .u64 0, .int .u64 0, .int .u64 0])).toList := (Zr.vec (Zr.u _ rfl rfl) rfl)
theorem tp26 : tyPl Try.prog 26 [(0, 1), (1, 1), (2, 1), (3, 1), (4, 1), (5, 1), (6, 1), (7, 1), (8, 1), (9, 1), (10, 1), (11, 1), (12, 1), (13, 1), (14, 1), (15, 1)] := by unfold tyPl; kernel_rfl
theorem zr38 : Zr (rP r_api_Dot (rP rS (rP (rW (HDR none 0 0 0)) (rP (rV 16 (rU UInt64)) (rP (rW (HDR none 0 0 0)) r0))))) ((api_Dot.mk (0 : Int) (0 : UInt64)), (([] : (List UInt8)), ((), ((Vector.replicate 16 (0 : UInt64)), ((), ()))))) (Value.cells (.agg #[.int .i64 0, .int .u64 0, .string ⟨#[]⟩, .slice none 0 0, .int .u64 0, .int .u64 0, .int .u64 0, .int .u64 0, .int .u64 0, .int .u64 0, .int .u64 0, .int .u64 0, .int .u64 0, .int .u64 0, .int .u64 0, .int .u64 0, .int .u64 0, .int .u64 0, .int .u64 0, .int .u64 0, .slice none 0 0])).toList := (Zr.two (Zr.map (Zr.two (Zr.int _ _) (Zr.two (Zr.u _ rfl rfl) Zr.unit rfl) rfl)) (Zr.two (Zr.str rfl) (Zr.two (Zr.w (v := .slice none 0 0) rfl) (Zr.two (Zr.vec (Zr.u _ rfl rfl) rfl) (Zr.two (Zr.w (v := .slice none 0 0) rfl) Zr.unit rfl) rfl) rfl) rfl) rfl)
theorem tZ38 : tyZ Try.prog 38 (.agg #[.int .i64 0, .int .u64 0, .string ⟨#[]⟩, .slice none 0 0, .int .u64 0, .int .u64 0, .int .u64 0, .int .u64 0, .int .u64 0, .int .u64 0, .int .u64 0, .int .u64 0, .int .u64 0, .int .u64 0, .int .u64 0, .int .u64 0, .int .u64 0, .int .u64 0, .int .u64 0, .int .u64 0, .slice none 0 0]) := by unfold tyZ; kernel_rfl
theorem tp38 : tyPl Try.prog 38 [(0, 2), (2, 1), (3, 1), (4, 16), (20, 1)] := by unfold tyPl; kernel_rfl
theorem zr24 : Zr r_api_Dot (api_Dot.mk (0 : Int) (0 : UInt64)) (Value.cells (.agg #[.int .i64 0, .int .u64 0])).toList := (Zr.map (Zr.two (Zr.int _ _) (Zr.two (Zr.u _ rfl rfl) Zr.unit rfl) rfl))
theorem tA24 : tyA Try.prog 24 2 = true := by kernel_rfl
theorem tf38_0 : tyF Try.prog 38 0 0 = true := by kernel_rfl
theorem tf24_0 : tyF Try.prog 24 0 0 = true := by kernel_rfl
theorem tS3 : tyS Try.prog 3 = true := by kernel_rfl
theorem tf24_1 : tyF Try.prog 24 1 1 = true := by kernel_rfl
theorem tS22 : tyS Try.prog 22 = true := by kernel_rfl
theorem cl27 : callable Try.prog 27 = true := by kernel_rfl
theorem tf38_3 : tyF Try.prog 38 3 4 = true := by kernel_rfl
theorem tA26 : tyA Try.prog 26 16 = true := by kernel_rfl
theorem tu26 : Program.underlying Try.prog 26 = some (.array 16 22) := by kernel_rfl
theorem tz22 : tySz Try.prog 22 1 = true := by kernel_rfl
theorem tu86 : Program.underlying Try.prog 86 = some (.slice 22) := by kernel_rfl
theorem cl59 : callable Try.prog 59 = true := by kernel_rfl
theorem cl69 : callable Try.prog 69 = true := by kernel_rfl
theorem cl58 : callable Try.prog 58 = true := by kernel_rfl
theorem cl29 : callable Try.prog 29 = true := by kernel_rfl
theorem tr26 : tyAr Try.prog 26 16 1 = true := by kernel_rfl
theorem cl30 : callable Try.prog 30 = true := by kernel_rfl
theorem tA59 : tyA Try.prog 59 3 = true := by kernel_rfl
theorem tZ59 : tyZ Try.prog 59 (.agg #[.int .i64 0, .int .u64 0, .string ⟨#[]⟩]) := by unfold tyZ; kernel_rfl
theorem zr59 : Zr r_api_Dest (api_Dest.mk (api_Dot.mk (0 : Int) (0 : UInt64)) ([] : (List UInt8))) (Value.cells (.agg #[.int .i64 0, .int .u64 0, .string ⟨#[]⟩])).toList := (Zr.map (Zr.two (Zr.map (Zr.two (Zr.int _ _) (Zr.two (Zr.u _ rfl rfl) Zr.unit rfl) rfl)) (Zr.two (Zr.str rfl) Zr.unit rfl) rfl))
theorem tf59_0 : tyF Try.prog 59 0 0 = true := by kernel_rfl
theorem cl51 : callable Try.prog 51 = true := by kernel_rfl
theorem cl25 : callable Try.prog 25 = true := by kernel_rfl
theorem cl52 : callable Try.prog 52 = true := by kernel_rfl
theorem cl26 : callable Try.prog 26 = true := by kernel_rfl
theorem tu78 : Program.underlying Try.prog 78 = some (.slice 3) := by kernel_rfl
theorem tz3 : tySz Try.prog 3 1 = true := by kernel_rfl
theorem tZ3 : tyZ Try.prog 3 (.int .i64 0) := by unfold tyZ; kernel_rfl
theorem cl24 : callable Try.prog 24 = true := by kernel_rfl
theorem cl7 : callable Try.prog 7 = true := by kernel_rfl
theorem cl17 : callable Try.prog 17 = true := by kernel_rfl
theorem zr26 : Zr (rV 16 (rU UInt64)) (Vector.replicate 16 (0 : UInt64)) (Value.cells (.agg #[.int .u64 0, .int .u64 0, .int .u64 0, .int .u64 0, .int .u64 0, .int .u64 0, .int .u64 0, .int .u64 0, .int .u64 0, .int .u64 0, .int .u64 0, .int .u64 0, .int .u64 0, .int .u64 0, .int .u64 0, .int .u64 0])).toList := (Zr.vec (Zr.u _ rfl rfl) rfl)
theorem cl8 : callable Try.prog 8 = true := by kernel_rfl
theorem tu22 : Program.underlying Try.prog 22 = some (.int .u64) := by kernel_rfl
theorem qa26 : EqA Try.prog 2 26 (rV 16 (rU UInt64)) (eqV (fun x y => x == y)) := EqA.arrS tu26 tS22 rfl (EqS.u (U := UInt64) tu22)
theorem ng26 : noGuard Try.prog 26 = true := by kernel_rfl
theorem cl13 : callable Try.prog 13 = true := by kernel_rfl
theorem cl9 : callable Try.prog 9 = true := by kernel_rfl
theorem cl10 : callable Try.prog 10 = true := by kernel_rfl
theorem tZ35 : tyZ Try.prog 35 (.slice none 0 0) := by unfold tyZ; kernel_rfl
theorem zr35 : Zr (rW (HDR none 0 0 0)) () (Value.cells (.slice none 0 0)).toList := (Zr.w (v := .slice none 0 0) rfl)
theorem tu5 : Program.underlying Try.prog 5 = some (.int .u8) := by kernel_rfl
theorem tz5 : tySz Try.prog 5 1 = true := by kernel_rfl
theorem tZ5 : tyZ Try.prog 5 (.int .u8 0) := by unfold tyZ; kernel_rfl
theorem tB5 : tyB Try.prog 5 1 1 (.int .u8 0) := tyB.of (by kernel_rfl)
theorem cl57 : callable Try.prog 57 = true := by kernel_rfl
theorem tu3 : Program.underlying Try.prog 3 = some (.int .i64) := by kernel_rfl
theorem cl54 : callable Try.prog 54 = true := by kernel_rfl
theorem cl53 : callable Try.prog 53 = true := by kernel_rfl
theorem cl55 : callable Try.prog 55 = true := by kernel_rfl
theorem cl56 : callable Try.prog 56 = true := by kernel_rfl
theorem cl28 : callable Try.prog 28 = true := by kernel_rfl
theorem cl16 : callable Try.prog 16 = true := by kernel_rfl
theorem cl31 : callable Try.prog 31 = true := by kernel_rfl
theorem cl12 : callable Try.prog 12 = true := by kernel_rfl
theorem cl11 : callable Try.prog 11 = true := by kernel_rfl
theorem cl32 : callable Try.prog 32 = true := by kernel_rfl
theorem cl18 : callable Try.prog 18 = true := by kernel_rfl
theorem tu4 : Program.underlying Try.prog 4 = some .bool := by kernel_rfl
theorem zv5 : Zr (rU UInt8) (0 : UInt8) (Value.cells (.int .u8 0)).toList := (Zr.u _ rfl rfl)
theorem tS5 : tyS Try.prog 5 = true := by kernel_rfl
theorem cl36 : callable Try.prog 36 = true := by kernel_rfl
theorem cl33 : callable Try.prog 33 = true := by kernel_rfl
theorem cl34 : callable Try.prog 34 = true := by kernel_rfl
theorem cl35 : callable Try.prog 35 = true := by kernel_rfl
theorem tu64 : Program.underlying Try.prog 64 = some (.slice 35) := by kernel_rfl
theorem tz35 : tySz Try.prog 35 1 = true := by kernel_rfl
theorem tB35 : tyB Try.prog 35 1 24 (.slice none 0 0) := tyB.of (by kernel_rfl)
theorem cl37 : callable Try.prog 37 = true := by kernel_rfl
theorem cl19 : callable Try.prog 19 = true := by kernel_rfl
theorem cl20 : callable Try.prog 20 = true := by kernel_rfl
theorem cl60 : callable Try.prog 60 = true := by kernel_rfl
theorem zr88 : Zr (rP (rW (HDR none 0 0 0)) (rP rB (rP rB r0))) ((), (false, (false, ()))) (Value.cells (.agg #[.slice none 0 0, .bool false, .bool false])).toList := (Zr.two (Zr.w (v := .slice none 0 0) rfl) (Zr.two (Zr.bool _) (Zr.two (Zr.bool _) Zr.unit rfl) rfl) rfl)
theorem tZ88 : tyZ Try.prog 88 (.agg #[.slice none 0 0, .bool false, .bool false]) := by unfold tyZ; kernel_rfl
theorem tp88 : tyPl Try.prog 88 [(0, 1), (1, 1), (2, 1)] := by unfold tyPl; kernel_rfl
theorem cl38 : callable Try.prog 38 = true := by kernel_rfl
theorem tu66 : Program.underlying Try.prog 66 = some (.pointer 88) := by kernel_rfl
theorem tf88_1 : tyF Try.prog 88 1 1 = true := by kernel_rfl
theorem tS4 : tyS Try.prog 4 = true := by kernel_rfl
theorem cl65 : callable Try.prog 65 = true := by kernel_rfl
theorem tf88_0 : tyF Try.prog 88 0 0 = true := by kernel_rfl
theorem tA88 : tyA Try.prog 88 3 = true := by kernel_rfl
theorem cl61 : callable Try.prog 61 = true := by kernel_rfl
theorem cl64 : callable Try.prog 64 = true := by kernel_rfl
theorem cl42 : callable Try.prog 42 = true := by kernel_rfl
theorem cl39 : callable Try.prog 39 = true := by kernel_rfl
theorem cl62 : callable Try.prog 62 = true := by kernel_rfl
theorem cl40 : callable Try.prog 40 = true := by kernel_rfl
theorem tZ66 : tyZ Try.prog 66 (.pointer none) := by unfold tyZ; kernel_rfl
theorem zr66 : Zr (rW (PTO none)) () (Value.cells (.pointer none)).toList := (Zr.w (v := .pointer none) rfl)
theorem tS66 : tyS Try.prog 66 = true := by kernel_rfl
theorem cl63 : callable Try.prog 63 = true := by kernel_rfl
theorem cl41 : callable Try.prog 41 = true := by kernel_rfl
theorem cl43 : callable Try.prog 43 = true := by kernel_rfl
theorem zs59 : Zr (rP r_api_Dot (rP rS r0)) ((api_Dest.mk (api_Dot.mk (0 : Int) (0 : UInt64)) ([] : (List UInt8))).Dot, ((api_Dest.mk (api_Dot.mk (0 : Int) (0 : UInt64)) ([] : (List UInt8))).Device, ())) (Value.cells (.agg #[.int .i64 0, .int .u64 0, .string ⟨#[]⟩])).toList := (Zr.two (Zr.map (Zr.two (Zr.int _ _) (Zr.two (Zr.u _ rfl rfl) Zr.unit rfl) rfl)) (Zr.two (Zr.str rfl) Zr.unit rfl) rfl)
theorem tp59 : tyPl Try.prog 59 [(0, 2), (2, 1)] := by unfold tyPl; kernel_rfl
theorem tB59 : tyB Try.prog 59 3 32 (.agg #[.int .i64 0, .int .u64 0, .string ⟨#[]⟩]) := tyB.of (by kernel_rfl)
theorem tf88_2 : tyF Try.prog 88 2 2 = true := by kernel_rfl
theorem cl44 : callable Try.prog 44 = true := by kernel_rfl
theorem cl45 : callable Try.prog 45 = true := by kernel_rfl
theorem cl21 : callable Try.prog 21 = true := by kernel_rfl
theorem zr77 : Zr (rP (rW (HDR none 0 0 0)) (rP (rI .i64) (rP rB r0))) ((), ((0 : Int), (false, ()))) (Value.cells (.agg #[.slice none 0 0, .int .i64 0, .bool false])).toList := (Zr.two (Zr.w (v := .slice none 0 0) rfl) (Zr.two (Zr.int _ _) (Zr.two (Zr.bool _) Zr.unit rfl) rfl) rfl)
theorem tZ77 : tyZ Try.prog 77 (.agg #[.slice none 0 0, .int .i64 0, .bool false]) := by unfold tyZ; kernel_rfl
theorem tp77 : tyPl Try.prog 77 [(0, 1), (1, 1), (2, 1)] := by unfold tyPl; kernel_rfl
theorem tf77_2 : tyF Try.prog 77 2 2 = true := by kernel_rfl
theorem tf77_0 : tyF Try.prog 77 0 0 = true := by kernel_rfl
theorem tf77_1 : tyF Try.prog 77 1 1 = true := by kernel_rfl
theorem cl66 : callable Try.prog 66 = true := by kernel_rfl
theorem zv24 : Zr r_api_Dot (api_Dot.mk (0 : Int) (0 : UInt64)) (Value.cells (.agg #[.int .i64 0, .int .u64 0])).toList := (Zr.map (Zr.two (Zr.int _ _) (Zr.two (Zr.u _ rfl rfl) Zr.unit rfl) rfl))
theorem cl67 : callable Try.prog 67 = true := by kernel_rfl
theorem cl46 : callable Try.prog 46 = true := by kernel_rfl
theorem cl49 : callable Try.prog 49 = true := by kernel_rfl
theorem cl47 : callable Try.prog 47 = true := by kernel_rfl
theorem cl48 : callable Try.prog 48 = true := by kernel_rfl
theorem cl68 : callable Try.prog 68 = true := by kernel_rfl
theorem cl50 : callable Try.prog 50 = true := by kernel_rfl
theorem cl22 : callable Try.prog 22 = true := by kernel_rfl
theorem tu24 : Program.underlying Try.prog 24 = some (.struct (Program.fieldsOf Try.prog 24)) := by kernel_rfl
theorem fl24 : (Program.fieldsOf Try.prog 24).toList = [{ name := "Region", type := 3, offset := 0, embedded := false, tag := "", pkgPath := "", byteOffset := 0 }, { name := "Count", type := 22, offset := 1, embedded := false, tag := "", pkgPath := "", byteOffset := 8 }] := by kernel_rfl
theorem nh24 : notHeld Try.prog 24 = true := by kernel_rfl
theorem qa24 : EqA Try.prog 2 24 r_api_Dot eq_api_Dot := EqA.struct tu24 nh24 (by rw [fl24]; exact (EqF.consS (by decide) rfl tS3 rfl (EqS.int tu3) (EqF.consS (by decide) rfl tS22 rfl (EqS.u (U := UInt64) tu22) EqF.nil))) (fun _ _ => rfl)
theorem ng24 : noGuard Try.prog 24 = true := by kernel_rfl
theorem tu59 : Program.underlying Try.prog 59 = some (.struct (Program.fieldsOf Try.prog 59)) := by kernel_rfl
theorem fl59 : (Program.fieldsOf Try.prog 59).toList = [{ name := "Dot", type := 24, offset := 0, embedded := false, tag := "", pkgPath := "", byteOffset := 0 }, { name := "Device", type := 9, offset := 2, embedded := false, tag := "", pkgPath := "", byteOffset := 16 }] := by kernel_rfl
theorem nh59 : notHeld Try.prog 59 = true := by kernel_rfl
theorem qa59 : EqA Try.prog 3 59 r_api_Dest eq_api_Dest := EqA.struct tu59 nh59 (by rw [fl59]; exact (EqF.consA (by decide) rfl tA24 rfl qa24 (EqF.consS (by decide) rfl tS9 rfl ((EqS.str tu9).mono (by decide)) EqF.nil))) (fun _ _ => rfl)
theorem ng59 : noGuard Try.prog 59 = true := by kernel_rfl
theorem cl23 : callable Try.prog 23 = true := by kernel_rfl
theorem tu38 : Program.underlying Try.prog 38 = some (.struct (Program.fieldsOf Try.prog 38)) := by kernel_rfl
theorem fl38 : (Program.fieldsOf Try.prog 38).toList = [{ name := "ID", type := 24, offset := 0, embedded := false, tag := "", pkgPath := "", byteOffset := 0 }, { name := "Topic", type := 9, offset := 2, embedded := false, tag := "", pkgPath := "", byteOffset := 16 }, { name := "Payload", type := 35, offset := 3, embedded := false, tag := "", pkgPath := "", byteOffset := 32 }, { name := "Past", type := 26, offset := 4, embedded := false, tag := "", pkgPath := "", byteOffset := 56 }, { name := "To", type := 36, offset := 20, embedded := false, tag := "", pkgPath := "", byteOffset := 184 }] := by kernel_rfl
end Go.Proofs.Ythoggbomakolkaa
