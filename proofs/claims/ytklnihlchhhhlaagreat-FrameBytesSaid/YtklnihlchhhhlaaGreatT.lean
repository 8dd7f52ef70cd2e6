/- What the walks read off the program's types. -/
import Derived.Test.YtklnihlchhhhlaaGreatProg
import Derived.Test.YtklnihlchhhhlaaGreatFw
import Derived.Test.YtklnihlchhhhlaaGreatFdb
import Derived.Test.YtklnihlchhhhlaaGreatS
namespace Go.Proofs.YtklnihlchhhhlaaGreat
open Go Fw
set_option linter.unusedVariables false

def api_Dot.tup (x : api_Dot) : Int × UInt64 × Unit := (x.Region, (x.Count, ()))
abbrev r_api_Dot : Rep api_Dot := rM api_Dot.tup (rP (rI .i64) (rP (rU UInt64) r0))
theorem comp_api_Dot_Region (x : api_Dot) : Comp r_api_Dot x 0 (rI .i64) x.Region := Comp.map (Comp.at' (Comp.inF (Comp.self (rI .i64) x.Region) (by decide)) (by rfl : _ = 0))
theorem comp_api_Dot_Count (x : api_Dot) : Comp r_api_Dot x 1 (rU UInt64) x.Count := Comp.map (Comp.at' (Comp.inS (Comp.inF (Comp.self (rU UInt64) x.Count) (by decide))) (by rfl : _ = 1))
def api_Key.tup (x : api_Key) : (List UInt8) × (List UInt8) × Unit := (x.Topic, (x.Device, ()))
abbrev r_api_Key : Rep api_Key := rM api_Key.tup (rP rS (rP rS r0))
theorem comp_api_Key_Topic (x : api_Key) : Comp r_api_Key x 0 rS x.Topic := Comp.map (Comp.at' (Comp.inF (Comp.self rS x.Topic) (by decide)) (by rfl : _ = 0))
theorem comp_api_Key_Device (x : api_Key) : Comp r_api_Key x 1 rS x.Device := Comp.map (Comp.at' (Comp.inS (Comp.inF (Comp.self rS x.Device) (by decide))) (by rfl : _ = 1))
def api_Item.tup (x : api_Item) : api_Dot × api_Key × Bool × Unit := (x.Dot, (x.Key, (x.Gone, ())))
abbrev r_api_Item : Rep api_Item := rM api_Item.tup (rP r_api_Dot (rP r_api_Key (rP rB r0)))
theorem comp_api_Item_Dot (x : api_Item) : Comp r_api_Item x 0 r_api_Dot x.Dot := Comp.map (Comp.at' (Comp.inF (Comp.self r_api_Dot x.Dot) (by decide)) (by rfl : _ = 0))
theorem comp_api_Item_Key (x : api_Item) : Comp r_api_Item x 2 r_api_Key x.Key := Comp.map (Comp.at' (Comp.inS (Comp.inF (Comp.self r_api_Key x.Key) (by decide))) (by rfl : _ = 2))
theorem comp_api_Item_Gone (x : api_Item) : Comp r_api_Item x 4 rB x.Gone := Comp.map (Comp.at' (Comp.inS (Comp.inS (Comp.inF (Comp.self rB x.Gone) (by decide)))) (by rfl : _ = 4))
def api_Dest.tup (x : api_Dest) : api_Dot × (List UInt8) × Unit := (x.Dot, (x.Device, ()))
abbrev r_api_Dest : Rep api_Dest := rM api_Dest.tup (rP r_api_Dot (rP rS r0))
theorem comp_api_Dest_Dot (x : api_Dest) : Comp r_api_Dest x 0 r_api_Dot x.Dot := Comp.map (Comp.at' (Comp.inF (Comp.self r_api_Dot x.Dot) (by decide)) (by rfl : _ = 0))
theorem comp_api_Dest_Device (x : api_Dest) : Comp r_api_Dest x 2 rS x.Device := Comp.map (Comp.at' (Comp.inS (Comp.inF (Comp.self rS x.Device) (by decide))) (by rfl : _ = 2))
def api_Event.tup (x : api_Event) : api_Dot × (List UInt8) × (List UInt8) × (Vector UInt64 16) × (List api_Dest) × Unit := (x.ID, (x.Topic, (x.Payload, (x.Past, (x.To, ())))))
abbrev r_api_Event : Rep api_Event := rM api_Event.tup (rP r_api_Dot (rP rS (rP (rL (rU UInt8)) (rP (rV 16 (rU UInt64)) (rP (rL r_api_Dest) r0)))))
theorem comp_api_Event_ID (x : api_Event) : Comp r_api_Event x 0 r_api_Dot x.ID := Comp.map (Comp.at' (Comp.inF (Comp.self r_api_Dot x.ID) (by decide)) (by rfl : _ = 0))
theorem comp_api_Event_Topic (x : api_Event) : Comp r_api_Event x 2 rS x.Topic := Comp.map (Comp.at' (Comp.inS (Comp.inF (Comp.self rS x.Topic) (by decide))) (by rfl : _ = 2))
theorem comp_api_Event_Payload (x : api_Event) : Comp r_api_Event x 3 (rL (rU UInt8)) x.Payload := Comp.map (Comp.at' (Comp.inS (Comp.inS (Comp.inF (Comp.self (rL (rU UInt8)) x.Payload) (by decide)))) (by rfl : _ = 3))
theorem comp_api_Event_Past (x : api_Event) : Comp r_api_Event x 4 (rV 16 (rU UInt64)) x.Past := Comp.map (Comp.at' (Comp.inS (Comp.inS (Comp.inS (Comp.inF (Comp.self (rV 16 (rU UInt64)) x.Past) (by decide))))) (by rfl : _ = 4))
theorem comp_api_Event_To (x : api_Event) : Comp r_api_Event x 20 (rL r_api_Dest) x.To := Comp.map (Comp.at' (Comp.inS (Comp.inS (Comp.inS (Comp.inS (Comp.inF (Comp.self (rL r_api_Dest) x.To) (by decide)))))) (by rfl : _ = 20))
def api_Frame.tup (x : api_Frame) : Int × Int × Int × (List api_Item) × api_Event × (Vector UInt64 16) × (Vector UInt64 16) × (List api_Dot) × (List api_Dot) × (Vector UInt8 32) × (List (Vector UInt8 32)) × (List Int) × Bool × Unit := (x.Kind, (x.From, (x.To, (x.Items, (x.Event, (x.Past, (x.Seen, (x.Extra, (x.Live, (x.Hash, (x.Leaves, (x.Buckets, (x.Reply, ())))))))))))))
abbrev r_api_Frame : Rep api_Frame := rM api_Frame.tup (rP (rI .i64) (rP (rI .i64) (rP (rI .i64) (rP (rL r_api_Item) (rP r_api_Event (rP (rV 16 (rU UInt64)) (rP (rV 16 (rU UInt64)) (rP (rL r_api_Dot) (rP (rL r_api_Dot) (rP (rV 32 (rU UInt8)) (rP (rL (rV 32 (rU UInt8))) (rP (rL (rI .i64)) (rP rB r0)))))))))))))
theorem comp_api_Frame_Kind (x : api_Frame) : Comp r_api_Frame x 0 (rI .i64) x.Kind := Comp.map (Comp.at' (Comp.inF (Comp.self (rI .i64) x.Kind) (by decide)) (by rfl : _ = 0))
theorem comp_api_Frame_From (x : api_Frame) : Comp r_api_Frame x 1 (rI .i64) x.From := Comp.map (Comp.at' (Comp.inS (Comp.inF (Comp.self (rI .i64) x.From) (by decide))) (by rfl : _ = 1))
theorem comp_api_Frame_To (x : api_Frame) : Comp r_api_Frame x 2 (rI .i64) x.To := Comp.map (Comp.at' (Comp.inS (Comp.inS (Comp.inF (Comp.self (rI .i64) x.To) (by decide)))) (by rfl : _ = 2))
theorem comp_api_Frame_Items (x : api_Frame) : Comp r_api_Frame x 3 (rL r_api_Item) x.Items := Comp.map (Comp.at' (Comp.inS (Comp.inS (Comp.inS (Comp.inF (Comp.self (rL r_api_Item) x.Items) (by decide))))) (by rfl : _ = 3))
theorem comp_api_Frame_Event (x : api_Frame) : Comp r_api_Frame x 4 r_api_Event x.Event := Comp.map (Comp.at' (Comp.inS (Comp.inS (Comp.inS (Comp.inS (Comp.inF (Comp.self r_api_Event x.Event) (by decide)))))) (by rfl : _ = 4))
theorem comp_api_Frame_Past (x : api_Frame) : Comp r_api_Frame x 25 (rV 16 (rU UInt64)) x.Past := Comp.map (Comp.at' (Comp.inS (Comp.inS (Comp.inS (Comp.inS (Comp.inS (Comp.inF (Comp.self (rV 16 (rU UInt64)) x.Past) (by decide))))))) (by rfl : _ = 25))
theorem comp_api_Frame_Seen (x : api_Frame) : Comp r_api_Frame x 41 (rV 16 (rU UInt64)) x.Seen := Comp.map (Comp.at' (Comp.inS (Comp.inS (Comp.inS (Comp.inS (Comp.inS (Comp.inS (Comp.inF (Comp.self (rV 16 (rU UInt64)) x.Seen) (by decide)))))))) (by rfl : _ = 41))
theorem comp_api_Frame_Extra (x : api_Frame) : Comp r_api_Frame x 57 (rL r_api_Dot) x.Extra := Comp.map (Comp.at' (Comp.inS (Comp.inS (Comp.inS (Comp.inS (Comp.inS (Comp.inS (Comp.inS (Comp.inF (Comp.self (rL r_api_Dot) x.Extra) (by decide))))))))) (by rfl : _ = 57))
theorem comp_api_Frame_Live (x : api_Frame) : Comp r_api_Frame x 58 (rL r_api_Dot) x.Live := Comp.map (Comp.at' (Comp.inS (Comp.inS (Comp.inS (Comp.inS (Comp.inS (Comp.inS (Comp.inS (Comp.inS (Comp.inF (Comp.self (rL r_api_Dot) x.Live) (by decide)))))))))) (by rfl : _ = 58))
theorem comp_api_Frame_Hash (x : api_Frame) : Comp r_api_Frame x 59 (rV 32 (rU UInt8)) x.Hash := Comp.map (Comp.at' (Comp.inS (Comp.inS (Comp.inS (Comp.inS (Comp.inS (Comp.inS (Comp.inS (Comp.inS (Comp.inS (Comp.inF (Comp.self (rV 32 (rU UInt8)) x.Hash) (by decide))))))))))) (by rfl : _ = 59))
theorem comp_api_Frame_Leaves (x : api_Frame) : Comp r_api_Frame x 91 (rL (rV 32 (rU UInt8))) x.Leaves := Comp.map (Comp.at' (Comp.inS (Comp.inS (Comp.inS (Comp.inS (Comp.inS (Comp.inS (Comp.inS (Comp.inS (Comp.inS (Comp.inS (Comp.inF (Comp.self (rL (rV 32 (rU UInt8))) x.Leaves) (by decide)))))))))))) (by rfl : _ = 91))
theorem comp_api_Frame_Buckets (x : api_Frame) : Comp r_api_Frame x 92 (rL (rI .i64)) x.Buckets := Comp.map (Comp.at' (Comp.inS (Comp.inS (Comp.inS (Comp.inS (Comp.inS (Comp.inS (Comp.inS (Comp.inS (Comp.inS (Comp.inS (Comp.inS (Comp.inF (Comp.self (rL (rI .i64)) x.Buckets) (by decide))))))))))))) (by rfl : _ = 92))
theorem comp_api_Frame_Reply (x : api_Frame) : Comp r_api_Frame x 93 rB x.Reply := Comp.map (Comp.at' (Comp.inS (Comp.inS (Comp.inS (Comp.inS (Comp.inS (Comp.inS (Comp.inS (Comp.inS (Comp.inS (Comp.inS (Comp.inS (Comp.inS (Comp.inF (Comp.self rB x.Reply) (by decide)))))))))))))) (by rfl : _ = 93))
def frame_form.tup (x : frame_form) : (Option Nat) × (Option Nat) × Unit := (x.write, (x.read, ()))
abbrev r_frame_form : Rep frame_form := rM frame_form.tup (rP rFn (rP rFn r0))
theorem comp_frame_form_write (x : frame_form) : Comp r_frame_form x 0 rFn x.write := Comp.map (Comp.at' (Comp.inF (Comp.self rFn x.write) (by decide)) (by rfl : _ = 0))
def frame_writer.tup (x : frame_writer) : (List UInt8) × Unit := (x.b, ())
def wire_Reader.tup (x : wire_Reader) : (List UInt8) × Bool × Bool × Unit := (x.rest, (x.is, (x.made, ())))
abbrev r_wire_Reader : Rep wire_Reader := rM wire_Reader.tup (rP (rL (rU UInt8)) (rP rB (rP rB r0)))
theorem comp_wire_Reader_rest (x : wire_Reader) : Comp r_wire_Reader x 0 (rL (rU UInt8)) x.rest := Comp.map (Comp.at' (Comp.inF (Comp.self (rL (rU UInt8)) x.rest) (by decide)) (by rfl : _ = 0))
theorem upd_wire_Reader_rest (x : wire_Reader) (y : (List UInt8)) : Upd r_wire_Reader x 0 (rL (rU UInt8)) y { x with rest := y } := Upd.map (UpdR.U (UpdR.at (UpdR.fst (UpdR.self rfl)) (by rfl : _ = 0)))
theorem comp_wire_Reader_is (x : wire_Reader) : Comp r_wire_Reader x 1 rB x.is := Comp.map (Comp.at' (Comp.inS (Comp.inF (Comp.self rB x.is) (by decide))) (by rfl : _ = 1))
abbrev zq0 := (rP (rI .i64) (rP (rI .i64) (rP (rI .i64) (rP (rW (HDR none 0 0 0)) (rP (rP r_api_Dot (rP rS (rP (rW (HDR none 0 0 0)) (rP (rV 16 (rU UInt64)) (rP (rW (HDR none 0 0 0)) r0))))) (rP (rV 16 (rU UInt64)) (rP (rV 16 (rU UInt64)) (rP (rW (HDR none 0 0 0)) (rP (rW (HDR none 0 0 0)) (rP (rV 32 (rU UInt8)) (rP (rW (HDR none 0 0 0)) (rP (rW (HDR none 0 0 0)) (rP rB r0)))))))))))))
abbrev zq1 := ((0 : Int), ((0 : Int), ((0 : Int), ((), (((api_Dot.mk (0 : Int) (0 : UInt64)), (([] : (List UInt8)), ((), ((Vector.replicate 16 (0 : UInt64)), ((), ()))))), ((Vector.replicate 16 (0 : UInt64)), ((Vector.replicate 16 (0 : UInt64)), ((), ((), ((Vector.replicate 32 (0 : UInt8)), ((), ((), (false, ())))))))))))))
abbrev zq2 (a0 : api_Frame) := (a0.Kind, (a0.From, (a0.To, ((), (((api_Dot.mk (0 : Int) (0 : UInt64)), (([] : (List UInt8)), ((), ((Vector.replicate 16 (0 : UInt64)), ((), ()))))), ((Vector.replicate 16 (0 : UInt64)), ((Vector.replicate 16 (0 : UInt64)), ((), ((), ((Vector.replicate 32 (0 : UInt8)), ((), ((), (false, ())))))))))))))
abbrev zq3 (a0 : api_Frame) := (a0.Kind, (a0.From, (a0.To, ((), (((api_Dot.mk (0 : Int) (0 : UInt64)), (([] : (List UInt8)), ((), ((Vector.replicate 16 (0 : UInt64)), ((), ()))))), ((Vector.replicate 16 (0 : UInt64)), (a0.Seen, ((), ((), ((Vector.replicate 32 (0 : UInt8)), ((), ((), (false, ())))))))))))))
abbrev zq4 := (rP (rI .i64) (rP (rI .i64) (rP (rI .i64) (rP (rW (HDR none 0 0 0)) (rP (rP r_api_Dot (rP rS (rP (rW (HDR none 0 0 0)) (rP (rV 16 (rU UInt64)) (rP (rW (HDR none 0 0 0)) r0))))) (rP (rV 16 (rU UInt64)) (rP (rV 16 (rU UInt64)) (rP (rL r_api_Dot) (rP (rW (HDR none 0 0 0)) (rP (rV 32 (rU UInt8)) (rP (rW (HDR none 0 0 0)) (rP (rW (HDR none 0 0 0)) (rP rB r0)))))))))))))
abbrev zq5 (a0 : api_Frame) := (a0.Kind, (a0.From, (a0.To, ((), (((api_Dot.mk (0 : Int) (0 : UInt64)), (([] : (List UInt8)), ((), ((Vector.replicate 16 (0 : UInt64)), ((), ()))))), ((Vector.replicate 16 (0 : UInt64)), (a0.Seen, (a0.Extra, ((), ((Vector.replicate 32 (0 : UInt8)), ((), ((), (false, ())))))))))))))
abbrev zq6 := (rP (rI .i64) (rP (rI .i64) (rP (rI .i64) (rP (rW (HDR none 0 0 0)) (rP (rP r_api_Dot (rP rS (rP (rW (HDR none 0 0 0)) (rP (rV 16 (rU UInt64)) (rP (rW (HDR none 0 0 0)) r0))))) (rP (rV 16 (rU UInt64)) (rP (rV 16 (rU UInt64)) (rP (rL r_api_Dot) (rP (rL r_api_Dot) (rP (rV 32 (rU UInt8)) (rP (rW (HDR none 0 0 0)) (rP (rW (HDR none 0 0 0)) (rP rB r0)))))))))))))
abbrev zq7 (a0 : api_Frame) := (a0.Kind, (a0.From, (a0.To, ((), (((api_Dot.mk (0 : Int) (0 : UInt64)), (([] : (List UInt8)), ((), ((Vector.replicate 16 (0 : UInt64)), ((), ()))))), ((Vector.replicate 16 (0 : UInt64)), (a0.Seen, (a0.Extra, (a0.Live, ((Vector.replicate 32 (0 : UInt8)), ((), ((), (false, ())))))))))))))
abbrev zq8 (a0 : api_Frame) := (a0.Kind, (a0.From, (a0.To, ((), (((api_Dot.mk (0 : Int) (0 : UInt64)), (([] : (List UInt8)), ((), ((Vector.replicate 16 (0 : UInt64)), ((), ()))))), ((Vector.replicate 16 (0 : UInt64)), ((Vector.replicate 16 (0 : UInt64)), ((), ((), (a0.Hash, ((), ((), (false, ())))))))))))))
abbrev zq9 := (rP (rI .i64) (rP (rI .i64) (rP (rI .i64) (rP (rW (HDR none 0 0 0)) (rP (rP r_api_Dot (rP rS (rP (rW (HDR none 0 0 0)) (rP (rV 16 (rU UInt64)) (rP (rW (HDR none 0 0 0)) r0))))) (rP (rV 16 (rU UInt64)) (rP (rV 16 (rU UInt64)) (rP (rW (HDR none 0 0 0)) (rP (rW (HDR none 0 0 0)) (rP (rV 32 (rU UInt8)) (rP (rW (HDR none 0 0 0)) (rP (rL (rI .i64)) (rP rB r0)))))))))))))
abbrev zq10 (a0 : api_Frame) := (a0.Kind, (a0.From, (a0.To, ((), (((api_Dot.mk (0 : Int) (0 : UInt64)), (([] : (List UInt8)), ((), ((Vector.replicate 16 (0 : UInt64)), ((), ()))))), ((Vector.replicate 16 (0 : UInt64)), ((Vector.replicate 16 (0 : UInt64)), ((), ((), ((Vector.replicate 32 (0 : UInt8)), ((), (a0.Buckets, (false, ())))))))))))))
abbrev zq11 := (rP (rI .i64) (rP (rI .i64) (rP (rI .i64) (rP (rL r_api_Item) (rP (rP r_api_Dot (rP rS (rP (rW (HDR none 0 0 0)) (rP (rV 16 (rU UInt64)) (rP (rW (HDR none 0 0 0)) r0))))) (rP (rV 16 (rU UInt64)) (rP (rV 16 (rU UInt64)) (rP (rW (HDR none 0 0 0)) (rP (rW (HDR none 0 0 0)) (rP (rV 32 (rU UInt8)) (rP (rW (HDR none 0 0 0)) (rP (rL (rI .i64)) (rP rB r0)))))))))))))
abbrev zq12 (a0 : api_Frame) := (a0.Kind, (a0.From, (a0.To, (a0.Items, (((api_Dot.mk (0 : Int) (0 : UInt64)), (([] : (List UInt8)), ((), ((Vector.replicate 16 (0 : UInt64)), ((), ()))))), ((Vector.replicate 16 (0 : UInt64)), ((Vector.replicate 16 (0 : UInt64)), ((), ((), ((Vector.replicate 32 (0 : UInt8)), ((), (a0.Buckets, (false, ())))))))))))))
abbrev zq13 (a0 : api_Frame) := (a0.Kind, (a0.From, (a0.To, (a0.Items, (((api_Dot.mk (0 : Int) (0 : UInt64)), (([] : (List UInt8)), ((), ((Vector.replicate 16 (0 : UInt64)), ((), ()))))), ((Vector.replicate 16 (0 : UInt64)), (a0.Seen, ((), ((), ((Vector.replicate 32 (0 : UInt8)), ((), (a0.Buckets, (false, ())))))))))))))
abbrev zq14 := (rP (rI .i64) (rP (rI .i64) (rP (rI .i64) (rP (rL r_api_Item) (rP (rP r_api_Dot (rP rS (rP (rW (HDR none 0 0 0)) (rP (rV 16 (rU UInt64)) (rP (rW (HDR none 0 0 0)) r0))))) (rP (rV 16 (rU UInt64)) (rP (rV 16 (rU UInt64)) (rP (rL r_api_Dot) (rP (rW (HDR none 0 0 0)) (rP (rV 32 (rU UInt8)) (rP (rW (HDR none 0 0 0)) (rP (rL (rI .i64)) (rP rB r0)))))))))))))
abbrev zq15 (a0 : api_Frame) := (a0.Kind, (a0.From, (a0.To, (a0.Items, (((api_Dot.mk (0 : Int) (0 : UInt64)), (([] : (List UInt8)), ((), ((Vector.replicate 16 (0 : UInt64)), ((), ()))))), ((Vector.replicate 16 (0 : UInt64)), (a0.Seen, (a0.Extra, ((), ((Vector.replicate 32 (0 : UInt8)), ((), (a0.Buckets, (false, ())))))))))))))
abbrev zq16 (a0 : api_Frame) := (a0.Kind, (a0.From, (a0.To, (a0.Items, (((api_Dot.mk (0 : Int) (0 : UInt64)), (([] : (List UInt8)), ((), ((Vector.replicate 16 (0 : UInt64)), ((), ()))))), ((Vector.replicate 16 (0 : UInt64)), (a0.Seen, (a0.Extra, ((), ((Vector.replicate 32 (0 : UInt8)), ((), (a0.Buckets, (a0.Reply, ())))))))))))))
abbrev zq17 := (rP (rV 16 (rU UInt64)) (rP (rW (HDR none 0 0 0)) (rP rB r0)))
abbrev zq18 (a0 : Option Nat) (a1 : (List api_Dot)) (a2 : Nat) := (rP (rV 16 (rU UInt64)) (rP (rW (HDR a0 0 (List.length a1) a2)) (rP rB r0)))
abbrev zq19 := ((frame_form.mk (none : Option Nat) (none : Option Nat)).write, ((frame_form.mk (none : Option Nat) (none : Option Nat)).read, ()))
abbrev zq20 (a0 : Nat) (a1 : UInt8) (a2 : UInt8) (a3 : UInt8) := (rP (rW (HDR (some a0) 0 (List.length ([a1, a2, a3] : (List UInt8))) (3))) r0)
abbrev zq21 (a0 : Option Nat) (a1 : (List UInt8)) (a2 : Nat) := (rP (rW (HDR a0 0 (List.length a1) a2)) r0)
abbrev zq22 (a0 : Option Nat) (a1 : (List UInt8)) (a2 : Nat) := (rP (rW (HL a0 (rU UInt8) a1 a2)) r0)
abbrev zq23 := (rP (rW (HDR none 0 0 0)) (rP rB (rP rB r0)))
abbrev zq24 := (rP (rW (PTO none)) (rP (rP (rI .i64) (rP (rI .i64) (rP (rI .i64) (rP (rW (HDR none 0 0 0)) (rP (rP r_api_Dot (rP rS (rP (rW (HDR none 0 0 0)) (rP (rV 16 (rU UInt64)) (rP (rW (HDR none 0 0 0)) r0))))) (rP (rV 16 (rU UInt64)) (rP (rV 16 (rU UInt64)) (rP (rW (HDR none 0 0 0)) (rP (rW (HDR none 0 0 0)) (rP (rV 32 (rU UInt8)) (rP (rW (HDR none 0 0 0)) (rP (rW (HDR none 0 0 0)) (rP rB r0))))))))))))) r0))
abbrev zq25 := ((), (((0 : Int), ((0 : Int), ((0 : Int), ((), (((api_Dot.mk (0 : Int) (0 : UInt64)), (([] : (List UInt8)), ((), ((Vector.replicate 16 (0 : UInt64)), ((), ()))))), ((Vector.replicate 16 (0 : UInt64)), ((Vector.replicate 16 (0 : UInt64)), ((), ((), ((Vector.replicate 32 (0 : UInt8)), ((), ((), (false, ()))))))))))))), ()))
abbrev zq26 (a0 : Option Nat) (a1 : Nat) := (rP (rW (HDR a0 0 (List.length ([] : (List UInt8))) a1)) (rP rB (rP rB r0)))
abbrev zq27 (a0 : Nat) := (rP (rW (PTR a0 0)) (rP (rP (rI .i64) (rP (rI .i64) (rP (rI .i64) (rP (rW (HDR none 0 0 0)) (rP (rP r_api_Dot (rP rS (rP (rW (HDR none 0 0 0)) (rP (rV 16 (rU UInt64)) (rP (rW (HDR none 0 0 0)) r0))))) (rP (rV 16 (rU UInt64)) (rP (rV 16 (rU UInt64)) (rP (rW (HDR none 0 0 0)) (rP (rW (HDR none 0 0 0)) (rP (rV 32 (rU UInt8)) (rP (rW (HDR none 0 0 0)) (rP (rW (HDR none 0 0 0)) (rP rB r0))))))))))))) r0))
abbrev zq28 (a0 : Option Nat) (a1 : (List UInt8)) (a2 : Nat) := (rP (rW (HDR a0 0 (List.length a1) a2)) (rP rB (rP rB r0)))
abbrev zq29 (a0 : Option Nat) (a1 : (List UInt8)) (a2 : Nat) := (rP (rW (HL a0 (rU UInt8) a1 a2)) (rP rB (rP rB r0)))
abbrev zq30 := ((5 : Int), ((1 : Int), ((1 : Int), ((), (((api_Dot.mk (0 : Int) (0 : UInt64)), (([] : (List UInt8)), ((), ((Vector.replicate 16 (0 : UInt64)), ((), ()))))), ((Vector.replicate 16 (0 : UInt64)), ((Vector.replicate 16 (0 : UInt64)), ((), ((), ((Vector.replicate 32 (0 : UInt8)), ((), ((), (false, ())))))))))))))
abbrev zq31 := (rP r_api_Dot (rP rS (rP (rW (HDR none 0 0 0)) (rP (rV 16 (rU UInt64)) (rP (rW (HDR none 0 0 0)) r0)))))
abbrev zq32 := ((api_Dot.mk (0 : Int) (0 : UInt64)), (([] : (List UInt8)), ((), ((Vector.replicate 16 (0 : UInt64)), ((), ())))))
abbrev zq33 (a0 : Nat) (a1 : UInt8) (a2 : UInt8) (a3 : UInt8) : Chunk := cown (some a0) (rL (rU UInt8)) ([([a1, a2, a3] : (List UInt8))] : (List (List UInt8))) 0 (1)
abbrev zq34 (a0 : Nat) (a1 : (List UInt8)) (a2 : (List UInt8)) (a3 : (List UInt8)) (a4 : (List UInt8)) (a5 : (List UInt8)) : Chunk := cown (some a0) (rL (rU UInt8)) ([a1, a2, a3, a4, a5] : (List (List UInt8))) 0 (5)
theorem mixed : Tryz.prog.follows .mixedOrders = true := by kernel_rfl
theorem tA39 : tyA Tryz.prog 39 94 = true := by kernel_rfl
theorem tf39_3 : tyF Tryz.prog 39 3 3 = true := by kernel_rfl
theorem tS23 : tyS Tryz.prog 23 = true := by kernel_rfl
theorem tu23 : Program.underlying Tryz.prog 23 = some (.slice 62) := by kernel_rfl
theorem tz62 : tySz Tryz.prog 62 5 = true := by kernel_rfl
theorem tf62_1 : tyF Tryz.prog 62 1 2 = true := by kernel_rfl
theorem tf60_0 : tyF Tryz.prog 60 0 0 = true := by kernel_rfl
theorem tS9 : tyS Tryz.prog 9 = true := by kernel_rfl
theorem tu9 : Program.underlying Tryz.prog 9 = some .string := by kernel_rfl
theorem tf60_1 : tyF Tryz.prog 60 1 1 = true := by kernel_rfl
theorem cl19 : callable Tryz.prog 19 = true := by kernel_rfl
theorem tf39_4 : tyF Tryz.prog 39 4 4 = true := by kernel_rfl
theorem tA32 : tyA Tryz.prog 32 21 = true := by kernel_rfl
theorem tf32_1 : tyF Tryz.prog 32 1 2 = true := by kernel_rfl
theorem tf32_2 : tyF Tryz.prog 32 2 3 = true := by kernel_rfl
theorem tS27 : tyS Tryz.prog 27 = true := by kernel_rfl
theorem tu27 : Program.underlying Tryz.prog 27 = some (.slice 5) := by kernel_rfl
theorem tf32_4 : tyF Tryz.prog 32 4 20 = true := by kernel_rfl
theorem tS30 : tyS Tryz.prog 30 = true := by kernel_rfl
theorem tu30 : Program.underlying Tryz.prog 30 = some (.slice 125) := by kernel_rfl
theorem tz125 : tySz Tryz.prog 125 3 = true := by kernel_rfl
theorem tf125_1 : tyF Tryz.prog 125 1 2 = true := by kernel_rfl
theorem cl26 : callable Tryz.prog 26 = true := by kernel_rfl
theorem tf39_7 : tyF Tryz.prog 39 7 57 = true := by kernel_rfl
theorem tS33 : tyS Tryz.prog 33 = true := by kernel_rfl
theorem tu33 : Program.underlying Tryz.prog 33 = some (.slice 26) := by kernel_rfl
theorem tf39_8 : tyF Tryz.prog 39 8 58 = true := by kernel_rfl
theorem tf39_10 : tyF Tryz.prog 39 10 91 = true := by kernel_rfl
theorem tS36 : tyS Tryz.prog 36 = true := by kernel_rfl
theorem tu36 : Program.underlying Tryz.prog 36 = some (.slice 35) := by kernel_rfl
theorem tf39_11 : tyF Tryz.prog 39 11 92 = true := by kernel_rfl
theorem tS37 : tyS Tryz.prog 37 = true := by kernel_rfl
theorem tu37 : Program.underlying Tryz.prog 37 = some (.slice 3) := by kernel_rfl
theorem cl8 : callable Tryz.prog 8 = true := by kernel_rfl
theorem zr39 : Zr zq0 zq1 (Value.cells (.agg #[.int .i64 0, .int .i64 0, .int .i64 0, .slice none 0 0, .int .i64 0, .int .u64 0, .string ⟨#[]⟩, .slice none 0 0, .int .u64 0, .int .u64 0, .int .u64 0, .int .u64 0, .int .u64 0, .int .u64 0, .int .u64 0, .int .u64 0, .int .u64 0, .int .u64 0, .int .u64 0, .int .u64 0, .int .u64 0, .int .u64 0, .int .u64 0, .int .u64 0, .slice none 0 0, .int .u64 0, .int .u64 0, .int .u64 0, .int .u64 0, .int .u64 0, .int .u64 0, .int .u64 0, .int .u64 0, .int .u64 0, .int .u64 0, .int .u64 0, .int .u64 0, .int .u64 0, .int .u64 0, .int .u64 0, .int .u64 0, .int .u64 0, .int .u64 0, .int .u64 0, .int .u64 0, .int .u64 0, .int .u64 0, .int .u64 0, .int .u64 0, .int .u64 0, .int .u64 0, .int .u64 0, .int .u64 0, .int .u64 0, .int .u64 0, .int .u64 0, .int .u64 0, .slice none 0 0, .slice none 0 0, .int .u8 0, .int .u8 0, .int .u8 0, .int .u8 0, .int .u8 0, .int .u8 0, .int .u8 0, .int .u8 0, .int .u8 0, .int .u8 0, .int .u8 0, .int .u8 0, .int .u8 0, .int .u8 0, .int .u8 0, .int .u8 0, .int .u8 0, .int .u8 0, .int .u8 0, .int .u8 0, .int .u8 0, .int .u8 0, .int .u8 0, .int .u8 0, .int .u8 0, .int .u8 0, .int .u8 0, .int .u8 0, .int .u8 0, .int .u8 0, .int .u8 0, .int .u8 0, .slice none 0 0, .slice none 0 0, .bool false])).toList := (Zr.two (Zr.int _ _) (Zr.two (Zr.int _ _) (Zr.two (Zr.int _ _) (Zr.two (Zr.w (v := .slice none 0 0) rfl) (Zr.two (Zr.two (Zr.map (Zr.two (Zr.int _ _) (Zr.two (Zr.u _ rfl rfl) Zr.unit rfl) rfl)) (Zr.two (Zr.str rfl) (Zr.two (Zr.w (v := .slice none 0 0) rfl) (Zr.two (Zr.vec (Zr.u _ rfl rfl) rfl) (Zr.two (Zr.w (v := .slice none 0 0) rfl) Zr.unit rfl) rfl) rfl) rfl) rfl) (Zr.two (Zr.vec (Zr.u _ rfl rfl) rfl) (Zr.two (Zr.vec (Zr.u _ rfl rfl) rfl) (Zr.two (Zr.w (v := .slice none 0 0) rfl) (Zr.two (Zr.w (v := .slice none 0 0) rfl) (Zr.two (Zr.vec (Zr.u _ rfl rfl) rfl) (Zr.two (Zr.w (v := .slice none 0 0) rfl) (Zr.two (Zr.w (v := .slice none 0 0) rfl) (Zr.two (Zr.bool _) Zr.unit rfl) rfl) rfl) rfl) rfl) rfl) rfl) rfl) rfl) rfl) rfl) rfl) rfl)
theorem tZ39 : tyZ Tryz.prog 39 (.agg #[.int .i64 0, .int .i64 0, .int .i64 0, .slice none 0 0, .int .i64 0, .int .u64 0, .string ⟨#[]⟩, .slice none 0 0, .int .u64 0, .int .u64 0, .int .u64 0, .int .u64 0, .int .u64 0, .int .u64 0, .int .u64 0, .int .u64 0, .int .u64 0, .int .u64 0, .int .u64 0, .int .u64 0, .int .u64 0, .int .u64 0, .int .u64 0, .int .u64 0, .slice none 0 0, .int .u64 0, .int .u64 0, .int .u64 0, .int .u64 0, .int .u64 0, .int .u64 0, .int .u64 0, .int .u64 0, .int .u64 0, .int .u64 0, .int .u64 0, .int .u64 0, .int .u64 0, .int .u64 0, .int .u64 0, .int .u64 0, .int .u64 0, .int .u64 0, .int .u64 0, .int .u64 0, .int .u64 0, .int .u64 0, .int .u64 0, .int .u64 0, .int .u64 0, .int .u64 0, .int .u64 0, .int .u64 0, .int .u64 0, .int .u64 0, .int .u64 0, .int .u64 0, .slice none 0 0, .slice none 0 0, .int .u8 0, .int .u8 0, .int .u8 0, .int .u8 0, .int .u8 0, .int .u8 0, .int .u8 0, .int .u8 0, .int .u8 0, .int .u8 0, .int .u8 0, .int .u8 0, .int .u8 0, .int .u8 0, .int .u8 0, .int .u8 0, .int .u8 0, .int .u8 0, .int .u8 0, .int .u8 0, .int .u8 0, .int .u8 0, .int .u8 0, .int .u8 0, .int .u8 0, .int .u8 0, .int .u8 0, .int .u8 0, .int .u8 0, .int .u8 0, .int .u8 0, .int .u8 0, .slice none 0 0, .slice none 0 0, .bool false]) := by unfold tyZ; kernel_rfl
theorem tp39 : tyPl Tryz.prog 39 [(0, 1), (1, 1), (2, 1), (3, 1), (4, 21), (25, 16), (41, 16), (57, 1), (58, 1), (59, 32), (91, 1), (92, 1), (93, 1)] := by unfold tyPl; kernel_rfl
theorem tf39_1 : tyF Tryz.prog 39 1 1 = true := by kernel_rfl
theorem tS3 : tyS Tryz.prog 3 = true := by kernel_rfl
theorem tf39_2 : tyF Tryz.prog 39 2 2 = true := by kernel_rfl
theorem tf39_0 : tyF Tryz.prog 39 0 0 = true := by kernel_rfl
theorem tS22 : tyS Tryz.prog 22 = true := by kernel_rfl
theorem tf39_5 : tyF Tryz.prog 39 5 25 = true := by kernel_rfl
theorem tA29 : tyA Tryz.prog 29 16 = true := by kernel_rfl
theorem tf39_6 : tyF Tryz.prog 39 6 41 = true := by kernel_rfl
theorem tf39_9 : tyF Tryz.prog 39 9 59 = true := by kernel_rfl
theorem tA35 : tyA Tryz.prog 35 32 = true := by kernel_rfl
theorem tf39_12 : tyF Tryz.prog 39 12 93 = true := by kernel_rfl
theorem tS4 : tyS Tryz.prog 4 = true := by kernel_rfl
theorem cl28 : callable Tryz.prog 28 = true := by kernel_rfl
theorem tu24 : Program.underlying Tryz.prog 24 = some (.int .u64) := by kernel_rfl
theorem tu29 : Program.underlying Tryz.prog 29 = some (.array 16 24) := by kernel_rfl
theorem tS24 : tyS Tryz.prog 24 = true := by kernel_rfl
theorem qa29 : EqA Tryz.prog 2 29 (rV 16 (rU UInt64)) (eqV (fun x y => x == y)) := EqA.arrS tu29 tS24 rfl (EqS.u (U := UInt64) tu24)
theorem ng29 : noGuard Tryz.prog 29 = true := by kernel_rfl
theorem tu5 : Program.underlying Tryz.prog 5 = some (.int .u8) := by kernel_rfl
theorem tu35 : Program.underlying Tryz.prog 35 = some (.array 32 5) := by kernel_rfl
theorem tS5 : tyS Tryz.prog 5 = true := by kernel_rfl
theorem qa35 : EqA Tryz.prog 2 35 (rV 32 (rU UInt8)) (eqV (fun x y => x == y)) := EqA.arrS tu35 tS5 rfl (EqS.u (U := UInt8) tu5)
theorem ng35 : noGuard Tryz.prog 35 = true := by kernel_rfl
theorem tu4 : Program.underlying Tryz.prog 4 = some .bool := by kernel_rfl
theorem tA62 : tyA Tryz.prog 62 5 = true := by kernel_rfl
theorem tu3 : Program.underlying Tryz.prog 3 = some (.int .i64) := by kernel_rfl
theorem tu26 : Program.underlying Tryz.prog 26 = some (.struct (Program.fieldsOf Tryz.prog 26)) := by kernel_rfl
theorem fl26 : (Program.fieldsOf Tryz.prog 26).toList = [{ name := "Region", type := 3, offset := 0, embedded := false, tag := "", pkgPath := "", byteOffset := 0 }, { name := "Count", type := 24, offset := 1, embedded := false, tag := "", pkgPath := "", byteOffset := 8 }] := by kernel_rfl
theorem nh26 : notHeld Tryz.prog 26 = true := by kernel_rfl
theorem qa26 : EqA Tryz.prog 2 26 r_api_Dot eq_api_Dot := EqA.struct tu26 nh26 (by rw [fl26]; exact (EqF.consS (by decide) rfl tS3 rfl (EqS.int tu3) (EqF.consS (by decide) rfl tS24 rfl (EqS.u (U := UInt64) tu24) EqF.nil))) (fun _ _ => rfl)
theorem tu60 : Program.underlying Tryz.prog 60 = some (.struct (Program.fieldsOf Tryz.prog 60)) := by kernel_rfl
theorem fl60 : (Program.fieldsOf Tryz.prog 60).toList = [{ name := "Topic", type := 9, offset := 0, embedded := false, tag := "", pkgPath := "", byteOffset := 0 }, { name := "Device", type := 9, offset := 1, embedded := false, tag := "", pkgPath := "", byteOffset := 16 }] := by kernel_rfl
theorem nh60 : notHeld Tryz.prog 60 = true := by kernel_rfl
theorem qa60 : EqA Tryz.prog 2 60 r_api_Key eq_api_Key := EqA.struct tu60 nh60 (by rw [fl60]; exact (EqF.consS (by decide) rfl tS9 rfl (EqS.str tu9) (EqF.consS (by decide) rfl tS9 rfl (EqS.str tu9) EqF.nil))) (fun _ _ => rfl)
theorem tA60 : tyA Tryz.prog 60 2 = true := by kernel_rfl
theorem tA26 : tyA Tryz.prog 26 2 = true := by kernel_rfl
theorem tu62 : Program.underlying Tryz.prog 62 = some (.struct (Program.fieldsOf Tryz.prog 62)) := by kernel_rfl
theorem fl62 : (Program.fieldsOf Tryz.prog 62).toList = [{ name := "Dot", type := 26, offset := 0, embedded := false, tag := "", pkgPath := "", byteOffset := 0 }, { name := "Key", type := 60, offset := 2, embedded := false, tag := "", pkgPath := "", byteOffset := 16 }, { name := "Gone", type := 4, offset := 4, embedded := false, tag := "", pkgPath := "", byteOffset := 48 }] := by kernel_rfl
theorem nh62 : notHeld Tryz.prog 62 = true := by kernel_rfl
theorem qa62 : EqA Tryz.prog 3 62 r_api_Item eq_api_Item := EqA.struct tu62 nh62 (by rw [fl62]; exact (EqF.consA (by decide) rfl tA26 rfl qa26 (EqF.consA (by decide) rfl tA60 rfl qa60 (EqF.consS (by decide) rfl tS4 rfl ((EqS.bool tu4).mono (by decide)) EqF.nil)))) (fun _ _ => rfl)
theorem ng62 : noGuard Tryz.prog 62 = true := by kernel_rfl
theorem cl66 : callable Tryz.prog 66 = true := by kernel_rfl
theorem tz26 : tySz Tryz.prog 26 2 = true := by kernel_rfl
theorem ng26 : noGuard Tryz.prog 26 = true := by kernel_rfl
theorem cl67 : callable Tryz.prog 67 = true := by kernel_rfl
theorem tz35 : tySz Tryz.prog 35 32 = true := by kernel_rfl
theorem cl68 : callable Tryz.prog 68 = true := by kernel_rfl
theorem tz3 : tySz Tryz.prog 3 1 = true := by kernel_rfl
theorem cl69 : callable Tryz.prog 69 = true := by kernel_rfl
theorem tf32_0 : tyF Tryz.prog 32 0 0 = true := by kernel_rfl
theorem tz5 : tySz Tryz.prog 5 1 = true := by kernel_rfl
theorem cl55 : callable Tryz.prog 55 = true := by kernel_rfl
theorem tf32_3 : tyF Tryz.prog 32 3 4 = true := by kernel_rfl
theorem tA125 : tyA Tryz.prog 125 3 = true := by kernel_rfl
theorem tu125 : Program.underlying Tryz.prog 125 = some (.struct (Program.fieldsOf Tryz.prog 125)) := by kernel_rfl
theorem fl125 : (Program.fieldsOf Tryz.prog 125).toList = [{ name := "Dot", type := 26, offset := 0, embedded := false, tag := "", pkgPath := "", byteOffset := 0 }, { name := "Device", type := 9, offset := 2, embedded := false, tag := "", pkgPath := "", byteOffset := 16 }] := by kernel_rfl
theorem nh125 : notHeld Tryz.prog 125 = true := by kernel_rfl
theorem qa125 : EqA Tryz.prog 3 125 r_api_Dest eq_api_Dest := EqA.struct tu125 nh125 (by rw [fl125]; exact (EqF.consA (by decide) rfl tA26 rfl qa26 (EqF.consS (by decide) rfl tS9 rfl ((EqS.str tu9).mono (by decide)) EqF.nil))) (fun _ _ => rfl)
theorem ng125 : noGuard Tryz.prog 125 = true := by kernel_rfl
theorem cl110 : callable Tryz.prog 110 = true := by kernel_rfl
theorem cl70 : callable Tryz.prog 70 = true := by kernel_rfl
theorem cl18 : callable Tryz.prog 18 = true := by kernel_rfl
theorem tf62_2 : tyF Tryz.prog 62 2 4 = true := by kernel_rfl
theorem tf62_0 : tyF Tryz.prog 62 0 0 = true := by kernel_rfl
theorem tf26_0 : tyF Tryz.prog 26 0 0 = true := by kernel_rfl
theorem tf26_1 : tyF Tryz.prog 26 1 1 = true := by kernel_rfl
theorem cl34 : callable Tryz.prog 34 = true := by kernel_rfl
theorem zv60 : Zr r_api_Key (api_Key.mk ([] : (List UInt8)) ([] : (List UInt8))) (Value.cells (.agg #[.string ⟨#[]⟩, .string ⟨#[]⟩])).toList := (Zr.map (Zr.two (Zr.str rfl) (Zr.two (Zr.str rfl) Zr.unit rfl) rfl))
theorem tZ60 : tyZ Tryz.prog 60 (.agg #[.string ⟨#[]⟩, .string ⟨#[]⟩]) := by unfold tyZ; kernel_rfl
theorem tp60 : tyPl Tryz.prog 60 [(0, 1), (1, 1)] := by unfold tyPl; kernel_rfl
theorem ng60 : noGuard Tryz.prog 60 = true := by kernel_rfl
theorem cl71 : callable Tryz.prog 71 = true := by kernel_rfl
theorem cl20 : callable Tryz.prog 20 = true := by kernel_rfl
theorem cl81 : callable Tryz.prog 81 = true := by kernel_rfl
theorem cl111 : callable Tryz.prog 111 = true := by kernel_rfl
theorem cl73 : callable Tryz.prog 73 = true := by kernel_rfl
theorem cl30 : callable Tryz.prog 30 = true := by kernel_rfl
theorem cl82 : callable Tryz.prog 82 = true := by kernel_rfl
theorem tz24 : tySz Tryz.prog 24 1 = true := by kernel_rfl
theorem tu71 : Program.underlying Tryz.prog 71 = some (.slice 24) := by kernel_rfl
theorem cl116 : callable Tryz.prog 116 = true := by kernel_rfl
theorem cl85 : callable Tryz.prog 85 = true := by kernel_rfl
theorem cl32 : callable Tryz.prog 32 = true := by kernel_rfl
theorem cl83 : callable Tryz.prog 83 = true := by kernel_rfl
theorem tr29 : tyAr Tryz.prog 29 16 1 = true := by kernel_rfl
theorem tZ125 : tyZ Tryz.prog 125 (.agg #[.int .i64 0, .int .u64 0, .string ⟨#[]⟩]) := by unfold tyZ; kernel_rfl
theorem zr125 : Zr r_api_Dest (api_Dest.mk (api_Dot.mk (0 : Int) (0 : UInt64)) ([] : (List UInt8))) (Value.cells (.agg #[.int .i64 0, .int .u64 0, .string ⟨#[]⟩])).toList := (Zr.map (Zr.two (Zr.map (Zr.two (Zr.int _ _) (Zr.two (Zr.u _ rfl rfl) Zr.unit rfl) rfl)) (Zr.two (Zr.str rfl) Zr.unit rfl) rfl))
theorem tf125_0 : tyF Tryz.prog 125 0 0 = true := by kernel_rfl
theorem cl142 : callable Tryz.prog 142 = true := by kernel_rfl
theorem cl118 : callable Tryz.prog 118 = true := by kernel_rfl
theorem cl143 : callable Tryz.prog 143 = true := by kernel_rfl
theorem cl119 : callable Tryz.prog 119 = true := by kernel_rfl
theorem tZ3 : tyZ Tryz.prog 3 (.int .i64 0) := by unfold tyZ; kernel_rfl
theorem cl117 : callable Tryz.prog 117 = true := by kernel_rfl
theorem cl84 : callable Tryz.prog 84 = true := by kernel_rfl
theorem cl31 : callable Tryz.prog 31 = true := by kernel_rfl
theorem cl33 : callable Tryz.prog 33 = true := by kernel_rfl
theorem tZ26 : tyZ Tryz.prog 26 (.agg #[.int .i64 0, .int .u64 0]) := by unfold tyZ; kernel_rfl
theorem zr26 : Zr r_api_Dot (api_Dot.mk (0 : Int) (0 : UInt64)) (Value.cells (.agg #[.int .i64 0, .int .u64 0])).toList := (Zr.map (Zr.two (Zr.int _ _) (Zr.two (Zr.u _ rfl rfl) Zr.unit rfl) rfl))
theorem cl29 : callable Tryz.prog 29 = true := by kernel_rfl
theorem cl86 : callable Tryz.prog 86 = true := by kernel_rfl
theorem cl35 : callable Tryz.prog 35 = true := by kernel_rfl
theorem tB26 : tyB Tryz.prog 26 2 16 (.agg #[.int .i64 0, .int .u64 0]) := tyB.of (by kernel_rfl)
theorem cl120 : callable Tryz.prog 120 = true := by kernel_rfl
theorem zr159 : Zr zq17 ((Vector.replicate 16 (0 : UInt64)), ((), (false, ()))) (Value.cells (.agg #[.int .u64 0, .int .u64 0, .int .u64 0, .int .u64 0, .int .u64 0, .int .u64 0, .int .u64 0, .int .u64 0, .int .u64 0, .int .u64 0, .int .u64 0, .int .u64 0, .int .u64 0, .int .u64 0, .int .u64 0, .int .u64 0, .slice none 0 0, .bool false])).toList := (Zr.two (Zr.vec (Zr.u _ rfl rfl) rfl) (Zr.two (Zr.w (v := .slice none 0 0) rfl) (Zr.two (Zr.bool _) Zr.unit rfl) rfl) rfl)
theorem tZ159 : tyZ Tryz.prog 159 (.agg #[.int .u64 0, .int .u64 0, .int .u64 0, .int .u64 0, .int .u64 0, .int .u64 0, .int .u64 0, .int .u64 0, .int .u64 0, .int .u64 0, .int .u64 0, .int .u64 0, .int .u64 0, .int .u64 0, .int .u64 0, .int .u64 0, .slice none 0 0, .bool false]) := by unfold tyZ; kernel_rfl
theorem tp159 : tyPl Tryz.prog 159 [(0, 16), (16, 1), (17, 1)] := by unfold tyPl; kernel_rfl
theorem cl87 : callable Tryz.prog 87 = true := by kernel_rfl
theorem cl36 : callable Tryz.prog 36 = true := by kernel_rfl
theorem tZ62 : tyZ Tryz.prog 62 (.agg #[.int .i64 0, .int .u64 0, .string ⟨#[]⟩, .string ⟨#[]⟩, .bool false]) := by unfold tyZ; kernel_rfl
theorem zr62 : Zr r_api_Item (api_Item.mk (api_Dot.mk (0 : Int) (0 : UInt64)) (api_Key.mk ([] : (List UInt8)) ([] : (List UInt8))) false) (Value.cells (.agg #[.int .i64 0, .int .u64 0, .string ⟨#[]⟩, .string ⟨#[]⟩, .bool false])).toList := (Zr.map (Zr.two (Zr.map (Zr.two (Zr.int _ _) (Zr.two (Zr.u _ rfl rfl) Zr.unit rfl) rfl)) (Zr.two (Zr.map (Zr.two (Zr.str rfl) (Zr.two (Zr.str rfl) Zr.unit rfl) rfl)) (Zr.two (Zr.bool _) Zr.unit rfl) rfl) rfl))
theorem cl11 : callable Tryz.prog 11 = true := by kernel_rfl
theorem tu22 : Program.underlying Tryz.prog 22 = some (.int .i64) := by kernel_rfl
theorem tZ5 : tyZ Tryz.prog 5 (.int .u8 0) := by unfold tyZ; kernel_rfl
theorem zr119 : Zr (rP (rW (HDR none 0 0 0)) r0) ((), ()) (Value.cells (.agg #[.slice none 0 0])).toList := (Zr.two (Zr.w (v := .slice none 0 0) rfl) Zr.unit rfl)
theorem tZ119 : tyZ Tryz.prog 119 (.agg #[.slice none 0 0]) := by unfold tyZ; kernel_rfl
theorem tp119 : tyPl Tryz.prog 119 [(0, 1)] := by unfold tyPl; kernel_rfl
theorem zs95 : Zr (rP rFn (rP rFn r0)) zq19 (Value.cells (.agg #[.nilFunc, .nilFunc])).toList := (Zr.two Zr.fn (Zr.two Zr.fn Zr.unit rfl) rfl)
theorem tZ95 : tyZ Tryz.prog 95 (.agg #[.nilFunc, .nilFunc]) := by unfold tyZ; kernel_rfl
theorem tp95 : tyPl Tryz.prog 95 [(0, 1), (1, 1)] := by unfold tyPl; kernel_rfl
theorem tu97 : Program.underlying Tryz.prog 97 = some (.map 22 95) := by kernel_rfl
theorem ky22 : KeyT Tryz.prog 22 (S (rI .i64)) := KeyT.int tu22
theorem cl54 : callable Tryz.prog 54 = true := by kernel_rfl
theorem zv95 : Zr r_frame_form (frame_form.mk (none : Option Nat) (none : Option Nat)) (Value.cells (.agg #[.nilFunc, .nilFunc])).toList := (Zr.map (Zr.two Zr.fn (Zr.two Zr.fn Zr.unit rfl) rfl))
theorem td95_0 : tyFd Tryz.prog 95 0 0 (tyS Tryz.prog) = true := by kernel_rfl
theorem tB5 : tyB Tryz.prog 5 1 1 (.int .u8 0) := tyB.of (by kernel_rfl)
theorem cl79 : callable Tryz.prog 79 = true := by kernel_rfl
theorem tf119_0 : tyF Tryz.prog 119 0 0 = true := by kernel_rfl
theorem cl78 : callable Tryz.prog 78 = true := by kernel_rfl
theorem cl112 : callable Tryz.prog 112 = true := by kernel_rfl
theorem cl113 : callable Tryz.prog 113 = true := by kernel_rfl
theorem cl114 : callable Tryz.prog 114 = true := by kernel_rfl
theorem cl75 : callable Tryz.prog 75 = true := by kernel_rfl
theorem cl92 : callable Tryz.prog 92 = true := by kernel_rfl
theorem tZ27 : tyZ Tryz.prog 27 (.slice none 0 0) := by unfold tyZ; kernel_rfl
theorem zr27 : Zr (rW (HDR none 0 0 0)) () (Value.cells (.slice none 0 0)).toList := (Zr.w (v := .slice none 0 0) rfl)
theorem cl149 : callable Tryz.prog 149 = true := by kernel_rfl
theorem cl129 : callable Tryz.prog 129 = true := by kernel_rfl
theorem cl145 : callable Tryz.prog 145 = true := by kernel_rfl
theorem cl126 : callable Tryz.prog 126 = true := by kernel_rfl
theorem cl94 : callable Tryz.prog 94 = true := by kernel_rfl
theorem cl96 : callable Tryz.prog 96 = true := by kernel_rfl
theorem cl132 : callable Tryz.prog 132 = true := by kernel_rfl
theorem cl131 : callable Tryz.prog 131 = true := by kernel_rfl
theorem cl98 : callable Tryz.prog 98 = true := by kernel_rfl
theorem cl100 : callable Tryz.prog 100 = true := by kernel_rfl
theorem tZ35 : tyZ Tryz.prog 35 (.agg #[.int .u8 0, .int .u8 0, .int .u8 0, .int .u8 0, .int .u8 0, .int .u8 0, .int .u8 0, .int .u8 0, .int .u8 0, .int .u8 0, .int .u8 0, .int .u8 0, .int .u8 0, .int .u8 0, .int .u8 0, .int .u8 0, .int .u8 0, .int .u8 0, .int .u8 0, .int .u8 0, .int .u8 0, .int .u8 0, .int .u8 0, .int .u8 0, .int .u8 0, .int .u8 0, .int .u8 0, .int .u8 0, .int .u8 0, .int .u8 0, .int .u8 0, .int .u8 0]) := by unfold tyZ; kernel_rfl
theorem zr35 : Zr (rV 32 (rU UInt8)) (Vector.replicate 32 (0 : UInt8)) (Value.cells (.agg #[.int .u8 0, .int .u8 0, .int .u8 0, .int .u8 0, .int .u8 0, .int .u8 0, .int .u8 0, .int .u8 0, .int .u8 0, .int .u8 0, .int .u8 0, .int .u8 0, .int .u8 0, .int .u8 0, .int .u8 0, .int .u8 0, .int .u8 0, .int .u8 0, .int .u8 0, .int .u8 0, .int .u8 0, .int .u8 0, .int .u8 0, .int .u8 0, .int .u8 0, .int .u8 0, .int .u8 0, .int .u8 0, .int .u8 0, .int .u8 0, .int .u8 0, .int .u8 0])).toList := (Zr.vec (Zr.u _ rfl rfl) rfl)
theorem cl102 : callable Tryz.prog 102 = true := by kernel_rfl
theorem cl104 : callable Tryz.prog 104 = true := by kernel_rfl
theorem tu77 : Program.underlying Tryz.prog 77 = some (.slice 27) := by kernel_rfl
theorem tz27 : tySz Tryz.prog 27 1 = true := by kernel_rfl
theorem tZ171 : tyZ Tryz.prog 171 (.agg #[.int .u32 0, .int .u32 0, .int .u32 0, .int .u32 0, .int .u32 0, .int .u32 0, .int .u32 0, .int .u32 0, .int .u32 0, .int .u32 0, .int .u32 0, .int .u32 0, .int .u32 0, .int .u32 0, .int .u32 0, .int .u32 0]) := by unfold tyZ; kernel_rfl
theorem zr171 : Zr (rV 16 (rU UInt32)) (Vector.replicate 16 (0 : UInt32)) (Value.cells (.agg #[.int .u32 0, .int .u32 0, .int .u32 0, .int .u32 0, .int .u32 0, .int .u32 0, .int .u32 0, .int .u32 0, .int .u32 0, .int .u32 0, .int .u32 0, .int .u32 0, .int .u32 0, .int .u32 0, .int .u32 0, .int .u32 0])).toList := (Zr.vec (Zr.u _ rfl rfl) rfl)
theorem tr171 : tyAr Tryz.prog 171 16 1 = true := by kernel_rfl
theorem tS84 : tyS Tryz.prog 84 = true := by kernel_rfl
theorem tA171 : tyA Tryz.prog 171 16 = true := by kernel_rfl
theorem cl141 : callable Tryz.prog 141 = true := by kernel_rfl
theorem tu84 : Program.underlying Tryz.prog 84 = some (.int .u32) := by kernel_rfl
theorem cl115 : callable Tryz.prog 115 = true := by kernel_rfl
theorem cl80 : callable Tryz.prog 80 = true := by kernel_rfl
theorem cl27 : callable Tryz.prog 27 = true := by kernel_rfl
theorem cl10 : callable Tryz.prog 10 = true := by kernel_rfl
theorem cl89 : callable Tryz.prog 89 = true := by kernel_rfl
theorem zr138 : Zr zq23 ((), (false, (false, ()))) (Value.cells (.agg #[.slice none 0 0, .bool false, .bool false])).toList := (Zr.two (Zr.w (v := .slice none 0 0) rfl) (Zr.two (Zr.bool _) (Zr.two (Zr.bool _) Zr.unit rfl) rfl) rfl)
theorem tZ138 : tyZ Tryz.prog 138 (.agg #[.slice none 0 0, .bool false, .bool false]) := by unfold tyZ; kernel_rfl
theorem tp138 : tyPl Tryz.prog 138 [(0, 1), (1, 1), (2, 1)] := by unfold tyPl; kernel_rfl
theorem cl52 : callable Tryz.prog 52 = true := by kernel_rfl
theorem zr90 : Zr zq24 zq25 (Value.cells (.agg #[.pointer none, .int .i64 0, .int .i64 0, .int .i64 0, .slice none 0 0, .int .i64 0, .int .u64 0, .string ⟨#[]⟩, .slice none 0 0, .int .u64 0, .int .u64 0, .int .u64 0, .int .u64 0, .int .u64 0, .int .u64 0, .int .u64 0, .int .u64 0, .int .u64 0, .int .u64 0, .int .u64 0, .int .u64 0, .int .u64 0, .int .u64 0, .int .u64 0, .int .u64 0, .slice none 0 0, .int .u64 0, .int .u64 0, .int .u64 0, .int .u64 0, .int .u64 0, .int .u64 0, .int .u64 0, .int .u64 0, .int .u64 0, .int .u64 0, .int .u64 0, .int .u64 0, .int .u64 0, .int .u64 0, .int .u64 0, .int .u64 0, .int .u64 0, .int .u64 0, .int .u64 0, .int .u64 0, .int .u64 0, .int .u64 0, .int .u64 0, .int .u64 0, .int .u64 0, .int .u64 0, .int .u64 0, .int .u64 0, .int .u64 0, .int .u64 0, .int .u64 0, .int .u64 0, .slice none 0 0, .slice none 0 0, .int .u8 0, .int .u8 0, .int .u8 0, .int .u8 0, .int .u8 0, .int .u8 0, .int .u8 0, .int .u8 0, .int .u8 0, .int .u8 0, .int .u8 0, .int .u8 0, .int .u8 0, .int .u8 0, .int .u8 0, .int .u8 0, .int .u8 0, .int .u8 0, .int .u8 0, .int .u8 0, .int .u8 0, .int .u8 0, .int .u8 0, .int .u8 0, .int .u8 0, .int .u8 0, .int .u8 0, .int .u8 0, .int .u8 0, .int .u8 0, .int .u8 0, .int .u8 0, .slice none 0 0, .slice none 0 0, .bool false])).toList := (Zr.two (Zr.w (v := .pointer none) rfl) (Zr.two (Zr.two (Zr.int _ _) (Zr.two (Zr.int _ _) (Zr.two (Zr.int _ _) (Zr.two (Zr.w (v := .slice none 0 0) rfl) (Zr.two (Zr.two (Zr.map (Zr.two (Zr.int _ _) (Zr.two (Zr.u _ rfl rfl) Zr.unit rfl) rfl)) (Zr.two (Zr.str rfl) (Zr.two (Zr.w (v := .slice none 0 0) rfl) (Zr.two (Zr.vec (Zr.u _ rfl rfl) rfl) (Zr.two (Zr.w (v := .slice none 0 0) rfl) Zr.unit rfl) rfl) rfl) rfl) rfl) (Zr.two (Zr.vec (Zr.u _ rfl rfl) rfl) (Zr.two (Zr.vec (Zr.u _ rfl rfl) rfl) (Zr.two (Zr.w (v := .slice none 0 0) rfl) (Zr.two (Zr.w (v := .slice none 0 0) rfl) (Zr.two (Zr.vec (Zr.u _ rfl rfl) rfl) (Zr.two (Zr.w (v := .slice none 0 0) rfl) (Zr.two (Zr.w (v := .slice none 0 0) rfl) (Zr.two (Zr.bool _) Zr.unit rfl) rfl) rfl) rfl) rfl) rfl) rfl) rfl) rfl) rfl) rfl) rfl) rfl) Zr.unit rfl) rfl)
theorem tZ90 : tyZ Tryz.prog 90 (.agg #[.pointer none, .int .i64 0, .int .i64 0, .int .i64 0, .slice none 0 0, .int .i64 0, .int .u64 0, .string ⟨#[]⟩, .slice none 0 0, .int .u64 0, .int .u64 0, .int .u64 0, .int .u64 0, .int .u64 0, .int .u64 0, .int .u64 0, .int .u64 0, .int .u64 0, .int .u64 0, .int .u64 0, .int .u64 0, .int .u64 0, .int .u64 0, .int .u64 0, .int .u64 0, .slice none 0 0, .int .u64 0, .int .u64 0, .int .u64 0, .int .u64 0, .int .u64 0, .int .u64 0, .int .u64 0, .int .u64 0, .int .u64 0, .int .u64 0, .int .u64 0, .int .u64 0, .int .u64 0, .int .u64 0, .int .u64 0, .int .u64 0, .int .u64 0, .int .u64 0, .int .u64 0, .int .u64 0, .int .u64 0, .int .u64 0, .int .u64 0, .int .u64 0, .int .u64 0, .int .u64 0, .int .u64 0, .int .u64 0, .int .u64 0, .int .u64 0, .int .u64 0, .int .u64 0, .slice none 0 0, .slice none 0 0, .int .u8 0, .int .u8 0, .int .u8 0, .int .u8 0, .int .u8 0, .int .u8 0, .int .u8 0, .int .u8 0, .int .u8 0, .int .u8 0, .int .u8 0, .int .u8 0, .int .u8 0, .int .u8 0, .int .u8 0, .int .u8 0, .int .u8 0, .int .u8 0, .int .u8 0, .int .u8 0, .int .u8 0, .int .u8 0, .int .u8 0, .int .u8 0, .int .u8 0, .int .u8 0, .int .u8 0, .int .u8 0, .int .u8 0, .int .u8 0, .int .u8 0, .int .u8 0, .slice none 0 0, .slice none 0 0, .bool false]) := by unfold tyZ; kernel_rfl
theorem tp90 : tyPl Tryz.prog 90 [(0, 1), (1, 94)] := by unfold tyPl; kernel_rfl
theorem tf90_0 : tyF Tryz.prog 90 0 0 = true := by kernel_rfl
theorem tS87 : tyS Tryz.prog 87 = true := by kernel_rfl
theorem tu87 : Program.underlying Tryz.prog 87 = some (.pointer 138) := by kernel_rfl
theorem tf138_1 : tyF Tryz.prog 138 1 1 = true := by kernel_rfl
theorem cl122 : callable Tryz.prog 122 = true := by kernel_rfl
theorem tf138_0 : tyF Tryz.prog 138 0 0 = true := by kernel_rfl
theorem tA138 : tyA Tryz.prog 138 3 = true := by kernel_rfl
theorem cl90 : callable Tryz.prog 90 = true := by kernel_rfl
theorem cl91 : callable Tryz.prog 91 = true := by kernel_rfl
theorem cl53 : callable Tryz.prog 53 = true := by kernel_rfl
theorem tf90_1 : tyF Tryz.prog 90 1 1 = true := by kernel_rfl
theorem zr95 : Zr r_frame_form (frame_form.mk (none : Option Nat) (none : Option Nat)) (Value.cells (.agg #[.nilFunc, .nilFunc])).toList := (Zr.map (Zr.two Zr.fn (Zr.two Zr.fn Zr.unit rfl) rfl))
theorem tA95 : tyA Tryz.prog 95 2 = true := by kernel_rfl
theorem cl15 : callable Tryz.prog 15 = true := by kernel_rfl
theorem cl13 : callable Tryz.prog 13 = true := by kernel_rfl
theorem tu123 : Program.underlying Tryz.prog 123 = some (.slice 9) := by kernel_rfl
theorem tz9 : tySz Tryz.prog 9 1 = true := by kernel_rfl
theorem tZ9 : tyZ Tryz.prog 9 (.string ⟨#[]⟩) := by unfold tyZ; kernel_rfl
theorem cl24 : callable Tryz.prog 24 = true := by kernel_rfl
theorem cl9 : callable Tryz.prog 9 = true := by kernel_rfl
theorem tZ29 : tyZ Tryz.prog 29 (.agg #[.int .u64 0, .int .u64 0, .int .u64 0, .int .u64 0, .int .u64 0, .int .u64 0, .int .u64 0, .int .u64 0, .int .u64 0, .int .u64 0, .int .u64 0, .int .u64 0, .int .u64 0, .int .u64 0, .int .u64 0, .int .u64 0]) := by unfold tyZ; kernel_rfl
theorem zv29 : Zr (rV 16 (rU UInt64)) (Vector.replicate 16 (0 : UInt64)) (Value.cells (.agg #[.int .u64 0, .int .u64 0, .int .u64 0, .int .u64 0, .int .u64 0, .int .u64 0, .int .u64 0, .int .u64 0, .int .u64 0, .int .u64 0, .int .u64 0, .int .u64 0, .int .u64 0, .int .u64 0, .int .u64 0, .int .u64 0])).toList := (Zr.vec (Zr.u _ rfl rfl) rfl)
theorem tp29 : tyPl Tryz.prog 29 [(0, 1), (1, 1), (2, 1), (3, 1), (4, 1), (5, 1), (6, 1), (7, 1), (8, 1), (9, 1), (10, 1), (11, 1), (12, 1), (13, 1), (14, 1), (15, 1)] := by unfold tyPl; kernel_rfl
theorem zv35 : Zr (rV 32 (rU UInt8)) (Vector.replicate 32 (0 : UInt8)) (Value.cells (.agg #[.int .u8 0, .int .u8 0, .int .u8 0, .int .u8 0, .int .u8 0, .int .u8 0, .int .u8 0, .int .u8 0, .int .u8 0, .int .u8 0, .int .u8 0, .int .u8 0, .int .u8 0, .int .u8 0, .int .u8 0, .int .u8 0, .int .u8 0, .int .u8 0, .int .u8 0, .int .u8 0, .int .u8 0, .int .u8 0, .int .u8 0, .int .u8 0, .int .u8 0, .int .u8 0, .int .u8 0, .int .u8 0, .int .u8 0, .int .u8 0, .int .u8 0, .int .u8 0])).toList := (Zr.vec (Zr.u _ rfl rfl) rfl)
theorem tp35 : tyPl Tryz.prog 35 [(0, 1), (1, 1), (2, 1), (3, 1), (4, 1), (5, 1), (6, 1), (7, 1), (8, 1), (9, 1), (10, 1), (11, 1), (12, 1), (13, 1), (14, 1), (15, 1), (16, 1), (17, 1), (18, 1), (19, 1), (20, 1), (21, 1), (22, 1), (23, 1), (24, 1), (25, 1), (26, 1), (27, 1), (28, 1), (29, 1), (30, 1), (31, 1)] := by unfold tyPl; kernel_rfl
theorem zr32 : Zr zq31 zq32 (Value.cells (.agg #[.int .i64 0, .int .u64 0, .string ⟨#[]⟩, .slice none 0 0, .int .u64 0, .int .u64 0, .int .u64 0, .int .u64 0, .int .u64 0, .int .u64 0, .int .u64 0, .int .u64 0, .int .u64 0, .int .u64 0, .int .u64 0, .int .u64 0, .int .u64 0, .int .u64 0, .int .u64 0, .int .u64 0, .slice none 0 0])).toList := (Zr.two (Zr.map (Zr.two (Zr.int _ _) (Zr.two (Zr.u _ rfl rfl) Zr.unit rfl) rfl)) (Zr.two (Zr.str rfl) (Zr.two (Zr.w (v := .slice none 0 0) rfl) (Zr.two (Zr.vec (Zr.u _ rfl rfl) rfl) (Zr.two (Zr.w (v := .slice none 0 0) rfl) Zr.unit rfl) rfl) rfl) rfl) rfl)
theorem tZ32 : tyZ Tryz.prog 32 (.agg #[.int .i64 0, .int .u64 0, .string ⟨#[]⟩, .slice none 0 0, .int .u64 0, .int .u64 0, .int .u64 0, .int .u64 0, .int .u64 0, .int .u64 0, .int .u64 0, .int .u64 0, .int .u64 0, .int .u64 0, .int .u64 0, .int .u64 0, .int .u64 0, .int .u64 0, .int .u64 0, .int .u64 0, .slice none 0 0]) := by unfold tyZ; kernel_rfl
theorem tp32 : tyPl Tryz.prog 32 [(0, 2), (2, 1), (3, 1), (4, 16), (20, 1)] := by unfold tyPl; kernel_rfl
theorem cl65 : callable Tryz.prog 65 = true := by kernel_rfl
theorem cl37 : callable Tryz.prog 37 = true := by kernel_rfl
theorem cl41 : callable Tryz.prog 41 = true := by kernel_rfl
theorem cl72 : callable Tryz.prog 72 = true := by kernel_rfl
theorem cl21 : callable Tryz.prog 21 = true := by kernel_rfl
theorem cl38 : callable Tryz.prog 38 = true := by kernel_rfl
theorem cl40 : callable Tryz.prog 40 = true := by kernel_rfl
theorem cl42 : callable Tryz.prog 42 = true := by kernel_rfl
theorem cl39 : callable Tryz.prog 39 = true := by kernel_rfl
theorem cl43 : callable Tryz.prog 43 = true := by kernel_rfl
theorem cl44 : callable Tryz.prog 44 = true := by kernel_rfl
theorem cl12 : callable Tryz.prog 12 = true := by kernel_rfl
theorem zv5 : Zr (rU UInt8) (0 : UInt8) (Value.cells (.int .u8 0)).toList := (Zr.u _ rfl rfl)
theorem cl46 : callable Tryz.prog 46 = true := by kernel_rfl
theorem cl76 : callable Tryz.prog 76 = true := by kernel_rfl
theorem cl49 : callable Tryz.prog 49 = true := by kernel_rfl
theorem tB27 : tyB Tryz.prog 27 1 24 (.slice none 0 0) := tyB.of (by kernel_rfl)
theorem cl77 : callable Tryz.prog 77 = true := by kernel_rfl
theorem cl50 : callable Tryz.prog 50 = true := by kernel_rfl
theorem cl23 : callable Tryz.prog 23 = true := by kernel_rfl
theorem cl47 : callable Tryz.prog 47 = true := by kernel_rfl
theorem cl45 : callable Tryz.prog 45 = true := by kernel_rfl
theorem cl48 : callable Tryz.prog 48 = true := by kernel_rfl
theorem tZ135 : tyZ Tryz.prog 135 (.agg #[.bool false, .bool false, .bool false, .bool false, .bool false, .bool false, .bool false, .bool false, .bool false, .bool false, .bool false, .bool false, .bool false, .bool false, .bool false, .bool false, .bool false, .bool false, .bool false, .bool false, .bool false, .bool false, .bool false, .bool false, .bool false, .bool false, .bool false, .bool false, .bool false, .bool false, .bool false, .bool false]) := by unfold tyZ; kernel_rfl
theorem zr135 : Zr (rV 32 rB) (Vector.replicate 32 false) (Value.cells (.agg #[.bool false, .bool false, .bool false, .bool false, .bool false, .bool false, .bool false, .bool false, .bool false, .bool false, .bool false, .bool false, .bool false, .bool false, .bool false, .bool false, .bool false, .bool false, .bool false, .bool false, .bool false, .bool false, .bool false, .bool false, .bool false, .bool false, .bool false, .bool false, .bool false, .bool false, .bool false, .bool false])).toList := (Zr.vec (Zr.bool _) rfl)
theorem tr135 : tyAr Tryz.prog 135 32 1 = true := by kernel_rfl
theorem tA135 : tyA Tryz.prog 135 32 = true := by kernel_rfl
theorem tu54 : Program.underlying Tryz.prog 54 = some (.int .u64) := by kernel_rfl
theorem cl121 : callable Tryz.prog 121 = true := by kernel_rfl
theorem cl88 : callable Tryz.prog 88 = true := by kernel_rfl
theorem cl51 : callable Tryz.prog 51 = true := by kernel_rfl
theorem cl14 : callable Tryz.prog 14 = true := by kernel_rfl
theorem tu39 : Program.underlying Tryz.prog 39 = some (.struct (Program.fieldsOf Tryz.prog 39)) := by kernel_rfl
theorem fl39 : (Program.fieldsOf Tryz.prog 39).toList = [{ name := "Kind", type := 22, offset := 0, embedded := false, tag := "", pkgPath := "", byteOffset := 0 }, { name := "From", type := 3, offset := 1, embedded := false, tag := "", pkgPath := "", byteOffset := 8 }, { name := "To", type := 3, offset := 2, embedded := false, tag := "", pkgPath := "", byteOffset := 16 }, { name := "Items", type := 23, offset := 3, embedded := false, tag := "", pkgPath := "", byteOffset := 24 }, { name := "Event", type := 32, offset := 4, embedded := false, tag := "", pkgPath := "", byteOffset := 48 }, { name := "Past", type := 29, offset := 25, embedded := false, tag := "", pkgPath := "", byteOffset := 256 }, { name := "Seen", type := 29, offset := 41, embedded := false, tag := "", pkgPath := "", byteOffset := 384 }, { name := "Extra", type := 33, offset := 57, embedded := false, tag := "", pkgPath := "", byteOffset := 512 }, { name := "Live", type := 33, offset := 58, embedded := false, tag := "", pkgPath := "", byteOffset := 536 }, { name := "Hash", type := 35, offset := 59, embedded := false, tag := "", pkgPath := "", byteOffset := 560 }, { name := "Leaves", type := 36, offset := 91, embedded := false, tag := "", pkgPath := "", byteOffset := 592 }, { name := "Buckets", type := 37, offset := 92, embedded := false, tag := "", pkgPath := "", byteOffset := 616 }, { name := "Reply", type := 4, offset := 93, embedded := false, tag := "", pkgPath := "", byteOffset := 640 }] := by kernel_rfl
theorem tu32 : Program.underlying Tryz.prog 32 = some (.struct (Program.fieldsOf Tryz.prog 32)) := by kernel_rfl
theorem fl32 : (Program.fieldsOf Tryz.prog 32).toList = [{ name := "ID", type := 26, offset := 0, embedded := false, tag := "", pkgPath := "", byteOffset := 0 }, { name := "Topic", type := 9, offset := 2, embedded := false, tag := "", pkgPath := "", byteOffset := 16 }, { name := "Payload", type := 27, offset := 3, embedded := false, tag := "", pkgPath := "", byteOffset := 32 }, { name := "Past", type := 29, offset := 4, embedded := false, tag := "", pkgPath := "", byteOffset := 56 }, { name := "To", type := 30, offset := 20, embedded := false, tag := "", pkgPath := "", byteOffset := 184 }] := by kernel_rfl
end Go.Proofs.YtklnihlchhhhlaaGreat
