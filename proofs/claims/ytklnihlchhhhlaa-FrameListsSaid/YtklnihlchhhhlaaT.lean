/- What the walks read off the program's types. -/
import Derived.Test.YtklnihlchhhhlaaProg
import Derived.Test.YtklnihlchhhhlaaFw
import Derived.Test.YtklnihlchhhhlaaFdb
import Derived.Test.YtklnihlchhhhlaaS
namespace Go.Proofs.Ytklnihlchhhhlaa
open Go Fw
set_option linter.unusedVariables false

def api_Dot.tup (x : api_Dot) : Int × UInt64 × Unit := (x.Region, (x.Count, ()))
abbrev r_api_Dot : Rep api_Dot := rM api_Dot.tup (rP (rI .i64) (rP (rU UInt64) r0))
theorem comp_api_Dot_Region (x : api_Dot) : Comp r_api_Dot x 0 (rI .i64) x.Region := Comp.map (Comp.at' (Comp.inF (Comp.self (rI .i64) x.Region) (by decide)) (by rfl : _ = 0))
theorem comp_api_Dot_Count (x : api_Dot) : Comp r_api_Dot x 1 (rU UInt64) x.Count := Comp.map (Comp.at' (Comp.inS (Comp.inF (Comp.self (rU UInt64) x.Count) (by decide))) (by rfl : _ = 1))
def api_Key.tup (x : api_Key) : (List UInt8) × (List UInt8) × Unit := (x.Topic, (x.Device, ()))
abbrev r_api_Key : Rep api_Key := rM api_Key.tup (rP rS (rP rS r0))
theorem comp_api_Key_Topic (x : api_Key) : Comp r_api_Key x 0 rS x.Topic := Comp.map (Comp.at' (Comp.inF (Comp.self rS x.Topic) (by decide)) (by rfl : _ = 0))
theorem comp_api_Key_Device (x : api_Key) : Comp r_api_Key x 1 rS x.Device := Comp.map (Comp.at' (Comp.inS (Comp.inF (Comp.self rS x.Device) (by decide))) (by rfl : _ = 1))
def api_Item.tup (x : api_Item) : api_Dot × api_Key × Bool × Unit := (x.Dot, (x.Key, (x.Gone, ())))
abbrev r_api_Item : Rep api_Item := rM api_Item.tup (rP r_api_Dot (rP r_api_Key (rP rB r0)))
theorem comp_api_Item_Dot (x : api_Item) : Comp r_api_Item x 0 r_api_Dot x.Dot := Comp.map (Comp.at' (Comp.inF (Comp.self r_api_Dot x.Dot) (by decide)) (by rfl : _ = 0))
theorem comp_api_Item_Key (x : api_Item) : Comp r_api_Item x 2 r_api_Key x.Key := Comp.map (Comp.at' (Comp.inS (Comp.inF (Comp.self r_api_Key x.Key) (by decide))) (by rfl : _ = 2))
theorem comp_api_Item_Gone (x : api_Item) : Comp r_api_Item x 4 rB x.Gone := Comp.map (Comp.at' (Comp.inS (Comp.inS (Comp.inF (Comp.self rB x.Gone) (by decide)))) (by rfl : _ = 4))
def api_Dest.tup (x : api_Dest) : api_Dot × (List UInt8) × Unit := (x.Dot, (x.Device, ()))
abbrev r_api_Dest : Rep api_Dest := rM api_Dest.tup (rP r_api_Dot (rP rS r0))
theorem comp_api_Dest_Dot (x : api_Dest) : Comp r_api_Dest x 0 r_api_Dot x.Dot := Comp.map (Comp.at' (Comp.inF (Comp.self r_api_Dot x.Dot) (by decide)) (by rfl : _ = 0))
theorem comp_api_Dest_Device (x : api_Dest) : Comp r_api_Dest x 2 rS x.Device := Comp.map (Comp.at' (Comp.inS (Comp.inF (Comp.self rS x.Device) (by decide))) (by rfl : _ = 2))
def api_Event.tup (x : api_Event) : api_Dot × (List UInt8) × (List UInt8) × (Vector UInt64 16) × (List api_Dest) × Unit := (x.ID, (x.Topic, (x.Payload, (x.Past, (x.To, ())))))
abbrev r_api_Event : Rep api_Event := rM api_Event.tup (rP r_api_Dot (rP rS (rP (rL (rU UInt8)) (rP (rV 16 (rU UInt64)) (rP (rL r_api_Dest) r0)))))
theorem comp_api_Event_ID (x : api_Event) : Comp r_api_Event x 0 r_api_Dot x.ID := Comp.map (Comp.at' (Comp.inF (Comp.self r_api_Dot x.ID) (by decide)) (by rfl : _ = 0))
theorem comp_api_Event_Topic (x : api_Event) : Comp r_api_Event x 2 rS x.Topic := Comp.map (Comp.at' (Comp.inS (Comp.inF (Comp.self rS x.Topic) (by decide))) (by rfl : _ = 2))
theorem comp_api_Event_Payload (x : api_Event) : Comp r_api_Event x 3 (rL (rU UInt8)) x.Payload := Comp.map (Comp.at' (Comp.inS (Comp.inS (Comp.inF (Comp.self (rL (rU UInt8)) x.Payload) (by decide)))) (by rfl : _ = 3))
theorem comp_api_Event_Past (x : api_Event) : Comp r_api_Event x 4 (rV 16 (rU UInt64)) x.Past := Comp.map (Comp.at' (Comp.inS (Comp.inS (Comp.inS (Comp.inF (Comp.self (rV 16 (rU UInt64)) x.Past) (by decide))))) (by rfl : _ = 4))
theorem comp_api_Event_To (x : api_Event) : Comp r_api_Event x 20 (rL r_api_Dest) x.To := Comp.map (Comp.at' (Comp.inS (Comp.inS (Comp.inS (Comp.inS (Comp.inF (Comp.self (rL r_api_Dest) x.To) (by decide)))))) (by rfl : _ = 20))
def api_Frame.tup (x : api_Frame) : Int × Int × Int × (List api_Item) × api_Event × (Vector UInt64 16) × (Vector UInt64 16) × (List api_Dot) × (List api_Dot) × (Vector UInt8 32) × (List (Vector UInt8 32)) × (List Int) × Bool × Unit := (x.Kind, (x.From, (x.To, (x.Items, (x.Event, (x.Past, (x.Seen, (x.Extra, (x.Live, (x.Hash, (x.Leaves, (x.Buckets, (x.Reply, ())))))))))))))
abbrev r_api_Frame : Rep api_Frame := rM api_Frame.tup (rP (rI .i64) (rP (rI .i64) (rP (rI .i64) (rP (rL r_api_Item) (rP r_api_Event (rP (rV 16 (rU UInt64)) (rP (rV 16 (rU UInt64)) (rP (rL r_api_Dot) (rP (rL r_api_Dot) (rP (rV 32 (rU UInt8)) (rP (rL (rV 32 (rU UInt8))) (rP (rL (rI .i64)) (rP rB r0)))))))))))))
theorem comp_api_Frame_Kind (x : api_Frame) : Comp r_api_Frame x 0 (rI .i64) x.Kind := Comp.map (Comp.at' (Comp.inF (Comp.self (rI .i64) x.Kind) (by decide)) (by rfl : _ = 0))
theorem comp_api_Frame_From (x : api_Frame) : Comp r_api_Frame x 1 (rI .i64) x.From := Comp.map (Comp.at' (Comp.inS (Comp.inF (Comp.self (rI .i64) x.From) (by decide))) (by rfl : _ = 1))
theorem comp_api_Frame_To (x : api_Frame) : Comp r_api_Frame x 2 (rI .i64) x.To := Comp.map (Comp.at' (Comp.inS (Comp.inS (Comp.inF (Comp.self (rI .i64) x.To) (by decide)))) (by rfl : _ = 2))
theorem comp_api_Frame_Items (x : api_Frame) : Comp r_api_Frame x 3 (rL r_api_Item) x.Items := Comp.map (Comp.at' (Comp.inS (Comp.inS (Comp.inS (Comp.inF (Comp.self (rL r_api_Item) x.Items) (by decide))))) (by rfl : _ = 3))
theorem comp_api_Frame_Event (x : api_Frame) : Comp r_api_Frame x 4 r_api_Event x.Event := Comp.map (Comp.at' (Comp.inS (Comp.inS (Comp.inS (Comp.inS (Comp.inF (Comp.self r_api_Event x.Event) (by decide)))))) (by rfl : _ = 4))
theorem comp_api_Frame_Past (x : api_Frame) : Comp r_api_Frame x 25 (rV 16 (rU UInt64)) x.Past := Comp.map (Comp.at' (Comp.inS (Comp.inS (Comp.inS (Comp.inS (Comp.inS (Comp.inF (Comp.self (rV 16 (rU UInt64)) x.Past) (by decide))))))) (by rfl : _ = 25))
theorem comp_api_Frame_Seen (x : api_Frame) : Comp r_api_Frame x 41 (rV 16 (rU UInt64)) x.Seen := Comp.map (Comp.at' (Comp.inS (Comp.inS (Comp.inS (Comp.inS (Comp.inS (Comp.inS (Comp.inF (Comp.self (rV 16 (rU UInt64)) x.Seen) (by decide)))))))) (by rfl : _ = 41))
theorem comp_api_Frame_Extra (x : api_Frame) : Comp r_api_Frame x 57 (rL r_api_Dot) x.Extra := Comp.map (Comp.at' (Comp.inS (Comp.inS (Comp.inS (Comp.inS (Comp.inS (Comp.inS (Comp.inS (Comp.inF (Comp.self (rL r_api_Dot) x.Extra) (by decide))))))))) (by rfl : _ = 57))
theorem comp_api_Frame_Live (x : api_Frame) : Comp r_api_Frame x 58 (rL r_api_Dot) x.Live := Comp.map (Comp.at' (Comp.inS (Comp.inS (Comp.inS (Comp.inS (Comp.inS (Comp.inS (Comp.inS (Comp.inS (Comp.inF (Comp.self (rL r_api_Dot) x.Live) (by decide)))))))))) (by rfl : _ = 58))
theorem comp_api_Frame_Hash (x : api_Frame) : Comp r_api_Frame x 59 (rV 32 (rU UInt8)) x.Hash := Comp.map (Comp.at' (Comp.inS (Comp.inS (Comp.inS (Comp.inS (Comp.inS (Comp.inS (Comp.inS (Comp.inS (Comp.inS (Comp.inF (Comp.self (rV 32 (rU UInt8)) x.Hash) (by decide))))))))))) (by rfl : _ = 59))
theorem comp_api_Frame_Leaves (x : api_Frame) : Comp r_api_Frame x 91 (rL (rV 32 (rU UInt8))) x.Leaves := Comp.map (Comp.at' (Comp.inS (Comp.inS (Comp.inS (Comp.inS (Comp.inS (Comp.inS (Comp.inS (Comp.inS (Comp.inS (Comp.inS (Comp.inF (Comp.self (rL (rV 32 (rU UInt8))) x.Leaves) (by decide)))))))))))) (by rfl : _ = 91))
theorem comp_api_Frame_Buckets (x : api_Frame) : Comp r_api_Frame x 92 (rL (rI .i64)) x.Buckets := Comp.map (Comp.at' (Comp.inS (Comp.inS (Comp.inS (Comp.inS (Comp.inS (Comp.inS (Comp.inS (Comp.inS (Comp.inS (Comp.inS (Comp.inS (Comp.inF (Comp.self (rL (rI .i64)) x.Buckets) (by decide))))))))))))) (by rfl : _ = 92))
theorem comp_api_Frame_Reply (x : api_Frame) : Comp r_api_Frame x 93 rB x.Reply := Comp.map (Comp.at' (Comp.inS (Comp.inS (Comp.inS (Comp.inS (Comp.inS (Comp.inS (Comp.inS (Comp.inS (Comp.inS (Comp.inS (Comp.inS (Comp.inS (Comp.inF (Comp.self rB x.Reply) (by decide)))))))))))))) (by rfl : _ = 93))
def frame_form.tup (x : frame_form) : (Option Nat) × (Option Nat) × Unit := (x.write, (x.read, ()))
abbrev r_frame_form : Rep frame_form := rM frame_form.tup (rP rFn (rP rFn r0))
theorem comp_frame_form_write (x : frame_form) : Comp r_frame_form x 0 rFn x.write := Comp.map (Comp.at' (Comp.inF (Comp.self rFn x.write) (by decide)) (by rfl : _ = 0))
def frame_writer.tup (x : frame_writer) : (List UInt8) × Unit := (x.b, ())
def wire_Reader.tup (x : wire_Reader) : (List UInt8) × Bool × Bool × Unit := (x.rest, (x.is, (x.made, ())))
abbrev r_wire_Reader : Rep wire_Reader := rM wire_Reader.tup (rP (rL (rU UInt8)) (rP rB (rP rB r0)))
theorem comp_wire_Reader_rest (x : wire_Reader) : Comp r_wire_Reader x 0 (rL (rU UInt8)) x.rest := Comp.map (Comp.at' (Comp.inF (Comp.self (rL (rU UInt8)) x.rest) (by decide)) (by rfl : _ = 0))
theorem upd_wire_Reader_rest (x : wire_Reader) (y : (List UInt8)) : Upd r_wire_Reader x 0 (rL (rU UInt8)) y { x with rest := y } := Upd.map (UpdR.U (UpdR.at (UpdR.fst (UpdR.self rfl)) (by rfl : _ = 0)))
theorem comp_wire_Reader_is (x : wire_Reader) : Comp r_wire_Reader x 1 rB x.is := Comp.map (Comp.at' (Comp.inS (Comp.inF (Comp.self rB x.is) (by decide))) (by rfl : _ = 1))
abbrev zq0 := (rP (rI .i64) (rP (rI .i64) (rP (rI .i64) (rP (rW (HDR none 0 0 0)) (rP (rP r_api_Dot (rP rS (rP (rW (HDR none 0 0 0)) (rP (rV 16 (rU UInt64)) (rP (rW (HDR none 0 0 0)) r0))))) (rP (rV 16 (rU UInt64)) (rP (rV 16 (rU UInt64)) (rP (rW (HDR none 0 0 0)) (rP (rW (HDR none 0 0 0)) (rP (rV 32 (rU UInt8)) (rP (rW (HDR none 0 0 0)) (rP (rW (HDR none 0 0 0)) (rP rB r0)))))))))))))
abbrev zq1 := ((0 : Int), ((0 : Int), ((0 : Int), ((), (((api_Dot.mk (0 : Int) (0 : UInt64)), (([] : (List UInt8)), ((), ((Vector.replicate 16 (0 : UInt64)), ((), ()))))), ((Vector.replicate 16 (0 : UInt64)), ((Vector.replicate 16 (0 : UInt64)), ((), ((), ((Vector.replicate 32 (0 : UInt8)), ((), ((), (false, ())))))))))))))
abbrev zq2 (a0 : api_Frame) := (a0.Kind, (a0.From, (a0.To, ((), (((api_Dot.mk (0 : Int) (0 : UInt64)), (([] : (List UInt8)), ((), ((Vector.replicate 16 (0 : UInt64)), ((), ()))))), ((Vector.replicate 16 (0 : UInt64)), ((Vector.replicate 16 (0 : UInt64)), ((), ((), ((Vector.replicate 32 (0 : UInt8)), ((), ((), (false, ())))))))))))))
abbrev zq3 (a0 : api_Frame) := (a0.Kind, (a0.From, (a0.To, ((), (((api_Dot.mk (0 : Int) (0 : UInt64)), (([] : (List UInt8)), ((), ((Vector.replicate 16 (0 : UInt64)), ((), ()))))), ((Vector.replicate 16 (0 : UInt64)), (a0.Seen, ((), ((), ((Vector.replicate 32 (0 : UInt8)), ((), ((), (false, ())))))))))))))
abbrev zq4 := (rP (rI .i64) (rP (rI .i64) (rP (rI .i64) (rP (rW (HDR none 0 0 0)) (rP (rP r_api_Dot (rP rS (rP (rW (HDR none 0 0 0)) (rP (rV 16 (rU UInt64)) (rP (rW (HDR none 0 0 0)) r0))))) (rP (rV 16 (rU UInt64)) (rP (rV 16 (rU UInt64)) (rP (rL r_api_Dot) (rP (rW (HDR none 0 0 0)) (rP (rV 32 (rU UInt8)) (rP (rW (HDR none 0 0 0)) (rP (rW (HDR none 0 0 0)) (rP rB r0)))))))))))))
abbrev zq5 (a0 : api_Frame) := (a0.Kind, (a0.From, (a0.To, ((), (((api_Dot.mk (0 : Int) (0 : UInt64)), (([] : (List UInt8)), ((), ((Vector.replicate 16 (0 : UInt64)), ((), ()))))), ((Vector.replicate 16 (0 : UInt64)), (a0.Seen, (a0.Extra, ((), ((Vector.replicate 32 (0 : UInt8)), ((), ((), (false, ())))))))))))))
abbrev zq6 := (rP (rI .i64) (rP (rI .i64) (rP (rI .i64) (rP (rW (HDR none 0 0 0)) (rP (rP r_api_Dot (rP rS (rP (rW (HDR none 0 0 0)) (rP (rV 16 (rU UInt64)) (rP (rW (HDR none 0 0 0)) r0))))) (rP (rV 16 (rU UInt64)) (rP (rV 16 (rU UInt64)) (rP (rL r_api_Dot) (rP (rL r_api_Dot) (rP (rV 32 (rU UInt8)) (rP (rW (HDR none 0 0 0)) (rP (rW (HDR none 0 0 0)) (rP rB r0)))))))))))))
abbrev zq7 (a0 : api_Frame) := (a0.Kind, (a0.From, (a0.To, ((), (((api_Dot.mk (0 : Int) (0 : UInt64)), (([] : (List UInt8)), ((), ((Vector.replicate 16 (0 : UInt64)), ((), ()))))), ((Vector.replicate 16 (0 : UInt64)), (a0.Seen, (a0.Extra, (a0.Live, ((Vector.replicate 32 (0 : UInt8)), ((), ((), (false, ())))))))))))))
abbrev zq8 (a0 : api_Frame) := (a0.Kind, (a0.From, (a0.To, ((), (((api_Dot.mk (0 : Int) (0 : UInt64)), (([] : (List UInt8)), ((), ((Vector.replicate 16 (0 : UInt64)), ((), ()))))), ((Vector.replicate 16 (0 : UInt64)), ((Vector.replicate 16 (0 : UInt64)), ((), ((), (a0.Hash, ((), ((), (false, ())))))))))))))
abbrev zq9 := (rP (rI .i64) (rP (rI .i64) (rP (rI .i64) (rP (rW (HDR none 0 0 0)) (rP (rP r_api_Dot (rP rS (rP (rW (HDR none 0 0 0)) (rP (rV 16 (rU UInt64)) (rP (rW (HDR none 0 0 0)) r0))))) (rP (rV 16 (rU UInt64)) (rP (rV 16 (rU UInt64)) (rP (rW (HDR none 0 0 0)) (rP (rW (HDR none 0 0 0)) (rP (rV 32 (rU UInt8)) (rP (rW (HDR none 0 0 0)) (rP (rL (rI .i64)) (rP rB r0)))))))))))))
abbrev zq10 (a0 : api_Frame) := (a0.Kind, (a0.From, (a0.To, ((), (((api_Dot.mk (0 : Int) (0 : UInt64)), (([] : (List UInt8)), ((), ((Vector.replicate 16 (0 : UInt64)), ((), ()))))), ((Vector.replicate 16 (0 : UInt64)), ((Vector.replicate 16 (0 : UInt64)), ((), ((), ((Vector.replicate 32 (0 : UInt8)), ((), (a0.Buckets, (false, ())))))))))))))
abbrev zq11 := (rP (rI .i64) (rP (rI .i64) (rP (rI .i64) (rP (rL r_api_Item) (rP (rP r_api_Dot (rP rS (rP (rW (HDR none 0 0 0)) (rP (rV 16 (rU UInt64)) (rP (rW (HDR none 0 0 0)) r0))))) (rP (rV 16 (rU UInt64)) (rP (rV 16 (rU UInt64)) (rP (rW (HDR none 0 0 0)) (rP (rW (HDR none 0 0 0)) (rP (rV 32 (rU UInt8)) (rP (rW (HDR none 0 0 0)) (rP (rL (rI .i64)) (rP rB r0)))))))))))))
abbrev zq12 (a0 : api_Frame) := (a0.Kind, (a0.From, (a0.To, (a0.Items, (((api_Dot.mk (0 : Int) (0 : UInt64)), (([] : (List UInt8)), ((), ((Vector.replicate 16 (0 : UInt64)), ((), ()))))), ((Vector.replicate 16 (0 : UInt64)), ((Vector.replicate 16 (0 : UInt64)), ((), ((), ((Vector.replicate 32 (0 : UInt8)), ((), (a0.Buckets, (false, ())))))))))))))
abbrev zq13 (a0 : api_Frame) := (a0.Kind, (a0.From, (a0.To, (a0.Items, (((api_Dot.mk (0 : Int) (0 : UInt64)), (([] : (List UInt8)), ((), ((Vector.replicate 16 (0 : UInt64)), ((), ()))))), ((Vector.replicate 16 (0 : UInt64)), (a0.Seen, ((), ((), ((Vector.replicate 32 (0 : UInt8)), ((), (a0.Buckets, (false, ())))))))))))))
abbrev zq14 := (rP (rI .i64) (rP (rI .i64) (rP (rI .i64) (rP (rL r_api_Item) (rP (rP r_api_Dot (rP rS (rP (rW (HDR none 0 0 0)) (rP (rV 16 (rU UInt64)) (rP (rW (HDR none 0 0 0)) r0))))) (rP (rV 16 (rU UInt64)) (rP (rV 16 (rU UInt64)) (rP (rL r_api_Dot) (rP (rW (HDR none 0 0 0)) (rP (rV 32 (rU UInt8)) (rP (rW (HDR none 0 0 0)) (rP (rL (rI .i64)) (rP rB r0)))))))))))))
abbrev zq15 (a0 : api_Frame) := (a0.Kind, (a0.From, (a0.To, (a0.Items, (((api_Dot.mk (0 : Int) (0 : UInt64)), (([] : (List UInt8)), ((), ((Vector.replicate 16 (0 : UInt64)), ((), ()))))), ((Vector.replicate 16 (0 : UInt64)), (a0.Seen, (a0.Extra, ((), ((Vector.replicate 32 (0 : UInt8)), ((), (a0.Buckets, (false, ())))))))))))))
abbrev zq16 (a0 : api_Frame) := (a0.Kind, (a0.From, (a0.To, (a0.Items, (((api_Dot.mk (0 : Int) (0 : UInt64)), (([] : (List UInt8)), ((), ((Vector.replicate 16 (0 : UInt64)), ((), ()))))), ((Vector.replicate 16 (0 : UInt64)), (a0.Seen, (a0.Extra, ((), ((Vector.replicate 32 (0 : UInt8)), ((), (a0.Buckets, (a0.Reply, ())))))))))))))
abbrev zq17 := (rP (rV 16 (rU UInt64)) (rP (rW (HDR none 0 0 0)) (rP rB r0)))
abbrev zq18 (a0 : Option Nat) (a1 : (List api_Dot)) (a2 : Nat) := (rP (rV 16 (rU UInt64)) (rP (rW (HDR a0 0 (List.length a1) a2)) (rP rB r0)))
abbrev zq19 := ((frame_form.mk (none : Option Nat) (none : Option Nat)).write, ((frame_form.mk (none : Option Nat) (none : Option Nat)).read, ()))
abbrev zq20 (a0 : Nat) (a1 : UInt8) (a2 : UInt8) (a3 : UInt8) := (rP (rW (HDR (some a0) 0 (List.length ([a1, a2, a3] : (List UInt8))) (3))) r0)
abbrev zq21 (a0 : Option Nat) (a1 : (List UInt8)) (a2 : Nat) := (rP (rW (HDR a0 0 (List.length a1) a2)) r0)
abbrev zq22 (a0 : Option Nat) (a1 : (List UInt8)) (a2 : Nat) := (rP (rW (HL a0 (rU UInt8) a1 a2)) r0)
abbrev zq23 := (rP (rW (HDR none 0 0 0)) (rP rB (rP rB r0)))
abbrev zq24 := (rP (rW (PTO none)) (rP (rP (rI .i64) (rP (rI .i64) (rP (rI .i64) (rP (rW (HDR none 0 0 0)) (rP (rP r_api_Dot (rP rS (rP (rW (HDR none 0 0 0)) (rP (rV 16 (rU UInt64)) (rP (rW (HDR none 0 0 0)) r0))))) (rP (rV 16 (rU UInt64)) (rP (rV 16 (rU UInt64)) (rP (rW (HDR none 0 0 0)) (rP (rW (HDR none 0 0 0)) (rP (rV 32 (rU UInt8)) (rP (rW (HDR none 0 0 0)) (rP (rW (HDR none 0 0 0)) (rP rB r0))))))))))))) r0))
abbrev zq25 := ((), (((0 : Int), ((0 : Int), ((0 : Int), ((), (((api_Dot.mk (0 : Int) (0 : UInt64)), (([] : (List UInt8)), ((), ((Vector.replicate 16 (0 : UInt64)), ((), ()))))), ((Vector.replicate 16 (0 : UInt64)), ((Vector.replicate 16 (0 : UInt64)), ((), ((), ((Vector.replicate 32 (0 : UInt8)), ((), ((), (false, ()))))))))))))), ()))
abbrev zq26 (a0 : Option Nat) (a1 : Nat) := (rP (rW (HDR a0 0 (List.length ([] : (List UInt8))) a1)) (rP rB (rP rB r0)))
abbrev zq27 (a0 : Nat) := (rP (rW (PTR a0 0)) (rP (rP (rI .i64) (rP (rI .i64) (rP (rI .i64) (rP (rW (HDR none 0 0 0)) (rP (rP r_api_Dot (rP rS (rP (rW (HDR none 0 0 0)) (rP (rV 16 (rU UInt64)) (rP (rW (HDR none 0 0 0)) r0))))) (rP (rV 16 (rU UInt64)) (rP (rV 16 (rU UInt64)) (rP (rW (HDR none 0 0 0)) (rP (rW (HDR none 0 0 0)) (rP (rV 32 (rU UInt8)) (rP (rW (HDR none 0 0 0)) (rP (rW (HDR none 0 0 0)) (rP rB r0))))))))))))) r0))
abbrev zq28 (a0 : Option Nat) (a1 : (List UInt8)) (a2 : Nat) := (rP (rW (HDR a0 0 (List.length a1) a2)) (rP rB (rP rB r0)))
abbrev zq29 (a0 : Option Nat) (a1 : (List UInt8)) (a2 : Nat) := (rP (rW (HL a0 (rU UInt8) a1 a2)) (rP rB (rP rB r0)))
abbrev zq30 := ((5 : Int), ((1 : Int), ((1 : Int), ((), (((api_Dot.mk (0 : Int) (0 : UInt64)), (([] : (List UInt8)), ((), ((Vector.replicate 16 (0 : UInt64)), ((), ()))))), ((Vector.replicate 16 (0 : UInt64)), ((Vector.replicate 16 (0 : UInt64)), ((), ((), ((Vector.replicate 32 (0 : UInt8)), ((), ((), (false, ())))))))))))))
theorem mixed : Try.prog.follows .mixedOrders = true := by kernel_rfl
theorem tu22 : Program.underlying Try.prog 22 = some (.slice 33) := by kernel_rfl
theorem tz33 : tySz Try.prog 33 5 = true := by kernel_rfl
theorem tf33_1 : tyF Try.prog 33 1 2 = true := by kernel_rfl
theorem tf31_0 : tyF Try.prog 31 0 0 = true := by kernel_rfl
theorem tS9 : tyS Try.prog 9 = true := by kernel_rfl
theorem tu9 : Program.underlying Try.prog 9 = some .string := by kernel_rfl
theorem tf31_1 : tyF Try.prog 31 1 1 = true := by kernel_rfl
theorem cl4 : callable Try.prog 4 = true := by kernel_rfl
theorem zr50 : Zr zq0 zq1 (Value.cells (.agg #[.int .i64 0, .int .i64 0, .int .i64 0, .slice none 0 0, .int .i64 0, .int .u64 0, .string ⟨#[]⟩, .slice none 0 0, .int .u64 0, .int .u64 0, .int .u64 0, .int .u64 0, .int .u64 0, .int .u64 0, .int .u64 0, .int .u64 0, .int .u64 0, .int .u64 0, .int .u64 0, .int .u64 0, .int .u64 0, .int .u64 0, .int .u64 0, .int .u64 0, .slice none 0 0, .int .u64 0, .int .u64 0, .int .u64 0, .int .u64 0, .int .u64 0, .int .u64 0, .int .u64 0, .int .u64 0, .int .u64 0, .int .u64 0, .int .u64 0, .int .u64 0, .int .u64 0, .int .u64 0, .int .u64 0, .int .u64 0, .int .u64 0, .int .u64 0, .int .u64 0, .int .u64 0, .int .u64 0, .int .u64 0, .int .u64 0, .int .u64 0, .int .u64 0, .int .u64 0, .int .u64 0, .int .u64 0, .int .u64 0, .int .u64 0, .int .u64 0, .int .u64 0, .slice none 0 0, .slice none 0 0, .int .u8 0, .int .u8 0, .int .u8 0, .int .u8 0, .int .u8 0, .int .u8 0, .int .u8 0, .int .u8 0, .int .u8 0, .int .u8 0, .int .u8 0, .int .u8 0, .int .u8 0, .int .u8 0, .int .u8 0, .int .u8 0, .int .u8 0, .int .u8 0, .int .u8 0, .int .u8 0, .int .u8 0, .int .u8 0, .int .u8 0, .int .u8 0, .int .u8 0, .int .u8 0, .int .u8 0, .int .u8 0, .int .u8 0, .int .u8 0, .int .u8 0, .int .u8 0, .slice none 0 0, .slice none 0 0, .bool false])).toList := (Zr.two (Zr.int _ _) (Zr.two (Zr.int _ _) (Zr.two (Zr.int _ _) (Zr.two (Zr.w (v := .slice none 0 0) rfl) (Zr.two (Zr.two (Zr.map (Zr.two (Zr.int _ _) (Zr.two (Zr.u _ rfl rfl) Zr.unit rfl) rfl)) (Zr.two (Zr.str rfl) (Zr.two (Zr.w (v := .slice none 0 0) rfl) (Zr.two (Zr.vec (Zr.u _ rfl rfl) rfl) (Zr.two (Zr.w (v := .slice none 0 0) rfl) Zr.unit rfl) rfl) rfl) rfl) rfl) (Zr.two (Zr.vec (Zr.u _ rfl rfl) rfl) (Zr.two (Zr.vec (Zr.u _ rfl rfl) rfl) (Zr.two (Zr.w (v := .slice none 0 0) rfl) (Zr.two (Zr.w (v := .slice none 0 0) rfl) (Zr.two (Zr.vec (Zr.u _ rfl rfl) rfl) (Zr.two (Zr.w (v := .slice none 0 0) rfl) (Zr.two (Zr.w (v := .slice none 0 0) rfl) (Zr.two (Zr.bool _) Zr.unit rfl) rfl) rfl) rfl) rfl) rfl) rfl) rfl) rfl) rfl) rfl) rfl) rfl)
theorem tZ50 : tyZ Try.prog 50 (.agg #[.int .i64 0, .int .i64 0, .int .i64 0, .slice none 0 0, .int .i64 0, .int .u64 0, .string ⟨#[]⟩, .slice none 0 0, .int .u64 0, .int .u64 0, .int .u64 0, .int .u64 0, .int .u64 0, .int .u64 0, .int .u64 0, .int .u64 0, .int .u64 0, .int .u64 0, .int .u64 0, .int .u64 0, .int .u64 0, .int .u64 0, .int .u64 0, .int .u64 0, .slice none 0 0, .int .u64 0, .int .u64 0, .int .u64 0, .int .u64 0, .int .u64 0, .int .u64 0, .int .u64 0, .int .u64 0, .int .u64 0, .int .u64 0, .int .u64 0, .int .u64 0, .int .u64 0, .int .u64 0, .int .u64 0, .int .u64 0, .int .u64 0, .int .u64 0, .int .u64 0, .int .u64 0, .int .u64 0, .int .u64 0, .int .u64 0, .int .u64 0, .int .u64 0, .int .u64 0, .int .u64 0, .int .u64 0, .int .u64 0, .int .u64 0, .int .u64 0, .int .u64 0, .slice none 0 0, .slice none 0 0, .int .u8 0, .int .u8 0, .int .u8 0, .int .u8 0, .int .u8 0, .int .u8 0, .int .u8 0, .int .u8 0, .int .u8 0, .int .u8 0, .int .u8 0, .int .u8 0, .int .u8 0, .int .u8 0, .int .u8 0, .int .u8 0, .int .u8 0, .int .u8 0, .int .u8 0, .int .u8 0, .int .u8 0, .int .u8 0, .int .u8 0, .int .u8 0, .int .u8 0, .int .u8 0, .int .u8 0, .int .u8 0, .int .u8 0, .int .u8 0, .int .u8 0, .int .u8 0, .slice none 0 0, .slice none 0 0, .bool false]) := by unfold tyZ; kernel_rfl
theorem tp50 : tyPl Try.prog 50 [(0, 1), (1, 1), (2, 1), (3, 1), (4, 21), (25, 16), (41, 16), (57, 1), (58, 1), (59, 32), (91, 1), (92, 1), (93, 1)] := by unfold tyPl; kernel_rfl
theorem tA50 : tyA Try.prog 50 94 = true := by kernel_rfl
theorem tf50_1 : tyF Try.prog 50 1 1 = true := by kernel_rfl
theorem tS3 : tyS Try.prog 3 = true := by kernel_rfl
theorem tf50_2 : tyF Try.prog 50 2 2 = true := by kernel_rfl
theorem tf50_0 : tyF Try.prog 50 0 0 = true := by kernel_rfl
theorem tS38 : tyS Try.prog 38 = true := by kernel_rfl
theorem tf50_3 : tyF Try.prog 50 3 3 = true := by kernel_rfl
theorem tS22 : tyS Try.prog 22 = true := by kernel_rfl
theorem tf50_4 : tyF Try.prog 50 4 4 = true := by kernel_rfl
theorem tA43 : tyA Try.prog 43 21 = true := by kernel_rfl
theorem tf50_5 : tyF Try.prog 50 5 25 = true := by kernel_rfl
theorem tA40 : tyA Try.prog 40 16 = true := by kernel_rfl
theorem tf50_6 : tyF Try.prog 50 6 41 = true := by kernel_rfl
theorem tf50_7 : tyF Try.prog 50 7 57 = true := by kernel_rfl
theorem tS44 : tyS Try.prog 44 = true := by kernel_rfl
theorem tf50_8 : tyF Try.prog 50 8 58 = true := by kernel_rfl
theorem tf50_9 : tyF Try.prog 50 9 59 = true := by kernel_rfl
theorem tA46 : tyA Try.prog 46 32 = true := by kernel_rfl
theorem tf50_10 : tyF Try.prog 50 10 91 = true := by kernel_rfl
theorem tS47 : tyS Try.prog 47 = true := by kernel_rfl
theorem tf50_11 : tyF Try.prog 50 11 92 = true := by kernel_rfl
theorem tS48 : tyS Try.prog 48 = true := by kernel_rfl
theorem tf50_12 : tyF Try.prog 50 12 93 = true := by kernel_rfl
theorem tS4 : tyS Try.prog 4 = true := by kernel_rfl
theorem cl22 : callable Try.prog 22 = true := by kernel_rfl
theorem tu27 : Program.underlying Try.prog 27 = some (.int .u64) := by kernel_rfl
theorem tu40 : Program.underlying Try.prog 40 = some (.array 16 27) := by kernel_rfl
theorem tS27 : tyS Try.prog 27 = true := by kernel_rfl
theorem qa40 : EqA Try.prog 2 40 (rV 16 (rU UInt64)) (eqV (fun x y => x == y)) := EqA.arrS tu40 tS27 rfl (EqS.u (U := UInt64) tu27)
theorem ng40 : noGuard Try.prog 40 = true := by kernel_rfl
theorem tu5 : Program.underlying Try.prog 5 = some (.int .u8) := by kernel_rfl
theorem tu46 : Program.underlying Try.prog 46 = some (.array 32 5) := by kernel_rfl
theorem tS5 : tyS Try.prog 5 = true := by kernel_rfl
theorem qa46 : EqA Try.prog 2 46 (rV 32 (rU UInt8)) (eqV (fun x y => x == y)) := EqA.arrS tu46 tS5 rfl (EqS.u (U := UInt8) tu5)
theorem ng46 : noGuard Try.prog 46 = true := by kernel_rfl
theorem tu4 : Program.underlying Try.prog 4 = some .bool := by kernel_rfl
theorem tA33 : tyA Try.prog 33 5 = true := by kernel_rfl
theorem tu3 : Program.underlying Try.prog 3 = some (.int .i64) := by kernel_rfl
theorem tu29 : Program.underlying Try.prog 29 = some (.struct (Program.fieldsOf Try.prog 29)) := by kernel_rfl
theorem fl29 : (Program.fieldsOf Try.prog 29).toList = [{ name := "Region", type := 3, offset := 0, embedded := false, tag := "", pkgPath := "", byteOffset := 0 }, { name := "Count", type := 27, offset := 1, embedded := false, tag := "", pkgPath := "", byteOffset := 8 }] := by kernel_rfl
theorem nh29 : notHeld Try.prog 29 = true := by kernel_rfl
theorem qa29 : EqA Try.prog 2 29 r_api_Dot eq_api_Dot := EqA.struct tu29 nh29 (by rw [fl29]; exact (EqF.consS (by decide) rfl tS3 rfl (EqS.int tu3) (EqF.consS (by decide) rfl tS27 rfl (EqS.u (U := UInt64) tu27) EqF.nil))) (fun _ _ => rfl)
theorem tu31 : Program.underlying Try.prog 31 = some (.struct (Program.fieldsOf Try.prog 31)) := by kernel_rfl
theorem fl31 : (Program.fieldsOf Try.prog 31).toList = [{ name := "Topic", type := 9, offset := 0, embedded := false, tag := "", pkgPath := "", byteOffset := 0 }, { name := "Device", type := 9, offset := 1, embedded := false, tag := "", pkgPath := "", byteOffset := 16 }] := by kernel_rfl
theorem nh31 : notHeld Try.prog 31 = true := by kernel_rfl
theorem qa31 : EqA Try.prog 2 31 r_api_Key eq_api_Key := EqA.struct tu31 nh31 (by rw [fl31]; exact (EqF.consS (by decide) rfl tS9 rfl (EqS.str tu9) (EqF.consS (by decide) rfl tS9 rfl (EqS.str tu9) EqF.nil))) (fun _ _ => rfl)
theorem tA31 : tyA Try.prog 31 2 = true := by kernel_rfl
theorem tA29 : tyA Try.prog 29 2 = true := by kernel_rfl
theorem tu33 : Program.underlying Try.prog 33 = some (.struct (Program.fieldsOf Try.prog 33)) := by kernel_rfl
theorem fl33 : (Program.fieldsOf Try.prog 33).toList = [{ name := "Dot", type := 29, offset := 0, embedded := false, tag := "", pkgPath := "", byteOffset := 0 }, { name := "Key", type := 31, offset := 2, embedded := false, tag := "", pkgPath := "", byteOffset := 16 }, { name := "Gone", type := 4, offset := 4, embedded := false, tag := "", pkgPath := "", byteOffset := 48 }] := by kernel_rfl
theorem nh33 : notHeld Try.prog 33 = true := by kernel_rfl
theorem qa33 : EqA Try.prog 3 33 r_api_Item eq_api_Item := EqA.struct tu33 nh33 (by rw [fl33]; exact (EqF.consA (by decide) rfl tA29 rfl qa29 (EqF.consA (by decide) rfl tA31 rfl qa31 (EqF.consS (by decide) rfl tS4 rfl ((EqS.bool tu4).mono (by decide)) EqF.nil)))) (fun _ _ => rfl)
theorem ng33 : noGuard Try.prog 33 = true := by kernel_rfl
theorem cl56 : callable Try.prog 56 = true := by kernel_rfl
theorem tu44 : Program.underlying Try.prog 44 = some (.slice 29) := by kernel_rfl
theorem tz29 : tySz Try.prog 29 2 = true := by kernel_rfl
theorem ng29 : noGuard Try.prog 29 = true := by kernel_rfl
theorem cl57 : callable Try.prog 57 = true := by kernel_rfl
theorem tu47 : Program.underlying Try.prog 47 = some (.slice 46) := by kernel_rfl
theorem tz46 : tySz Try.prog 46 32 = true := by kernel_rfl
theorem cl58 : callable Try.prog 58 = true := by kernel_rfl
theorem tu48 : Program.underlying Try.prog 48 = some (.slice 3) := by kernel_rfl
theorem tz3 : tySz Try.prog 3 1 = true := by kernel_rfl
theorem cl59 : callable Try.prog 59 = true := by kernel_rfl
theorem tf43_0 : tyF Try.prog 43 0 0 = true := by kernel_rfl
theorem tf43_1 : tyF Try.prog 43 1 2 = true := by kernel_rfl
theorem tf43_2 : tyF Try.prog 43 2 3 = true := by kernel_rfl
theorem tS25 : tyS Try.prog 25 = true := by kernel_rfl
theorem tu25 : Program.underlying Try.prog 25 = some (.slice 5) := by kernel_rfl
theorem tz5 : tySz Try.prog 5 1 = true := by kernel_rfl
theorem cl20 : callable Try.prog 20 = true := by kernel_rfl
theorem tf43_3 : tyF Try.prog 43 3 4 = true := by kernel_rfl
theorem tf43_4 : tyF Try.prog 43 4 20 = true := by kernel_rfl
theorem tS41 : tyS Try.prog 41 = true := by kernel_rfl
theorem tu41 : Program.underlying Try.prog 41 = some (.slice 110) := by kernel_rfl
theorem tz110 : tySz Try.prog 110 3 = true := by kernel_rfl
theorem tA110 : tyA Try.prog 110 3 = true := by kernel_rfl
theorem tu110 : Program.underlying Try.prog 110 = some (.struct (Program.fieldsOf Try.prog 110)) := by kernel_rfl
theorem fl110 : (Program.fieldsOf Try.prog 110).toList = [{ name := "Dot", type := 29, offset := 0, embedded := false, tag := "", pkgPath := "", byteOffset := 0 }, { name := "Device", type := 9, offset := 2, embedded := false, tag := "", pkgPath := "", byteOffset := 16 }] := by kernel_rfl
theorem nh110 : notHeld Try.prog 110 = true := by kernel_rfl
theorem qa110 : EqA Try.prog 3 110 r_api_Dest eq_api_Dest := EqA.struct tu110 nh110 (by rw [fl110]; exact (EqF.consA (by decide) rfl tA29 rfl qa29 (EqF.consS (by decide) rfl tS9 rfl ((EqS.str tu9).mono (by decide)) EqF.nil))) (fun _ _ => rfl)
theorem ng110 : noGuard Try.prog 110 = true := by kernel_rfl
theorem cl87 : callable Try.prog 87 = true := by kernel_rfl
theorem cl60 : callable Try.prog 60 = true := by kernel_rfl
theorem cl21 : callable Try.prog 21 = true := by kernel_rfl
theorem tf33_2 : tyF Try.prog 33 2 4 = true := by kernel_rfl
theorem tf33_0 : tyF Try.prog 33 0 0 = true := by kernel_rfl
theorem tf29_0 : tyF Try.prog 29 0 0 = true := by kernel_rfl
theorem tf29_1 : tyF Try.prog 29 1 1 = true := by kernel_rfl
theorem cl28 : callable Try.prog 28 = true := by kernel_rfl
theorem zv31 : Zr r_api_Key (api_Key.mk ([] : (List UInt8)) ([] : (List UInt8))) (Value.cells (.agg #[.string ⟨#[]⟩, .string ⟨#[]⟩])).toList := (Zr.map (Zr.two (Zr.str rfl) (Zr.two (Zr.str rfl) Zr.unit rfl) rfl))
theorem tZ31 : tyZ Try.prog 31 (.agg #[.string ⟨#[]⟩, .string ⟨#[]⟩]) := by unfold tyZ; kernel_rfl
theorem tp31 : tyPl Try.prog 31 [(0, 1), (1, 1)] := by unfold tyPl; kernel_rfl
theorem ng31 : noGuard Try.prog 31 = true := by kernel_rfl
theorem cl32 : callable Try.prog 32 = true := by kernel_rfl
theorem cl14 : callable Try.prog 14 = true := by kernel_rfl
theorem cl61 : callable Try.prog 61 = true := by kernel_rfl
theorem cl31 : callable Try.prog 31 = true := by kernel_rfl
theorem cl12 : callable Try.prog 12 = true := by kernel_rfl
theorem cl24 : callable Try.prog 24 = true := by kernel_rfl
theorem cl62 : callable Try.prog 62 = true := by kernel_rfl
theorem tz27 : tySz Try.prog 27 1 = true := by kernel_rfl
theorem tu82 : Program.underlying Try.prog 82 = some (.slice 27) := by kernel_rfl
theorem cl88 : callable Try.prog 88 = true := by kernel_rfl
theorem cl65 : callable Try.prog 65 = true := by kernel_rfl
theorem cl26 : callable Try.prog 26 = true := by kernel_rfl
theorem cl63 : callable Try.prog 63 = true := by kernel_rfl
theorem tr40 : tyAr Try.prog 40 16 1 = true := by kernel_rfl
theorem tZ110 : tyZ Try.prog 110 (.agg #[.int .i64 0, .int .u64 0, .string ⟨#[]⟩]) := by unfold tyZ; kernel_rfl
theorem zr110 : Zr r_api_Dest (api_Dest.mk (api_Dot.mk (0 : Int) (0 : UInt64)) ([] : (List UInt8))) (Value.cells (.agg #[.int .i64 0, .int .u64 0, .string ⟨#[]⟩])).toList := (Zr.map (Zr.two (Zr.map (Zr.two (Zr.int _ _) (Zr.two (Zr.u _ rfl rfl) Zr.unit rfl) rfl)) (Zr.two (Zr.str rfl) Zr.unit rfl) rfl))
theorem tf110_0 : tyF Try.prog 110 0 0 = true := by kernel_rfl
theorem tf110_1 : tyF Try.prog 110 1 2 = true := by kernel_rfl
theorem cl99 : callable Try.prog 99 = true := by kernel_rfl
theorem cl90 : callable Try.prog 90 = true := by kernel_rfl
theorem cl100 : callable Try.prog 100 = true := by kernel_rfl
theorem cl91 : callable Try.prog 91 = true := by kernel_rfl
theorem tZ3 : tyZ Try.prog 3 (.int .i64 0) := by unfold tyZ; kernel_rfl
theorem cl89 : callable Try.prog 89 = true := by kernel_rfl
theorem cl64 : callable Try.prog 64 = true := by kernel_rfl
theorem cl25 : callable Try.prog 25 = true := by kernel_rfl
theorem cl27 : callable Try.prog 27 = true := by kernel_rfl
theorem tZ29 : tyZ Try.prog 29 (.agg #[.int .i64 0, .int .u64 0]) := by unfold tyZ; kernel_rfl
theorem zr29 : Zr r_api_Dot (api_Dot.mk (0 : Int) (0 : UInt64)) (Value.cells (.agg #[.int .i64 0, .int .u64 0])).toList := (Zr.map (Zr.two (Zr.int _ _) (Zr.two (Zr.u _ rfl rfl) Zr.unit rfl) rfl))
theorem cl23 : callable Try.prog 23 = true := by kernel_rfl
theorem cl66 : callable Try.prog 66 = true := by kernel_rfl
theorem cl29 : callable Try.prog 29 = true := by kernel_rfl
theorem tB29 : tyB Try.prog 29 2 16 (.agg #[.int .i64 0, .int .u64 0]) := tyB.of (by kernel_rfl)
theorem cl92 : callable Try.prog 92 = true := by kernel_rfl
theorem zr140 : Zr zq17 ((Vector.replicate 16 (0 : UInt64)), ((), (false, ()))) (Value.cells (.agg #[.int .u64 0, .int .u64 0, .int .u64 0, .int .u64 0, .int .u64 0, .int .u64 0, .int .u64 0, .int .u64 0, .int .u64 0, .int .u64 0, .int .u64 0, .int .u64 0, .int .u64 0, .int .u64 0, .int .u64 0, .int .u64 0, .slice none 0 0, .bool false])).toList := (Zr.two (Zr.vec (Zr.u _ rfl rfl) rfl) (Zr.two (Zr.w (v := .slice none 0 0) rfl) (Zr.two (Zr.bool _) Zr.unit rfl) rfl) rfl)
theorem tZ140 : tyZ Try.prog 140 (.agg #[.int .u64 0, .int .u64 0, .int .u64 0, .int .u64 0, .int .u64 0, .int .u64 0, .int .u64 0, .int .u64 0, .int .u64 0, .int .u64 0, .int .u64 0, .int .u64 0, .int .u64 0, .int .u64 0, .int .u64 0, .int .u64 0, .slice none 0 0, .bool false]) := by unfold tyZ; kernel_rfl
theorem tp140 : tyPl Try.prog 140 [(0, 16), (16, 1), (17, 1)] := by unfold tyPl; kernel_rfl
theorem cl67 : callable Try.prog 67 = true := by kernel_rfl
theorem cl30 : callable Try.prog 30 = true := by kernel_rfl
theorem tZ33 : tyZ Try.prog 33 (.agg #[.int .i64 0, .int .u64 0, .string ⟨#[]⟩, .string ⟨#[]⟩, .bool false]) := by unfold tyZ; kernel_rfl
theorem zr33 : Zr r_api_Item (api_Item.mk (api_Dot.mk (0 : Int) (0 : UInt64)) (api_Key.mk ([] : (List UInt8)) ([] : (List UInt8))) false) (Value.cells (.agg #[.int .i64 0, .int .u64 0, .string ⟨#[]⟩, .string ⟨#[]⟩, .bool false])).toList := (Zr.map (Zr.two (Zr.map (Zr.two (Zr.int _ _) (Zr.two (Zr.u _ rfl rfl) Zr.unit rfl) rfl)) (Zr.two (Zr.map (Zr.two (Zr.str rfl) (Zr.two (Zr.str rfl) Zr.unit rfl) rfl)) (Zr.two (Zr.bool _) Zr.unit rfl) rfl) rfl))
theorem cl10 : callable Try.prog 10 = true := by kernel_rfl
theorem tu38 : Program.underlying Try.prog 38 = some (.int .i64) := by kernel_rfl
theorem tZ5 : tyZ Try.prog 5 (.int .u8 0) := by unfold tyZ; kernel_rfl
theorem zr60 : Zr (rP (rW (HDR none 0 0 0)) r0) ((), ()) (Value.cells (.agg #[.slice none 0 0])).toList := (Zr.two (Zr.w (v := .slice none 0 0) rfl) Zr.unit rfl)
theorem tZ60 : tyZ Try.prog 60 (.agg #[.slice none 0 0]) := by unfold tyZ; kernel_rfl
theorem tp60 : tyPl Try.prog 60 [(0, 1)] := by unfold tyPl; kernel_rfl
theorem zs72 : Zr (rP rFn (rP rFn r0)) zq19 (Value.cells (.agg #[.nilFunc, .nilFunc])).toList := (Zr.two Zr.fn (Zr.two Zr.fn Zr.unit rfl) rfl)
theorem tZ72 : tyZ Try.prog 72 (.agg #[.nilFunc, .nilFunc]) := by unfold tyZ; kernel_rfl
theorem tp72 : tyPl Try.prog 72 [(0, 1), (1, 1)] := by unfold tyPl; kernel_rfl
theorem tu74 : Program.underlying Try.prog 74 = some (.map 38 72) := by kernel_rfl
theorem ky38 : KeyT Try.prog 38 (S (rI .i64)) := KeyT.int tu38
theorem cl19 : callable Try.prog 19 = true := by kernel_rfl
theorem zv72 : Zr r_frame_form (frame_form.mk (none : Option Nat) (none : Option Nat)) (Value.cells (.agg #[.nilFunc, .nilFunc])).toList := (Zr.map (Zr.two Zr.fn (Zr.two Zr.fn Zr.unit rfl) rfl))
theorem td72_0 : tyFd Try.prog 72 0 0 (tyS Try.prog) = true := by kernel_rfl
theorem tB5 : tyB Try.prog 5 1 1 (.int .u8 0) := tyB.of (by kernel_rfl)
theorem cl34 : callable Try.prog 34 = true := by kernel_rfl
theorem tf60_0 : tyF Try.prog 60 0 0 = true := by kernel_rfl
theorem cl33 : callable Try.prog 33 = true := by kernel_rfl
theorem cl35 : callable Try.prog 35 = true := by kernel_rfl
theorem cl36 : callable Try.prog 36 = true := by kernel_rfl
theorem cl37 : callable Try.prog 37 = true := by kernel_rfl
theorem cl15 : callable Try.prog 15 = true := by kernel_rfl
theorem cl42 : callable Try.prog 42 = true := by kernel_rfl
theorem tZ25 : tyZ Try.prog 25 (.slice none 0 0) := by unfold tyZ; kernel_rfl
theorem zr25 : Zr (rW (HDR none 0 0 0)) () (Value.cells (.slice none 0 0)).toList := (Zr.w (v := .slice none 0 0) rfl)
theorem cl101 : callable Try.prog 101 = true := by kernel_rfl
theorem cl76 : callable Try.prog 76 = true := by kernel_rfl
theorem cl95 : callable Try.prog 95 = true := by kernel_rfl
theorem cl73 : callable Try.prog 73 = true := by kernel_rfl
theorem cl44 : callable Try.prog 44 = true := by kernel_rfl
theorem cl46 : callable Try.prog 46 = true := by kernel_rfl
theorem cl79 : callable Try.prog 79 = true := by kernel_rfl
theorem cl78 : callable Try.prog 78 = true := by kernel_rfl
theorem cl48 : callable Try.prog 48 = true := by kernel_rfl
theorem cl50 : callable Try.prog 50 = true := by kernel_rfl
theorem tZ46 : tyZ Try.prog 46 (.agg #[.int .u8 0, .int .u8 0, .int .u8 0, .int .u8 0, .int .u8 0, .int .u8 0, .int .u8 0, .int .u8 0, .int .u8 0, .int .u8 0, .int .u8 0, .int .u8 0, .int .u8 0, .int .u8 0, .int .u8 0, .int .u8 0, .int .u8 0, .int .u8 0, .int .u8 0, .int .u8 0, .int .u8 0, .int .u8 0, .int .u8 0, .int .u8 0, .int .u8 0, .int .u8 0, .int .u8 0, .int .u8 0, .int .u8 0, .int .u8 0, .int .u8 0, .int .u8 0]) := by unfold tyZ; kernel_rfl
theorem zr46 : Zr (rV 32 (rU UInt8)) (Vector.replicate 32 (0 : UInt8)) (Value.cells (.agg #[.int .u8 0, .int .u8 0, .int .u8 0, .int .u8 0, .int .u8 0, .int .u8 0, .int .u8 0, .int .u8 0, .int .u8 0, .int .u8 0, .int .u8 0, .int .u8 0, .int .u8 0, .int .u8 0, .int .u8 0, .int .u8 0, .int .u8 0, .int .u8 0, .int .u8 0, .int .u8 0, .int .u8 0, .int .u8 0, .int .u8 0, .int .u8 0, .int .u8 0, .int .u8 0, .int .u8 0, .int .u8 0, .int .u8 0, .int .u8 0, .int .u8 0, .int .u8 0])).toList := (Zr.vec (Zr.u _ rfl rfl) rfl)
theorem cl52 : callable Try.prog 52 = true := by kernel_rfl
theorem cl54 : callable Try.prog 54 = true := by kernel_rfl
theorem tu116 : Program.underlying Try.prog 116 = some (.slice 25) := by kernel_rfl
theorem tz25 : tySz Try.prog 25 1 = true := by kernel_rfl
theorem tZ141 : tyZ Try.prog 141 (.agg #[.int .u32 0, .int .u32 0, .int .u32 0, .int .u32 0, .int .u32 0, .int .u32 0, .int .u32 0, .int .u32 0, .int .u32 0, .int .u32 0, .int .u32 0, .int .u32 0, .int .u32 0, .int .u32 0, .int .u32 0, .int .u32 0]) := by unfold tyZ; kernel_rfl
theorem zr141 : Zr (rV 16 (rU UInt32)) (Vector.replicate 16 (0 : UInt32)) (Value.cells (.agg #[.int .u32 0, .int .u32 0, .int .u32 0, .int .u32 0, .int .u32 0, .int .u32 0, .int .u32 0, .int .u32 0, .int .u32 0, .int .u32 0, .int .u32 0, .int .u32 0, .int .u32 0, .int .u32 0, .int .u32 0, .int .u32 0])).toList := (Zr.vec (Zr.u _ rfl rfl) rfl)
theorem tr141 : tyAr Try.prog 141 16 1 = true := by kernel_rfl
theorem tS94 : tyS Try.prog 94 = true := by kernel_rfl
theorem tA141 : tyA Try.prog 141 16 = true := by kernel_rfl
theorem cl93 : callable Try.prog 93 = true := by kernel_rfl
theorem tu94 : Program.underlying Try.prog 94 = some (.int .u32) := by kernel_rfl
theorem cl68 : callable Try.prog 68 = true := by kernel_rfl
theorem cl38 : callable Try.prog 38 = true := by kernel_rfl
theorem cl16 : callable Try.prog 16 = true := by kernel_rfl
theorem cl7 : callable Try.prog 7 = true := by kernel_rfl
theorem cl39 : callable Try.prog 39 = true := by kernel_rfl
theorem zr98 : Zr zq23 ((), (false, (false, ()))) (Value.cells (.agg #[.slice none 0 0, .bool false, .bool false])).toList := (Zr.two (Zr.w (v := .slice none 0 0) rfl) (Zr.two (Zr.bool _) (Zr.two (Zr.bool _) Zr.unit rfl) rfl) rfl)
theorem tZ98 : tyZ Try.prog 98 (.agg #[.slice none 0 0, .bool false, .bool false]) := by unfold tyZ; kernel_rfl
theorem tp98 : tyPl Try.prog 98 [(0, 1), (1, 1), (2, 1)] := by unfold tyPl; kernel_rfl
theorem cl17 : callable Try.prog 17 = true := by kernel_rfl
theorem zr67 : Zr zq24 zq25 (Value.cells (.agg #[.pointer none, .int .i64 0, .int .i64 0, .int .i64 0, .slice none 0 0, .int .i64 0, .int .u64 0, .string ⟨#[]⟩, .slice none 0 0, .int .u64 0, .int .u64 0, .int .u64 0, .int .u64 0, .int .u64 0, .int .u64 0, .int .u64 0, .int .u64 0, .int .u64 0, .int .u64 0, .int .u64 0, .int .u64 0, .int .u64 0, .int .u64 0, .int .u64 0, .int .u64 0, .slice none 0 0, .int .u64 0, .int .u64 0, .int .u64 0, .int .u64 0, .int .u64 0, .int .u64 0, .int .u64 0, .int .u64 0, .int .u64 0, .int .u64 0, .int .u64 0, .int .u64 0, .int .u64 0, .int .u64 0, .int .u64 0, .int .u64 0, .int .u64 0, .int .u64 0, .int .u64 0, .int .u64 0, .int .u64 0, .int .u64 0, .int .u64 0, .int .u64 0, .int .u64 0, .int .u64 0, .int .u64 0, .int .u64 0, .int .u64 0, .int .u64 0, .int .u64 0, .int .u64 0, .slice none 0 0, .slice none 0 0, .int .u8 0, .int .u8 0, .int .u8 0, .int .u8 0, .int .u8 0, .int .u8 0, .int .u8 0, .int .u8 0, .int .u8 0, .int .u8 0, .int .u8 0, .int .u8 0, .int .u8 0, .int .u8 0, .int .u8 0, .int .u8 0, .int .u8 0, .int .u8 0, .int .u8 0, .int .u8 0, .int .u8 0, .int .u8 0, .int .u8 0, .int .u8 0, .int .u8 0, .int .u8 0, .int .u8 0, .int .u8 0, .int .u8 0, .int .u8 0, .int .u8 0, .int .u8 0, .slice none 0 0, .slice none 0 0, .bool false])).toList := (Zr.two (Zr.w (v := .pointer none) rfl) (Zr.two (Zr.two (Zr.int _ _) (Zr.two (Zr.int _ _) (Zr.two (Zr.int _ _) (Zr.two (Zr.w (v := .slice none 0 0) rfl) (Zr.two (Zr.two (Zr.map (Zr.two (Zr.int _ _) (Zr.two (Zr.u _ rfl rfl) Zr.unit rfl) rfl)) (Zr.two (Zr.str rfl) (Zr.two (Zr.w (v := .slice none 0 0) rfl) (Zr.two (Zr.vec (Zr.u _ rfl rfl) rfl) (Zr.two (Zr.w (v := .slice none 0 0) rfl) Zr.unit rfl) rfl) rfl) rfl) rfl) (Zr.two (Zr.vec (Zr.u _ rfl rfl) rfl) (Zr.two (Zr.vec (Zr.u _ rfl rfl) rfl) (Zr.two (Zr.w (v := .slice none 0 0) rfl) (Zr.two (Zr.w (v := .slice none 0 0) rfl) (Zr.two (Zr.vec (Zr.u _ rfl rfl) rfl) (Zr.two (Zr.w (v := .slice none 0 0) rfl) (Zr.two (Zr.w (v := .slice none 0 0) rfl) (Zr.two (Zr.bool _) Zr.unit rfl) rfl) rfl) rfl) rfl) rfl) rfl) rfl) rfl) rfl) rfl) rfl) rfl) Zr.unit rfl) rfl)
theorem tZ67 : tyZ Try.prog 67 (.agg #[.pointer none, .int .i64 0, .int .i64 0, .int .i64 0, .slice none 0 0, .int .i64 0, .int .u64 0, .string ⟨#[]⟩, .slice none 0 0, .int .u64 0, .int .u64 0, .int .u64 0, .int .u64 0, .int .u64 0, .int .u64 0, .int .u64 0, .int .u64 0, .int .u64 0, .int .u64 0, .int .u64 0, .int .u64 0, .int .u64 0, .int .u64 0, .int .u64 0, .int .u64 0, .slice none 0 0, .int .u64 0, .int .u64 0, .int .u64 0, .int .u64 0, .int .u64 0, .int .u64 0, .int .u64 0, .int .u64 0, .int .u64 0, .int .u64 0, .int .u64 0, .int .u64 0, .int .u64 0, .int .u64 0, .int .u64 0, .int .u64 0, .int .u64 0, .int .u64 0, .int .u64 0, .int .u64 0, .int .u64 0, .int .u64 0, .int .u64 0, .int .u64 0, .int .u64 0, .int .u64 0, .int .u64 0, .int .u64 0, .int .u64 0, .int .u64 0, .int .u64 0, .int .u64 0, .slice none 0 0, .slice none 0 0, .int .u8 0, .int .u8 0, .int .u8 0, .int .u8 0, .int .u8 0, .int .u8 0, .int .u8 0, .int .u8 0, .int .u8 0, .int .u8 0, .int .u8 0, .int .u8 0, .int .u8 0, .int .u8 0, .int .u8 0, .int .u8 0, .int .u8 0, .int .u8 0, .int .u8 0, .int .u8 0, .int .u8 0, .int .u8 0, .int .u8 0, .int .u8 0, .int .u8 0, .int .u8 0, .int .u8 0, .int .u8 0, .int .u8 0, .int .u8 0, .int .u8 0, .int .u8 0, .slice none 0 0, .slice none 0 0, .bool false]) := by unfold tyZ; kernel_rfl
theorem tp67 : tyPl Try.prog 67 [(0, 1), (1, 94)] := by unfold tyPl; kernel_rfl
theorem tf67_0 : tyF Try.prog 67 0 0 = true := by kernel_rfl
theorem tS64 : tyS Try.prog 64 = true := by kernel_rfl
theorem tu64 : Program.underlying Try.prog 64 = some (.pointer 98) := by kernel_rfl
theorem tf98_1 : tyF Try.prog 98 1 1 = true := by kernel_rfl
theorem cl69 : callable Try.prog 69 = true := by kernel_rfl
theorem tf98_0 : tyF Try.prog 98 0 0 = true := by kernel_rfl
theorem tA98 : tyA Try.prog 98 3 = true := by kernel_rfl
theorem cl40 : callable Try.prog 40 = true := by kernel_rfl
theorem cl41 : callable Try.prog 41 = true := by kernel_rfl
theorem cl18 : callable Try.prog 18 = true := by kernel_rfl
theorem tf67_1 : tyF Try.prog 67 1 1 = true := by kernel_rfl
theorem zr72 : Zr r_frame_form (frame_form.mk (none : Option Nat) (none : Option Nat)) (Value.cells (.agg #[.nilFunc, .nilFunc])).toList := (Zr.map (Zr.two Zr.fn (Zr.two Zr.fn Zr.unit rfl) rfl))
theorem tA72 : tyA Try.prog 72 2 = true := by kernel_rfl
theorem cl8 : callable Try.prog 8 = true := by kernel_rfl
theorem cl9 : callable Try.prog 9 = true := by kernel_rfl
theorem tu86 : Program.underlying Try.prog 86 = some (.slice 9) := by kernel_rfl
theorem tz9 : tySz Try.prog 9 1 = true := by kernel_rfl
theorem tZ9 : tyZ Try.prog 9 (.string ⟨#[]⟩) := by unfold tyZ; kernel_rfl
theorem cl11 : callable Try.prog 11 = true := by kernel_rfl
theorem cl5 : callable Try.prog 5 = true := by kernel_rfl
theorem cl13 : callable Try.prog 13 = true := by kernel_rfl
theorem cl6 : callable Try.prog 6 = true := by kernel_rfl
end Go.Proofs.Ytklnihlchhhhlaa
