/- What the walks read off the program's types. -/
import Derived.Test.YtklnihlchhhhlaaGreatProg
import Derived.Test.YtklnihlchhhhlaaGreatFw
import Derived.Test.YtklnihlchhhhlaaGreatFdb
import Derived.Test.YtklnihlchhhhlaaGreatS
namespace Go.Proofs.YtklnihlchhhhlaaGreat
open Go Fw
set_option linter.unusedVariables false

def Zah.tup (x : Zah) : Int × UInt64 × Unit := (x.Region, (x.Count, ()))
abbrev Zae : Rep Zah := rM Zah.tup (rP (rI .i64) (rP (rU UInt64) r0))
theorem ZaN (x : Zah) : Comp Zae x 0 (rI .i64) x.Region := Comp.map (Comp.at' (Comp.inF (Comp.self (rI .i64) x.Region) (by decide)) (by rfl : _ = 0))
theorem ZaY (x : Zah) : Comp Zae x 1 (rU UInt64) x.Count := Comp.map (Comp.at' (Comp.inS (Comp.inF (Comp.self (rU UInt64) x.Count) (by decide))) (by rfl : _ = 1))
def Zbs.tup (x : Zbs) : (List UInt8) × (List UInt8) × Unit := (x.Topic, (x.Device, ()))
abbrev ZcJ : Rep Zbs := rM Zbs.tup (rP rS (rP rS r0))
theorem Zdz (x : Zbs) : Comp ZcJ x 0 rS x.Topic := Comp.map (Comp.at' (Comp.inF (Comp.self rS x.Topic) (by decide)) (by rfl : _ = 0))
theorem Zdq (x : Zbs) : Comp ZcJ x 1 rS x.Device := Comp.map (Comp.at' (Comp.inS (Comp.inF (Comp.self rS x.Device) (by decide))) (by rfl : _ = 1))
def Zal.tup (x : Zal) : Zah × Zbs × Bool × Unit := (x.Dot, (x.Key, (x.Gone, ())))
abbrev Zaj : Rep Zal := rM Zal.tup (rP Zae (rP ZcJ (rP rB r0)))
theorem ZcF (x : Zal) : Comp Zaj x 0 Zae x.Dot := Comp.map (Comp.at' (Comp.inF (Comp.self Zae x.Dot) (by decide)) (by rfl : _ = 0))
theorem ZbR (x : Zal) : Comp Zaj x 2 ZcJ x.Key := Comp.map (Comp.at' (Comp.inS (Comp.inF (Comp.self ZcJ x.Key) (by decide))) (by rfl : _ = 2))
theorem ZdE (x : Zal) : Comp Zaj x 4 rB x.Gone := Comp.map (Comp.at' (Comp.inS (Comp.inS (Comp.inF (Comp.self rB x.Gone) (by decide)))) (by rfl : _ = 4))
def ZaA.tup (x : ZaA) : Zah × (List UInt8) × Unit := (x.Dot, (x.Device, ()))
abbrev Zat : Rep ZaA := rM ZaA.tup (rP Zae (rP rS r0))
theorem Zdb (x : ZaA) : Comp Zat x 0 Zae x.Dot := Comp.map (Comp.at' (Comp.inF (Comp.self Zae x.Dot) (by decide)) (by rfl : _ = 0))
theorem Zdk (x : ZaA) : Comp Zat x 2 rS x.Device := Comp.map (Comp.at' (Comp.inS (Comp.inF (Comp.self rS x.Device) (by decide))) (by rfl : _ = 2))
def Zaq.tup (x : Zaq) : Zah × (List UInt8) × (List UInt8) × (Vector UInt64 16) × (List ZaA) × Unit := (x.ID, (x.Topic, (x.Payload, (x.Past, (x.To, ())))))
abbrev Zan : Rep Zaq := rM Zaq.tup (rP Zae (rP rS (rP (rL (rU UInt8)) (rP (rV 16 (rU UInt64)) (rP (rL Zat) r0)))))
theorem Zbe (x : Zaq) : Comp Zan x 0 Zae x.ID := Comp.map (Comp.at' (Comp.inF (Comp.self Zae x.ID) (by decide)) (by rfl : _ = 0))
theorem Zby (x : Zaq) : Comp Zan x 2 rS x.Topic := Comp.map (Comp.at' (Comp.inS (Comp.inF (Comp.self rS x.Topic) (by decide))) (by rfl : _ = 2))
theorem Zbh (x : Zaq) : Comp Zan x 3 (rL (rU UInt8)) x.Payload := Comp.map (Comp.at' (Comp.inS (Comp.inS (Comp.inF (Comp.self (rL (rU UInt8)) x.Payload) (by decide)))) (by rfl : _ = 3))
theorem Zbm (x : Zaq) : Comp Zan x 4 (rV 16 (rU UInt64)) x.Past := Comp.map (Comp.at' (Comp.inS (Comp.inS (Comp.inS (Comp.inF (Comp.self (rV 16 (rU UInt64)) x.Past) (by decide))))) (by rfl : _ = 4))
theorem ZaR (x : Zaq) : Comp Zan x 20 (rL Zat) x.To := Comp.map (Comp.at' (Comp.inS (Comp.inS (Comp.inS (Comp.inS (Comp.inF (Comp.self (rL Zat) x.To) (by decide)))))) (by rfl : _ = 20))
def Zai.tup (x : Zai) : Int × Int × Int × (List Zal) × Zaq × (Vector UInt64 16) × (Vector UInt64 16) × (List Zah) × (List Zah) × (Vector UInt8 32) × (List (Vector UInt8 32)) × (List Int) × Bool × Unit := (x.Kind, (x.From, (x.To, (x.Items, (x.Event, (x.Past, (x.Seen, (x.Extra, (x.Live, (x.Hash, (x.Leaves, (x.Buckets, (x.Reply, ())))))))))))))
abbrev Zad : Rep Zai := rM Zai.tup (rP (rI .i64) (rP (rI .i64) (rP (rI .i64) (rP (rL Zaj) (rP Zan (rP (rV 16 (rU UInt64)) (rP (rV 16 (rU UInt64)) (rP (rL Zae) (rP (rL Zae) (rP (rV 32 (rU UInt8)) (rP (rL (rV 32 (rU UInt8))) (rP (rL (rI .i64)) (rP rB r0)))))))))))))
theorem Za4 (x : Zai) : Comp Zad x 0 (rI .i64) x.Kind := Comp.map (Comp.at' (Comp.inF (Comp.self (rI .i64) x.Kind) (by decide)) (by rfl : _ = 0))
theorem Zba (x : Zai) : Comp Zad x 1 (rI .i64) x.From := Comp.map (Comp.at' (Comp.inS (Comp.inF (Comp.self (rI .i64) x.From) (by decide))) (by rfl : _ = 1))
theorem Zbt (x : Zai) : Comp Zad x 2 (rI .i64) x.To := Comp.map (Comp.at' (Comp.inS (Comp.inS (Comp.inF (Comp.self (rI .i64) x.To) (by decide)))) (by rfl : _ = 2))
theorem ZaO (x : Zai) : Comp Zad x 3 (rL Zaj) x.Items := Comp.map (Comp.at' (Comp.inS (Comp.inS (Comp.inS (Comp.inF (Comp.self (rL Zaj) x.Items) (by decide))))) (by rfl : _ = 3))
theorem Zbf (x : Zai) : Comp Zad x 4 Zan x.Event := Comp.map (Comp.at' (Comp.inS (Comp.inS (Comp.inS (Comp.inS (Comp.inF (Comp.self Zan x.Event) (by decide)))))) (by rfl : _ = 4))
theorem ZbG (x : Zai) : Comp Zad x 25 (rV 16 (rU UInt64)) x.Past := Comp.map (Comp.at' (Comp.inS (Comp.inS (Comp.inS (Comp.inS (Comp.inS (Comp.inF (Comp.self (rV 16 (rU UInt64)) x.Past) (by decide))))))) (by rfl : _ = 25))
theorem Zbn (x : Zai) : Comp Zad x 41 (rV 16 (rU UInt64)) x.Seen := Comp.map (Comp.at' (Comp.inS (Comp.inS (Comp.inS (Comp.inS (Comp.inS (Comp.inS (Comp.inF (Comp.self (rV 16 (rU UInt64)) x.Seen) (by decide)))))))) (by rfl : _ = 41))
theorem Za7 (x : Zai) : Comp Zad x 57 (rL Zae) x.Extra := Comp.map (Comp.at' (Comp.inS (Comp.inS (Comp.inS (Comp.inS (Comp.inS (Comp.inS (Comp.inS (Comp.inF (Comp.self (rL Zae) x.Extra) (by decide))))))))) (by rfl : _ = 57))
theorem Za5 (x : Zai) : Comp Zad x 58 (rL Zae) x.Live := Comp.map (Comp.at' (Comp.inS (Comp.inS (Comp.inS (Comp.inS (Comp.inS (Comp.inS (Comp.inS (Comp.inS (Comp.inF (Comp.self (rL Zae) x.Live) (by decide)))))))))) (by rfl : _ = 58))
theorem ZbS (x : Zai) : Comp Zad x 59 (rV 32 (rU UInt8)) x.Hash := Comp.map (Comp.at' (Comp.inS (Comp.inS (Comp.inS (Comp.inS (Comp.inS (Comp.inS (Comp.inS (Comp.inS (Comp.inS (Comp.inF (Comp.self (rV 32 (rU UInt8)) x.Hash) (by decide))))))))))) (by rfl : _ = 59))
theorem ZaU (x : Zai) : Comp Zad x 91 (rL (rV 32 (rU UInt8))) x.Leaves := Comp.map (Comp.at' (Comp.inS (Comp.inS (Comp.inS (Comp.inS (Comp.inS (Comp.inS (Comp.inS (Comp.inS (Comp.inS (Comp.inS (Comp.inF (Comp.self (rL (rV 32 (rU UInt8))) x.Leaves) (by decide)))))))))))) (by rfl : _ = 91))
theorem ZaL (x : Zai) : Comp Zad x 92 (rL (rI .i64)) x.Buckets := Comp.map (Comp.at' (Comp.inS (Comp.inS (Comp.inS (Comp.inS (Comp.inS (Comp.inS (Comp.inS (Comp.inS (Comp.inS (Comp.inS (Comp.inS (Comp.inF (Comp.self (rL (rI .i64)) x.Buckets) (by decide))))))))))))) (by rfl : _ = 92))
theorem ZbO (x : Zai) : Comp Zad x 93 rB x.Reply := Comp.map (Comp.at' (Comp.inS (Comp.inS (Comp.inS (Comp.inS (Comp.inS (Comp.inS (Comp.inS (Comp.inS (Comp.inS (Comp.inS (Comp.inS (Comp.inS (Comp.inF (Comp.self rB x.Reply) (by decide)))))))))))))) (by rfl : _ = 93))
def Zaf.tup (x : Zaf) : (Option Nat) × (Option Nat) × Unit := (x.write, (x.read, ()))
abbrev ZaG : Rep Zaf := rM Zaf.tup (rP rFn (rP rFn r0))
theorem ZfY (x : Zaf) : Comp ZaG x 0 rFn x.write := Comp.map (Comp.at' (Comp.inF (Comp.self rFn x.write) (by decide)) (by rfl : _ = 0))
theorem Zgb (x : Zaf) : Comp ZaG x 1 rFn x.read := Comp.map (Comp.at' (Comp.inS (Comp.inF (Comp.self rFn x.read) (by decide))) (by rfl : _ = 1))
def Zht.tup (x : Zht) : (List UInt8) × Unit := (x.b, ())
def Zag.tup (x : Zag) : (List UInt8) × Bool × Bool × Unit := (x.rest, (x.is, (x.made, ())))
abbrev Zab : Rep Zag := rM Zag.tup (rP (rL (rU UInt8)) (rP rB (rP rB r0)))
theorem ZbX (x : Zag) : Comp Zab x 0 (rL (rU UInt8)) x.rest := Comp.map (Comp.at' (Comp.inF (Comp.self (rL (rU UInt8)) x.rest) (by decide)) (by rfl : _ = 0))
theorem Zf9 (x : Zag) (y : (List UInt8)) : Upd Zab x 0 (rL (rU UInt8)) y { x with rest := y } := Upd.map (UpdR.U (UpdR.at (UpdR.fst (UpdR.self rfl)) (by rfl : _ = 0)))
theorem Zgt (x : Zag) : Comp Zab x 1 rB x.is := Comp.map (Comp.at' (Comp.inS (Comp.inF (Comp.self rB x.is) (by decide))) (by rfl : _ = 1))
theorem ZfM (x : Zag) : Comp Zab x 2 rB x.made := Comp.map (Comp.at' (Comp.inS (Comp.inS (Comp.inF (Comp.self rB x.made) (by decide)))) (by rfl : _ = 2))
abbrev zq0 := (rP (rI .i64) (rP (rI .i64) (rP (rI .i64) (rP (rW (HDR none 0 0 0)) (rP (rP Zae (rP rS (rP (rW (HDR none 0 0 0)) (rP (rV 16 (rU UInt64)) (rP (rW (HDR none 0 0 0)) r0))))) (rP (rV 16 (rU UInt64)) (rP (rV 16 (rU UInt64)) (rP (rW (HDR none 0 0 0)) (rP (rW (HDR none 0 0 0)) (rP (rV 32 (rU UInt8)) (rP (rW (HDR none 0 0 0)) (rP (rW (HDR none 0 0 0)) (rP rB r0)))))))))))))
abbrev zq1 := ((0 : Int), ((0 : Int), ((0 : Int), ((), (((Zah.mk (0 : Int) (0 : UInt64)), (([] : (List UInt8)), ((), ((Vector.replicate 16 (0 : UInt64)), ((), ()))))), ((Vector.replicate 16 (0 : UInt64)), ((Vector.replicate 16 (0 : UInt64)), ((), ((), ((Vector.replicate 32 (0 : UInt8)), ((), ((), (false, ())))))))))))))
abbrev zq2 (a0 : Zai) := (a0.Kind, (a0.From, (a0.To, ((), (((Zah.mk (0 : Int) (0 : UInt64)), (([] : (List UInt8)), ((), ((Vector.replicate 16 (0 : UInt64)), ((), ()))))), ((Vector.replicate 16 (0 : UInt64)), ((Vector.replicate 16 (0 : UInt64)), ((), ((), ((Vector.replicate 32 (0 : UInt8)), ((), ((), (false, ())))))))))))))
abbrev zq3 (a0 : Zai) := (a0.Kind, (a0.From, (a0.To, ((), (((Zah.mk (0 : Int) (0 : UInt64)), (([] : (List UInt8)), ((), ((Vector.replicate 16 (0 : UInt64)), ((), ()))))), ((Vector.replicate 16 (0 : UInt64)), (a0.Seen, ((), ((), ((Vector.replicate 32 (0 : UInt8)), ((), ((), (false, ())))))))))))))
abbrev zq4 := (rP (rI .i64) (rP (rI .i64) (rP (rI .i64) (rP (rW (HDR none 0 0 0)) (rP (rP Zae (rP rS (rP (rW (HDR none 0 0 0)) (rP (rV 16 (rU UInt64)) (rP (rW (HDR none 0 0 0)) r0))))) (rP (rV 16 (rU UInt64)) (rP (rV 16 (rU UInt64)) (rP (rL Zae) (rP (rW (HDR none 0 0 0)) (rP (rV 32 (rU UInt8)) (rP (rW (HDR none 0 0 0)) (rP (rW (HDR none 0 0 0)) (rP rB r0)))))))))))))
abbrev zq5 (a0 : Zai) := (a0.Kind, (a0.From, (a0.To, ((), (((Zah.mk (0 : Int) (0 : UInt64)), (([] : (List UInt8)), ((), ((Vector.replicate 16 (0 : UInt64)), ((), ()))))), ((Vector.replicate 16 (0 : UInt64)), (a0.Seen, (a0.Extra, ((), ((Vector.replicate 32 (0 : UInt8)), ((), ((), (false, ())))))))))))))
abbrev zq6 := (rP (rI .i64) (rP (rI .i64) (rP (rI .i64) (rP (rW (HDR none 0 0 0)) (rP (rP Zae (rP rS (rP (rW (HDR none 0 0 0)) (rP (rV 16 (rU UInt64)) (rP (rW (HDR none 0 0 0)) r0))))) (rP (rV 16 (rU UInt64)) (rP (rV 16 (rU UInt64)) (rP (rL Zae) (rP (rL Zae) (rP (rV 32 (rU UInt8)) (rP (rW (HDR none 0 0 0)) (rP (rW (HDR none 0 0 0)) (rP rB r0)))))))))))))
abbrev zq7 (a0 : Zai) := (a0.Kind, (a0.From, (a0.To, ((), (((Zah.mk (0 : Int) (0 : UInt64)), (([] : (List UInt8)), ((), ((Vector.replicate 16 (0 : UInt64)), ((), ()))))), ((Vector.replicate 16 (0 : UInt64)), (a0.Seen, (a0.Extra, (a0.Live, ((Vector.replicate 32 (0 : UInt8)), ((), ((), (false, ())))))))))))))
abbrev zq8 (a0 : Zai) := (a0.Kind, (a0.From, (a0.To, ((), (((Zah.mk (0 : Int) (0 : UInt64)), (([] : (List UInt8)), ((), ((Vector.replicate 16 (0 : UInt64)), ((), ()))))), ((Vector.replicate 16 (0 : UInt64)), ((Vector.replicate 16 (0 : UInt64)), ((), ((), (a0.Hash, ((), ((), (false, ())))))))))))))
abbrev zq9 := (rP (rI .i64) (rP (rI .i64) (rP (rI .i64) (rP (rW (HDR none 0 0 0)) (rP (rP Zae (rP rS (rP (rW (HDR none 0 0 0)) (rP (rV 16 (rU UInt64)) (rP (rW (HDR none 0 0 0)) r0))))) (rP (rV 16 (rU UInt64)) (rP (rV 16 (rU UInt64)) (rP (rW (HDR none 0 0 0)) (rP (rW (HDR none 0 0 0)) (rP (rV 32 (rU UInt8)) (rP (rW (HDR none 0 0 0)) (rP (rL (rI .i64)) (rP rB r0)))))))))))))
abbrev zq10 (a0 : Zai) := (a0.Kind, (a0.From, (a0.To, ((), (((Zah.mk (0 : Int) (0 : UInt64)), (([] : (List UInt8)), ((), ((Vector.replicate 16 (0 : UInt64)), ((), ()))))), ((Vector.replicate 16 (0 : UInt64)), ((Vector.replicate 16 (0 : UInt64)), ((), ((), ((Vector.replicate 32 (0 : UInt8)), ((), (a0.Buckets, (false, ())))))))))))))
abbrev zq11 := (rP (rI .i64) (rP (rI .i64) (rP (rI .i64) (rP (rL Zaj) (rP (rP Zae (rP rS (rP (rW (HDR none 0 0 0)) (rP (rV 16 (rU UInt64)) (rP (rW (HDR none 0 0 0)) r0))))) (rP (rV 16 (rU UInt64)) (rP (rV 16 (rU UInt64)) (rP (rW (HDR none 0 0 0)) (rP (rW (HDR none 0 0 0)) (rP (rV 32 (rU UInt8)) (rP (rW (HDR none 0 0 0)) (rP (rL (rI .i64)) (rP rB r0)))))))))))))
abbrev zq12 (a0 : Zai) := (a0.Kind, (a0.From, (a0.To, (a0.Items, (((Zah.mk (0 : Int) (0 : UInt64)), (([] : (List UInt8)), ((), ((Vector.replicate 16 (0 : UInt64)), ((), ()))))), ((Vector.replicate 16 (0 : UInt64)), ((Vector.replicate 16 (0 : UInt64)), ((), ((), ((Vector.replicate 32 (0 : UInt8)), ((), (a0.Buckets, (false, ())))))))))))))
abbrev zq13 (a0 : Zai) := (a0.Kind, (a0.From, (a0.To, (a0.Items, (((Zah.mk (0 : Int) (0 : UInt64)), (([] : (List UInt8)), ((), ((Vector.replicate 16 (0 : UInt64)), ((), ()))))), ((Vector.replicate 16 (0 : UInt64)), (a0.Seen, ((), ((), ((Vector.replicate 32 (0 : UInt8)), ((), (a0.Buckets, (false, ())))))))))))))
abbrev zq14 := (rP (rI .i64) (rP (rI .i64) (rP (rI .i64) (rP (rL Zaj) (rP (rP Zae (rP rS (rP (rW (HDR none 0 0 0)) (rP (rV 16 (rU UInt64)) (rP (rW (HDR none 0 0 0)) r0))))) (rP (rV 16 (rU UInt64)) (rP (rV 16 (rU UInt64)) (rP (rL Zae) (rP (rW (HDR none 0 0 0)) (rP (rV 32 (rU UInt8)) (rP (rW (HDR none 0 0 0)) (rP (rL (rI .i64)) (rP rB r0)))))))))))))
abbrev zq15 (a0 : Zai) := (a0.Kind, (a0.From, (a0.To, (a0.Items, (((Zah.mk (0 : Int) (0 : UInt64)), (([] : (List UInt8)), ((), ((Vector.replicate 16 (0 : UInt64)), ((), ()))))), ((Vector.replicate 16 (0 : UInt64)), (a0.Seen, (a0.Extra, ((), ((Vector.replicate 32 (0 : UInt8)), ((), (a0.Buckets, (false, ())))))))))))))
abbrev zq16 (a0 : Zai) := (a0.Kind, (a0.From, (a0.To, (a0.Items, (((Zah.mk (0 : Int) (0 : UInt64)), (([] : (List UInt8)), ((), ((Vector.replicate 16 (0 : UInt64)), ((), ()))))), ((Vector.replicate 16 (0 : UInt64)), (a0.Seen, (a0.Extra, ((), ((Vector.replicate 32 (0 : UInt8)), ((), (a0.Buckets, (a0.Reply, ())))))))))))))
abbrev zq17 := (rP (rV 16 (rU UInt64)) (rP (rW (HDR none 0 0 0)) (rP rB r0)))
abbrev zq18 (a0 : Option Nat) (a1 : (List Zah)) (a2 : Nat) := (rP (rV 16 (rU UInt64)) (rP (rW (HDR a0 0 (List.length a1) a2)) (rP rB r0)))
abbrev zq19 := ((Zaf.mk (none : Option Nat) (none : Option Nat)).write, ((Zaf.mk (none : Option Nat) (none : Option Nat)).read, ()))
abbrev zq20 (a0 : Nat) (a1 : UInt8) (a2 : UInt8) (a3 : UInt8) := (rP (rW (HDR (some a0) 0 (List.length ([a1, a2, a3] : (List UInt8))) (3))) r0)
abbrev zq21 (a0 : Option Nat) (a1 : (List UInt8)) (a2 : Nat) := (rP (rW (HDR a0 0 (List.length a1) a2)) r0)
abbrev zq22 (a0 : Option Nat) (a1 : (List UInt8)) (a2 : Nat) := (rP (rW (HL a0 (rU UInt8) a1 a2)) r0)
abbrev zq23 := (rP (rW (HDR none 0 0 0)) (rP rB (rP rB r0)))
abbrev zq24 := (rP (rW (PTO none)) (rP (rP (rI .i64) (rP (rI .i64) (rP (rI .i64) (rP (rW (HDR none 0 0 0)) (rP (rP Zae (rP rS (rP (rW (HDR none 0 0 0)) (rP (rV 16 (rU UInt64)) (rP (rW (HDR none 0 0 0)) r0))))) (rP (rV 16 (rU UInt64)) (rP (rV 16 (rU UInt64)) (rP (rW (HDR none 0 0 0)) (rP (rW (HDR none 0 0 0)) (rP (rV 32 (rU UInt8)) (rP (rW (HDR none 0 0 0)) (rP (rW (HDR none 0 0 0)) (rP rB r0))))))))))))) r0))
abbrev zq25 := ((), (((0 : Int), ((0 : Int), ((0 : Int), ((), (((Zah.mk (0 : Int) (0 : UInt64)), (([] : (List UInt8)), ((), ((Vector.replicate 16 (0 : UInt64)), ((), ()))))), ((Vector.replicate 16 (0 : UInt64)), ((Vector.replicate 16 (0 : UInt64)), ((), ((), ((Vector.replicate 32 (0 : UInt8)), ((), ((), (false, ()))))))))))))), ()))
abbrev zq26 (a0 : Option Nat) (a1 : (List UInt8)) (a2 : Nat) := (rP (rW (HDR a0 0 (List.length a1) a2)) (rP rB (rP rB r0)))
abbrev zq27 (a0 : Nat) := (rP (rW (PTR a0 0)) (rP (rP (rI .i64) (rP (rI .i64) (rP (rI .i64) (rP (rW (HDR none 0 0 0)) (rP (rP Zae (rP rS (rP (rW (HDR none 0 0 0)) (rP (rV 16 (rU UInt64)) (rP (rW (HDR none 0 0 0)) r0))))) (rP (rV 16 (rU UInt64)) (rP (rV 16 (rU UInt64)) (rP (rW (HDR none 0 0 0)) (rP (rW (HDR none 0 0 0)) (rP (rV 32 (rU UInt8)) (rP (rW (HDR none 0 0 0)) (rP (rW (HDR none 0 0 0)) (rP rB r0))))))))))))) r0))
abbrev zq28 (a0 : Option Nat) (a1 : (List UInt8)) (a2 : Nat) := (rP (rW (HL a0 (rU UInt8) a1 a2)) (rP rB (rP rB r0)))
abbrev zq29 (a0 : Int) (a1 : Int) (a2 : Int) := ((), ((a0, (a1, (a2, ((), (((Zah.mk (0 : Int) (0 : UInt64)), (([] : (List UInt8)), ((), ((Vector.replicate 16 (0 : UInt64)), ((), ()))))), ((Vector.replicate 16 (0 : UInt64)), ((Vector.replicate 16 (0 : UInt64)), ((), ((), ((Vector.replicate 32 (0 : UInt8)), ((), ((), (false, ()))))))))))))), ()))
abbrev zq30 (a0 : Int) (a1 : Int) (a2 : Int) := (a0, (a1, (a2, ((), (((Zah.mk (0 : Int) (0 : UInt64)), (([] : (List UInt8)), ((), ((Vector.replicate 16 (0 : UInt64)), ((), ()))))), ((Vector.replicate 16 (0 : UInt64)), ((Vector.replicate 16 (0 : UInt64)), ((), ((), ((Vector.replicate 32 (0 : UInt8)), ((), ((), (false, ())))))))))))))
abbrev zq31 (a0 : Int) (a1 : Int) (a2 : Int) (a3 : Zah) (a4 : (List UInt8)) (a5 : (Vector UInt64 16)) (a6 : (Vector UInt64 16)) (a7 : (Vector UInt64 16)) (a8 : (Vector UInt8 32)) (a9 : Bool) := ((), ((a0, (a1, (a2, ((), ((a3, (a4, ((), (a5, ((), ()))))), (a6, (a7, ((), ((), (a8, ((), ((), (a9, ()))))))))))))), ()))
abbrev zq32 (a0 : Nat) (a1 : Nat) (a2 : Int) (a3 : Int) (a4 : Int) (a5 : Zah) (a6 : (List UInt8)) (a7 : (Vector UInt64 16)) (a8 : (Vector UInt64 16)) (a9 : (Vector UInt64 16)) (a10 : (Vector UInt8 32)) (a11 : Bool) : ZbE := cvar a0 (zq27 a1) (zq31 a2 a3 a4 a5 a6 a7 a8 a9 a10 a11)
abbrev zq33 (a0 : Nat) : ZbE := cvar a0 Zaj (Zal.mk (Zah.mk (0 : Int) (0 : UInt64)) (Zbs.mk ([] : (List UInt8)) ([] : (List UInt8))) false)
abbrev zq34 := ((Zah.mk (0 : Int) (0 : UInt64)).Region, ((Zah.mk (0 : Int) (0 : UInt64)).Count, ()))
abbrev zq35 := (rP Zae (rP ZcJ (rP rB r0)))
abbrev zq36 := ((Zal.mk (Zah.mk (0 : Int) (0 : UInt64)) (Zbs.mk ([] : (List UInt8)) ([] : (List UInt8))) false).Dot, ((Zal.mk (Zah.mk (0 : Int) (0 : UInt64)) (Zbs.mk ([] : (List UInt8)) ([] : (List UInt8))) false).Key, ((Zal.mk (Zah.mk (0 : Int) (0 : UInt64)) (Zbs.mk ([] : (List UInt8)) ([] : (List UInt8))) false).Gone, ())))
abbrev zq37 (a0 : Zah) (a1 : Bool) := (a0, ((Zal.mk (Zah.mk (0 : Int) (0 : UInt64)) (Zbs.mk ([] : (List UInt8)) ([] : (List UInt8))) false).Key, (a1, ())))
abbrev zq38 := ((Zbs.mk ([] : (List UInt8)) ([] : (List UInt8))).Topic, ((Zbs.mk ([] : (List UInt8)) ([] : (List UInt8))).Device, ()))
abbrev zq39 := (rP Zae (rP (rP rS (rP rS r0)) (rP rB r0)))
abbrev zq40 := (rP Zae (rP rS (rP (rW (HDR none 0 0 0)) (rP (rV 16 (rU UInt64)) (rP (rW (HDR none 0 0 0)) r0)))))
abbrev zq41 := ((Zah.mk (0 : Int) (0 : UInt64)), (([] : (List UInt8)), ((), ((Vector.replicate 16 (0 : UInt64)), ((), ())))))
abbrev zq42 := (rP Zae (rP rS (rP (rL (rU UInt8)) (rP (rV 16 (rU UInt64)) (rP (rW (HDR none 0 0 0)) r0)))))
abbrev zq43 := ((ZaA.mk (Zah.mk (0 : Int) (0 : UInt64)) ([] : (List UInt8))).Dot, ((ZaA.mk (Zah.mk (0 : Int) (0 : UInt64)) ([] : (List UInt8))).Device, ()))
abbrev zq45 (a0 : Option Nat) (a1 : (List ZaA)) (a2 : Nat) := (rP Zae (rP rS (rP (rL (rU UInt8)) (rP (rV 16 (rU UInt64)) (rP (rW (HDR a0 0 (List.length a1) a2)) r0)))))
abbrev zq46 (a0 : Option Nat) (a1 : (List ZaA)) (a2 : Nat) := (rP Zae (rP rS (rP (rL (rU UInt8)) (rP (rV 16 (rU UInt64)) (rP (rW (HL a0 Zat a1 a2)) r0)))))
abbrev zq47 (a0 : Nat) := (rP (rW (PTR a0 0)) (rP (rP (rI .i64) (rP (rI .i64) (rP (rI .i64) (rP (rW (HDR none 0 0 0)) (rP Zan (rP (rV 16 (rU UInt64)) (rP (rV 16 (rU UInt64)) (rP (rW (HDR none 0 0 0)) (rP (rW (HDR none 0 0 0)) (rP (rV 32 (rU UInt8)) (rP (rW (HDR none 0 0 0)) (rP (rW (HDR none 0 0 0)) (rP rB r0))))))))))))) r0))
abbrev zq48 (a0 : Int) (a1 : Int) (a2 : Int) (a3 : Zaq) (a4 : (Vector UInt64 16)) (a5 : (Vector UInt64 16)) (a6 : (Vector UInt8 32)) (a7 : Bool) := ((), ((a0, (a1, (a2, ((), (a3, (a4, (a5, ((), ((), (a6, ((), ((), (a7, ()))))))))))))), ()))
abbrev zq49 (a0 : Nat) (a1 : Nat) (a2 : Int) (a3 : Int) (a4 : Int) (a5 : Zaq) (a6 : (Vector UInt64 16)) (a7 : (Vector UInt64 16)) (a8 : (Vector UInt8 32)) (a9 : Bool) : ZbE := cvar a0 (zq47 a1) (zq48 a2 a3 a4 a5 a6 a7 a8 a9)
abbrev zq50 (a0 : Nat) := (rP (rW (PTR a0 0)) (rP Zad r0))
abbrev zq51 (a0 : Int) (a1 : Int) (a2 : Int) (a3 : Zaq) (a4 : (Vector UInt64 16)) (a5 : (Vector UInt64 16)) (a6 : (Vector UInt8 32)) (a7 : Bool) := ((), ((Zai.mk a0 a1 a2 ([] : (List Zal)) a3 a4 a5 ([] : (List Zah)) ([] : (List Zah)) a6 ([] : (List (Vector UInt8 32))) ([] : (List Int)) a7), ()))
abbrev zq52 (a0 : Int) (a1 : Int) (a2 : Int) (a3 : Zah) (a4 : (List UInt8)) (a5 : (Vector UInt64 16)) (a6 : (Vector UInt64 16)) (a7 : (Vector UInt64 16)) (a8 : (Vector UInt8 32)) (a9 : Bool) := ((), ((Zai.mk a0 a1 a2 ([] : (List Zal)) (Zaq.mk a3 a4 ([] : (List UInt8)) a5 ([] : (List ZaA))) a6 a7 ([] : (List Zah)) ([] : (List Zah)) a8 ([] : (List (Vector UInt8 32))) ([] : (List Int)) a9), ()))
abbrev zq53 (a0 : Nat) (a1 : Option Nat) (a2 : (List Zah)) (a3 : Nat) := (rP (rW (PTR a0 0)) (rP (rP (rI .i64) (rP (rI .i64) (rP (rI .i64) (rP (rW (HDR none 0 0 0)) (rP (rP Zae (rP rS (rP (rW (HDR none 0 0 0)) (rP (rV 16 (rU UInt64)) (rP (rW (HDR none 0 0 0)) r0))))) (rP (rV 16 (rU UInt64)) (rP (rV 16 (rU UInt64)) (rP (rW (HDR a1 0 (List.length a2) a3)) (rP (rW (HDR none 0 0 0)) (rP (rV 32 (rU UInt8)) (rP (rW (HDR none 0 0 0)) (rP (rW (HDR none 0 0 0)) (rP rB r0))))))))))))) r0))
abbrev zq54 (a0 : Nat) (a1 : Nat) (a2 : Option Nat) (a3 : (List Zah)) (a4 : Nat) (a5 : Int) (a6 : Int) (a7 : Int) (a8 : Zah) (a9 : (List UInt8)) (a10 : (Vector UInt64 16)) (a11 : (Vector UInt64 16)) (a12 : (Vector UInt64 16)) (a13 : (Vector UInt8 32)) (a14 : Bool) : ZbE := cvar a0 (zq53 a1 a2 a3 a4) (zq31 a5 a6 a7 a8 a9 a10 a11 a12 a13 a14)
abbrev zq55 (a0 : Nat) (a1 : Option Nat) (a2 : (List Zah)) (a3 : Nat) (a4 : Option Nat) (a5 : (List Zah)) (a6 : Nat) := (rP (rW (PTR a0 0)) (rP (rP (rI .i64) (rP (rI .i64) (rP (rI .i64) (rP (rW (HDR none 0 0 0)) (rP (rP Zae (rP rS (rP (rW (HDR none 0 0 0)) (rP (rV 16 (rU UInt64)) (rP (rW (HDR none 0 0 0)) r0))))) (rP (rV 16 (rU UInt64)) (rP (rV 16 (rU UInt64)) (rP (rW (HDR a1 0 (List.length a2) a3)) (rP (rW (HDR a4 0 (List.length a5) a6)) (rP (rV 32 (rU UInt8)) (rP (rW (HDR none 0 0 0)) (rP (rW (HDR none 0 0 0)) (rP rB r0))))))))))))) r0))
abbrev zq56 (a0 : Nat) (a1 : Nat) (a2 : Option Nat) (a3 : (List Zah)) (a4 : Nat) (a5 : Option Nat) (a6 : (List Zah)) (a7 : Nat) (a8 : Int) (a9 : Int) (a10 : Int) (a11 : Zah) (a12 : (List UInt8)) (a13 : (Vector UInt64 16)) (a14 : (Vector UInt64 16)) (a15 : (Vector UInt64 16)) (a16 : (Vector UInt8 32)) (a17 : Bool) : ZbE := cvar a0 (zq55 a1 a2 a3 a4 a5 a6 a7) (zq31 a8 a9 a10 a11 a12 a13 a14 a15 a16 a17)
abbrev zq57 (a0 : Nat) (a1 : Option Nat) (a2 : (List Int)) (a3 : Nat) := (rP (rW (PTR a0 0)) (rP (rP (rI .i64) (rP (rI .i64) (rP (rI .i64) (rP (rW (HDR none 0 0 0)) (rP (rP Zae (rP rS (rP (rW (HDR none 0 0 0)) (rP (rV 16 (rU UInt64)) (rP (rW (HDR none 0 0 0)) r0))))) (rP (rV 16 (rU UInt64)) (rP (rV 16 (rU UInt64)) (rP (rW (HDR none 0 0 0)) (rP (rW (HDR none 0 0 0)) (rP (rV 32 (rU UInt8)) (rP (rW (HDR none 0 0 0)) (rP (rW (HDR a1 0 (List.length a2) a3)) (rP rB r0))))))))))))) r0))
abbrev zq58 (a0 : Nat) (a1 : Nat) (a2 : Option Nat) (a3 : (List Int)) (a4 : Nat) (a5 : Int) (a6 : Int) (a7 : Int) (a8 : Zah) (a9 : (List UInt8)) (a10 : (Vector UInt64 16)) (a11 : (Vector UInt64 16)) (a12 : (Vector UInt64 16)) (a13 : (Vector UInt8 32)) (a14 : Bool) : ZbE := cvar a0 (zq57 a1 a2 a3 a4) (zq31 a5 a6 a7 a8 a9 a10 a11 a12 a13 a14)
abbrev zq59 (a0 : Nat) (a1 : Option Nat) (a2 : (List Zal)) (a3 : Nat) (a4 : Option Nat) (a5 : (List Int)) (a6 : Nat) := (rP (rW (PTR a0 0)) (rP (rP (rI .i64) (rP (rI .i64) (rP (rI .i64) (rP (rW (HDR a1 0 (List.length a2) a3)) (rP (rP Zae (rP rS (rP (rW (HDR none 0 0 0)) (rP (rV 16 (rU UInt64)) (rP (rW (HDR none 0 0 0)) r0))))) (rP (rV 16 (rU UInt64)) (rP (rV 16 (rU UInt64)) (rP (rW (HDR none 0 0 0)) (rP (rW (HDR none 0 0 0)) (rP (rV 32 (rU UInt8)) (rP (rW (HDR none 0 0 0)) (rP (rW (HDR a4 0 (List.length a5) a6)) (rP rB r0))))))))))))) r0))
abbrev zq60 (a0 : Nat) (a1 : Nat) (a2 : Option Nat) (a3 : (List Zal)) (a4 : Nat) (a5 : Option Nat) (a6 : (List Int)) (a7 : Nat) (a8 : Int) (a9 : Int) (a10 : Int) (a11 : Zah) (a12 : (List UInt8)) (a13 : (Vector UInt64 16)) (a14 : (Vector UInt64 16)) (a15 : (Vector UInt64 16)) (a16 : (Vector UInt8 32)) (a17 : Bool) : ZbE := cvar a0 (zq59 a1 a2 a3 a4 a5 a6 a7) (zq31 a8 a9 a10 a11 a12 a13 a14 a15 a16 a17)
abbrev zq61 (a0 : Nat) (a1 : Option Nat) (a2 : (List Zal)) (a3 : Nat) (a4 : Option Nat) (a5 : (List Zah)) (a6 : Nat) (a7 : Option Nat) (a8 : (List Int)) (a9 : Nat) := (rP (rW (PTR a0 0)) (rP (rP (rI .i64) (rP (rI .i64) (rP (rI .i64) (rP (rW (HDR a1 0 (List.length a2) a3)) (rP (rP Zae (rP rS (rP (rW (HDR none 0 0 0)) (rP (rV 16 (rU UInt64)) (rP (rW (HDR none 0 0 0)) r0))))) (rP (rV 16 (rU UInt64)) (rP (rV 16 (rU UInt64)) (rP (rW (HDR a4 0 (List.length a5) a6)) (rP (rW (HDR none 0 0 0)) (rP (rV 32 (rU UInt8)) (rP (rW (HDR none 0 0 0)) (rP (rW (HDR a7 0 (List.length a8) a9)) (rP rB r0))))))))))))) r0))
abbrev zq62 (a0 : Nat) (a1 : Nat) (a2 : Option Nat) (a3 : (List Zal)) (a4 : Nat) (a5 : Option Nat) (a6 : (List Zah)) (a7 : Nat) (a8 : Option Nat) (a9 : (List Int)) (a10 : Nat) (a11 : Int) (a12 : Int) (a13 : Int) (a14 : Zah) (a15 : (List UInt8)) (a16 : (Vector UInt64 16)) (a17 : (Vector UInt64 16)) (a18 : (Vector UInt64 16)) (a19 : (Vector UInt8 32)) (a20 : Bool) : ZbE := cvar a0 (zq61 a1 a2 a3 a4 a5 a6 a7 a8 a9 a10) (zq31 a11 a12 a13 a14 a15 a16 a17 a18 a19 a20)
abbrev zq63 (a0 : Nat) (a1 : Option Nat) (a2 : (List Zal)) (a3 : Nat) := (rP (rW (PTR a0 0)) (rP (rP (rI .i64) (rP (rI .i64) (rP (rI .i64) (rP (rW (HL a1 Zaj a2 a3)) (rP (rP Zae (rP rS (rP (rW (HDR none 0 0 0)) (rP (rV 16 (rU UInt64)) (rP (rW (HDR none 0 0 0)) r0))))) (rP (rV 16 (rU UInt64)) (rP (rV 16 (rU UInt64)) (rP (rW (HDR none 0 0 0)) (rP (rW (HDR none 0 0 0)) (rP (rV 32 (rU UInt8)) (rP (rW (HDR none 0 0 0)) (rP (rW (HDR none 0 0 0)) (rP rB r0))))))))))))) r0))
abbrev zq64 (a0 : Int) (a1 : Int) (a2 : Int) (a3 : (List Zal)) := ((), ((Zai.mk a0 a1 a2 a3 (Zaq.mk (Zah.mk (0 : Int) (0 : UInt64)) ([] : (List UInt8)) ([] : (List UInt8)) (Vector.replicate 16 (0 : UInt64)) ([] : (List ZaA))) (Vector.replicate 16 (0 : UInt64)) (Vector.replicate 16 (0 : UInt64)) ([] : (List Zah)) ([] : (List Zah)) (Vector.replicate 32 (0 : UInt8)) ([] : (List (Vector UInt8 32))) ([] : (List Int)) false), ()))
abbrev zq65 (a0 : Nat) (a1 : Option Nat) (a2 : (List Zah)) (a3 : Nat) (a4 : Option Nat) (a5 : (List Zah)) (a6 : Nat) := (rP (rW (PTR a0 0)) (rP (rP (rI .i64) (rP (rI .i64) (rP (rI .i64) (rP (rW (HDR none 0 0 0)) (rP (rP Zae (rP rS (rP (rW (HDR none 0 0 0)) (rP (rV 16 (rU UInt64)) (rP (rW (HDR none 0 0 0)) r0))))) (rP (rV 16 (rU UInt64)) (rP (rV 16 (rU UInt64)) (rP (rW (HL a1 Zae a2 a3)) (rP (rW (HDR a4 0 (List.length a5) a6)) (rP (rV 32 (rU UInt8)) (rP (rW (HDR none 0 0 0)) (rP (rW (HDR none 0 0 0)) (rP rB r0))))))))))))) r0))
abbrev zq66 (a0 : Int) (a1 : Int) (a2 : Int) (a3 : (Vector UInt64 16)) := ((), ((a0, (a1, (a2, ((), (((Zah.mk (0 : Int) (0 : UInt64)), (([] : (List UInt8)), ((), ((Vector.replicate 16 (0 : UInt64)), ((), ()))))), ((Vector.replicate 16 (0 : UInt64)), (a3, ((), ((), ((Vector.replicate 32 (0 : UInt8)), ((), ((), (false, ()))))))))))))), ()))
abbrev zq67 (a0 : Nat) (a1 : Option Nat) (a2 : (List Zah)) (a3 : Nat) (a4 : Option Nat) (a5 : (List Zah)) (a6 : Nat) := (rP (rW (PTR a0 0)) (rP (rP (rI .i64) (rP (rI .i64) (rP (rI .i64) (rP (rW (HDR none 0 0 0)) (rP (rP Zae (rP rS (rP (rW (HDR none 0 0 0)) (rP (rV 16 (rU UInt64)) (rP (rW (HDR none 0 0 0)) r0))))) (rP (rV 16 (rU UInt64)) (rP (rV 16 (rU UInt64)) (rP (rW (HL a1 Zae a2 a3)) (rP (rW (HL a4 Zae a5 a6)) (rP (rV 32 (rU UInt8)) (rP (rW (HDR none 0 0 0)) (rP (rW (HDR none 0 0 0)) (rP rB r0))))))))))))) r0))
abbrev zq68 (a0 : Int) (a1 : Int) (a2 : Int) (a3 : (Vector UInt64 16)) (a4 : (List Zah)) (a5 : (List Zah)) := ((), ((Zai.mk a0 a1 a2 ([] : (List Zal)) (Zaq.mk (Zah.mk (0 : Int) (0 : UInt64)) ([] : (List UInt8)) ([] : (List UInt8)) (Vector.replicate 16 (0 : UInt64)) ([] : (List ZaA))) (Vector.replicate 16 (0 : UInt64)) a3 a4 a5 (Vector.replicate 32 (0 : UInt8)) ([] : (List (Vector UInt8 32))) ([] : (List Int)) false), ()))
abbrev zq69 (a0 : Nat) (a1 : Option Nat) (a2 : (List (Vector UInt8 32))) (a3 : Nat) := (rP (rW (PTR a0 0)) (rP (rP (rI .i64) (rP (rI .i64) (rP (rI .i64) (rP (rW (HDR none 0 0 0)) (rP (rP Zae (rP rS (rP (rW (HDR none 0 0 0)) (rP (rV 16 (rU UInt64)) (rP (rW (HDR none 0 0 0)) r0))))) (rP (rV 16 (rU UInt64)) (rP (rV 16 (rU UInt64)) (rP (rW (HDR none 0 0 0)) (rP (rW (HDR none 0 0 0)) (rP (rV 32 (rU UInt8)) (rP (rW (HL a1 (rV 32 (rU UInt8)) a2 a3)) (rP (rW (HDR none 0 0 0)) (rP rB r0))))))))))))) r0))
abbrev zq70 (a0 : Int) (a1 : Int) (a2 : Int) (a3 : (List (Vector UInt8 32))) := ((), ((Zai.mk a0 a1 a2 ([] : (List Zal)) (Zaq.mk (Zah.mk (0 : Int) (0 : UInt64)) ([] : (List UInt8)) ([] : (List UInt8)) (Vector.replicate 16 (0 : UInt64)) ([] : (List ZaA))) (Vector.replicate 16 (0 : UInt64)) (Vector.replicate 16 (0 : UInt64)) ([] : (List Zah)) ([] : (List Zah)) (Vector.replicate 32 (0 : UInt8)) a3 ([] : (List Int)) false), ()))
abbrev zq71 (a0 : Nat) (a1 : Option Nat) (a2 : (List Zal)) (a3 : Nat) (a4 : Option Nat) (a5 : (List Zah)) (a6 : Nat) (a7 : Option Nat) (a8 : (List Int)) (a9 : Nat) := (rP (rW (PTR a0 0)) (rP (rP (rI .i64) (rP (rI .i64) (rP (rI .i64) (rP (rW (HL a1 Zaj a2 a3)) (rP (rP Zae (rP rS (rP (rW (HDR none 0 0 0)) (rP (rV 16 (rU UInt64)) (rP (rW (HDR none 0 0 0)) r0))))) (rP (rV 16 (rU UInt64)) (rP (rV 16 (rU UInt64)) (rP (rW (HDR a4 0 (List.length a5) a6)) (rP (rW (HDR none 0 0 0)) (rP (rV 32 (rU UInt8)) (rP (rW (HDR none 0 0 0)) (rP (rW (HDR a7 0 (List.length a8) a9)) (rP rB r0))))))))))))) r0))
abbrev zq72 (a0 : Int) (a1 : Int) (a2 : Int) (a3 : (Vector UInt64 16)) (a4 : Bool) := ((), ((a0, (a1, (a2, ((), (((Zah.mk (0 : Int) (0 : UInt64)), (([] : (List UInt8)), ((), ((Vector.replicate 16 (0 : UInt64)), ((), ()))))), ((Vector.replicate 16 (0 : UInt64)), (a3, ((), ((), ((Vector.replicate 32 (0 : UInt8)), ((), ((), (a4, ()))))))))))))), ()))
abbrev zq73 (a0 : Nat) (a1 : Option Nat) (a2 : (List Zal)) (a3 : Nat) (a4 : Option Nat) (a5 : (List Zah)) (a6 : Nat) (a7 : Option Nat) (a8 : (List Int)) (a9 : Nat) := (rP (rW (PTR a0 0)) (rP (rP (rI .i64) (rP (rI .i64) (rP (rI .i64) (rP (rW (HL a1 Zaj a2 a3)) (rP (rP Zae (rP rS (rP (rW (HDR none 0 0 0)) (rP (rV 16 (rU UInt64)) (rP (rW (HDR none 0 0 0)) r0))))) (rP (rV 16 (rU UInt64)) (rP (rV 16 (rU UInt64)) (rP (rW (HL a4 Zae a5 a6)) (rP (rW (HDR none 0 0 0)) (rP (rV 32 (rU UInt8)) (rP (rW (HDR none 0 0 0)) (rP (rW (HDR a7 0 (List.length a8) a9)) (rP rB r0))))))))))))) r0))
abbrev zq74 (a0 : Nat) (a1 : Option Nat) (a2 : (List Zal)) (a3 : Nat) (a4 : Option Nat) (a5 : (List Zah)) (a6 : Nat) (a7 : Option Nat) (a8 : (List Int)) (a9 : Nat) := (rP (rW (PTR a0 0)) (rP (rP (rI .i64) (rP (rI .i64) (rP (rI .i64) (rP (rW (HL a1 Zaj a2 a3)) (rP (rP Zae (rP rS (rP (rW (HDR none 0 0 0)) (rP (rV 16 (rU UInt64)) (rP (rW (HDR none 0 0 0)) r0))))) (rP (rV 16 (rU UInt64)) (rP (rV 16 (rU UInt64)) (rP (rW (HL a4 Zae a5 a6)) (rP (rW (HDR none 0 0 0)) (rP (rV 32 (rU UInt8)) (rP (rW (HDR none 0 0 0)) (rP (rW (HL a7 (rI .i64) a8 a9)) (rP rB r0))))))))))))) r0))
abbrev zq75 (a0 : Int) (a1 : Int) (a2 : Int) (a3 : (List Zal)) (a4 : (Vector UInt64 16)) (a5 : (List Zah)) (a6 : (List Int)) (a7 : Bool) := ((), ((Zai.mk a0 a1 a2 a3 (Zaq.mk (Zah.mk (0 : Int) (0 : UInt64)) ([] : (List UInt8)) ([] : (List UInt8)) (Vector.replicate 16 (0 : UInt64)) ([] : (List ZaA))) (Vector.replicate 16 (0 : UInt64)) a4 a5 ([] : (List Zah)) (Vector.replicate 32 (0 : UInt8)) ([] : (List (Vector UInt8 32))) a6 a7), ()))
abbrev zq76 (a0 : Int) (a1 : Int) (a2 : Int) := ((), ((Zai.mk a0 a1 a2 ([] : (List Zal)) (Zaq.mk (Zah.mk (0 : Int) (0 : UInt64)) ([] : (List UInt8)) ([] : (List UInt8)) (Vector.replicate 16 (0 : UInt64)) ([] : (List ZaA))) (Vector.replicate 16 (0 : UInt64)) (Vector.replicate 16 (0 : UInt64)) ([] : (List Zah)) ([] : (List Zah)) (Vector.replicate 32 (0 : UInt8)) ([] : (List (Vector UInt8 32))) ([] : (List Int)) false), ()))
abbrev zq77 := ((5 : Int), ((1 : Int), ((1 : Int), ((), (((Zah.mk (0 : Int) (0 : UInt64)), (([] : (List UInt8)), ((), ((Vector.replicate 16 (0 : UInt64)), ((), ()))))), ((Vector.replicate 16 (0 : UInt64)), ((Vector.replicate 16 (0 : UInt64)), ((), ((), ((Vector.replicate 32 (0 : UInt8)), ((), ((), (false, ())))))))))))))
theorem Zcj : Tryz.prog.follows .mixedOrders = true := by kernel_rfl
theorem zr39 : Zr zq0 zq1 (Value.cells (.agg #[.int .i64 0, .int .i64 0, .int .i64 0, .slice none 0 0, .int .i64 0, .int .u64 0, .string ⟨#[]⟩, .slice none 0 0, .int .u64 0, .int .u64 0, .int .u64 0, .int .u64 0, .int .u64 0, .int .u64 0, .int .u64 0, .int .u64 0, .int .u64 0, .int .u64 0, .int .u64 0, .int .u64 0, .int .u64 0, .int .u64 0, .int .u64 0, .int .u64 0, .slice none 0 0, .int .u64 0, .int .u64 0, .int .u64 0, .int .u64 0, .int .u64 0, .int .u64 0, .int .u64 0, .int .u64 0, .int .u64 0, .int .u64 0, .int .u64 0, .int .u64 0, .int .u64 0, .int .u64 0, .int .u64 0, .int .u64 0, .int .u64 0, .int .u64 0, .int .u64 0, .int .u64 0, .int .u64 0, .int .u64 0, .int .u64 0, .int .u64 0, .int .u64 0, .int .u64 0, .int .u64 0, .int .u64 0, .int .u64 0, .int .u64 0, .int .u64 0, .int .u64 0, .slice none 0 0, .slice none 0 0, .int .u8 0, .int .u8 0, .int .u8 0, .int .u8 0, .int .u8 0, .int .u8 0, .int .u8 0, .int .u8 0, .int .u8 0, .int .u8 0, .int .u8 0, .int .u8 0, .int .u8 0, .int .u8 0, .int .u8 0, .int .u8 0, .int .u8 0, .int .u8 0, .int .u8 0, .int .u8 0, .int .u8 0, .int .u8 0, .int .u8 0, .int .u8 0, .int .u8 0, .int .u8 0, .int .u8 0, .int .u8 0, .int .u8 0, .int .u8 0, .int .u8 0, .int .u8 0, .slice none 0 0, .slice none 0 0, .bool false])).toList := (Zr.two (Zr.int _ _) (Zr.two (Zr.int _ _) (Zr.two (Zr.int _ _) (Zr.two (Zr.w (v := .slice none 0 0) rfl) (Zr.two (Zr.two (Zr.map (Zr.two (Zr.int _ _) (Zr.two (Zr.u _ rfl rfl) Zr.unit rfl) rfl)) (Zr.two (Zr.str rfl) (Zr.two (Zr.w (v := .slice none 0 0) rfl) (Zr.two (Zr.vec (Zr.u _ rfl rfl) rfl) (Zr.two (Zr.w (v := .slice none 0 0) rfl) Zr.unit rfl) rfl) rfl) rfl) rfl) (Zr.two (Zr.vec (Zr.u _ rfl rfl) rfl) (Zr.two (Zr.vec (Zr.u _ rfl rfl) rfl) (Zr.two (Zr.w (v := .slice none 0 0) rfl) (Zr.two (Zr.w (v := .slice none 0 0) rfl) (Zr.two (Zr.vec (Zr.u _ rfl rfl) rfl) (Zr.two (Zr.w (v := .slice none 0 0) rfl) (Zr.two (Zr.w (v := .slice none 0 0) rfl) (Zr.two (Zr.bool _) Zr.unit rfl) rfl) rfl) rfl) rfl) rfl) rfl) rfl) rfl) rfl) rfl) rfl) rfl)
theorem tZ39 : tyZ Tryz.prog 39 (.agg #[.int .i64 0, .int .i64 0, .int .i64 0, .slice none 0 0, .int .i64 0, .int .u64 0, .string ⟨#[]⟩, .slice none 0 0, .int .u64 0, .int .u64 0, .int .u64 0, .int .u64 0, .int .u64 0, .int .u64 0, .int .u64 0, .int .u64 0, .int .u64 0, .int .u64 0, .int .u64 0, .int .u64 0, .int .u64 0, .int .u64 0, .int .u64 0, .int .u64 0, .slice none 0 0, .int .u64 0, .int .u64 0, .int .u64 0, .int .u64 0, .int .u64 0, .int .u64 0, .int .u64 0, .int .u64 0, .int .u64 0, .int .u64 0, .int .u64 0, .int .u64 0, .int .u64 0, .int .u64 0, .int .u64 0, .int .u64 0, .int .u64 0, .int .u64 0, .int .u64 0, .int .u64 0, .int .u64 0, .int .u64 0, .int .u64 0, .int .u64 0, .int .u64 0, .int .u64 0, .int .u64 0, .int .u64 0, .int .u64 0, .int .u64 0, .int .u64 0, .int .u64 0, .slice none 0 0, .slice none 0 0, .int .u8 0, .int .u8 0, .int .u8 0, .int .u8 0, .int .u8 0, .int .u8 0, .int .u8 0, .int .u8 0, .int .u8 0, .int .u8 0, .int .u8 0, .int .u8 0, .int .u8 0, .int .u8 0, .int .u8 0, .int .u8 0, .int .u8 0, .int .u8 0, .int .u8 0, .int .u8 0, .int .u8 0, .int .u8 0, .int .u8 0, .int .u8 0, .int .u8 0, .int .u8 0, .int .u8 0, .int .u8 0, .int .u8 0, .int .u8 0, .int .u8 0, .int .u8 0, .slice none 0 0, .slice none 0 0, .bool false]) := by unfold tyZ; kernel_rfl
theorem tp39 : tyPl Tryz.prog 39 [(0, 1), (1, 1), (2, 1), (3, 1), (4, 21), (25, 16), (41, 16), (57, 1), (58, 1), (59, 32), (91, 1), (92, 1), (93, 1)] := by unfold tyPl; kernel_rfl
theorem tA39 : tyA Tryz.prog 39 94 = true := by kernel_rfl
theorem ZgR : tyF Tryz.prog 39 1 1 = true := by kernel_rfl
theorem tS3 : tyS Tryz.prog 3 = true := by kernel_rfl
theorem ZgC : tyF Tryz.prog 39 2 2 = true := by kernel_rfl
theorem Zgg : tyF Tryz.prog 39 0 0 = true := by kernel_rfl
theorem tS22 : tyS Tryz.prog 22 = true := by kernel_rfl
theorem ZdJ : tyF Tryz.prog 39 3 3 = true := by kernel_rfl
theorem tS23 : tyS Tryz.prog 23 = true := by kernel_rfl
theorem Zgi : tyF Tryz.prog 39 4 4 = true := by kernel_rfl
theorem tA32 : tyA Tryz.prog 32 21 = true := by kernel_rfl
theorem Zg3 : tyF Tryz.prog 39 5 25 = true := by kernel_rfl
theorem tA29 : tyA Tryz.prog 29 16 = true := by kernel_rfl
theorem Zfw : tyF Tryz.prog 39 6 41 = true := by kernel_rfl
theorem Ze1 : tyF Tryz.prog 39 7 57 = true := by kernel_rfl
theorem tS33 : tyS Tryz.prog 33 = true := by kernel_rfl
theorem Zfr : tyF Tryz.prog 39 8 58 = true := by kernel_rfl
theorem Zhn : tyF Tryz.prog 39 9 59 = true := by kernel_rfl
theorem tA35 : tyA Tryz.prog 35 32 = true := by kernel_rfl
theorem ZdM : tyF Tryz.prog 39 10 91 = true := by kernel_rfl
theorem tS36 : tyS Tryz.prog 36 = true := by kernel_rfl
theorem Zdj : tyF Tryz.prog 39 11 92 = true := by kernel_rfl
theorem tS37 : tyS Tryz.prog 37 = true := by kernel_rfl
theorem ZfN : tyF Tryz.prog 39 12 93 = true := by kernel_rfl
theorem tS4 : tyS Tryz.prog 4 = true := by kernel_rfl
theorem cl28 : Zav Tryz.prog 28 = true := by kernel_rfl
theorem tu24 : Program.underlying Tryz.prog 24 = some (.int .u64) := by kernel_rfl
theorem tu29 : Program.underlying Tryz.prog 29 = some (.array 16 24) := by kernel_rfl
theorem tS24 : tyS Tryz.prog 24 = true := by kernel_rfl
theorem qa29 : EqA Tryz.prog 2 29 (rV 16 (rU UInt64)) (eqV (fun x y => x == y)) := EqA.arrS tu29 tS24 rfl (EqS.u (U := UInt64) tu24)
theorem ng29 : ZeO Tryz.prog 29 = true := by kernel_rfl
theorem tu5 : Program.underlying Tryz.prog 5 = some (.int .u8) := by kernel_rfl
theorem tu35 : Program.underlying Tryz.prog 35 = some (.array 32 5) := by kernel_rfl
theorem tS5 : tyS Tryz.prog 5 = true := by kernel_rfl
theorem qa35 : EqA Tryz.prog 2 35 (rV 32 (rU UInt8)) (eqV (fun x y => x == y)) := EqA.arrS tu35 tS5 rfl (EqS.u (U := UInt8) tu5)
theorem ng35 : ZeO Tryz.prog 35 = true := by kernel_rfl
theorem tu4 : Program.underlying Tryz.prog 4 = some .bool := by kernel_rfl
theorem tu23 : Program.underlying Tryz.prog 23 = some (.slice 62) := by kernel_rfl
theorem tz62 : tySz Tryz.prog 62 5 = true := by kernel_rfl
theorem tA62 : tyA Tryz.prog 62 5 = true := by kernel_rfl
theorem tu3 : Program.underlying Tryz.prog 3 = some (.int .i64) := by kernel_rfl
theorem tu26 : Program.underlying Tryz.prog 26 = some (.struct (Program.fieldsOf Tryz.prog 26)) := by kernel_rfl
theorem fl26 : (Program.fieldsOf Tryz.prog 26).toList = [{ name := "Region", type := 3, offset := 0, embedded := false, tag := "", pkgPath := "", byteOffset := 0 }, { name := "Count", type := 24, offset := 1, embedded := false, tag := "", pkgPath := "", byteOffset := 8 }] := by kernel_rfl
theorem nh26 : Zg9 Tryz.prog 26 = true := by kernel_rfl
theorem qa26 : EqA Tryz.prog 2 26 Zae ZcS := EqA.struct tu26 nh26 (by rw [fl26]; exact (EqF.consS (by decide) rfl tS3 rfl (EqS.int tu3) (EqF.consS (by decide) rfl tS24 rfl (EqS.u (U := UInt64) tu24) EqF.nil))) (fun _ _ => rfl)
theorem tu9 : Program.underlying Tryz.prog 9 = some .string := by kernel_rfl
theorem tS9 : tyS Tryz.prog 9 = true := by kernel_rfl
theorem tu60 : Program.underlying Tryz.prog 60 = some (.struct (Program.fieldsOf Tryz.prog 60)) := by kernel_rfl
theorem fl60 : (Program.fieldsOf Tryz.prog 60).toList = [{ name := "Topic", type := 9, offset := 0, embedded := false, tag := "", pkgPath := "", byteOffset := 0 }, { name := "Device", type := 9, offset := 1, embedded := false, tag := "", pkgPath := "", byteOffset := 16 }] := by kernel_rfl
theorem nh60 : Zg9 Tryz.prog 60 = true := by kernel_rfl
theorem qa60 : EqA Tryz.prog 2 60 ZcJ Zef := EqA.struct tu60 nh60 (by rw [fl60]; exact (EqF.consS (by decide) rfl tS9 rfl (EqS.str tu9) (EqF.consS (by decide) rfl tS9 rfl (EqS.str tu9) EqF.nil))) (fun _ _ => rfl)
theorem tA60 : tyA Tryz.prog 60 2 = true := by kernel_rfl
theorem tA26 : tyA Tryz.prog 26 2 = true := by kernel_rfl
theorem tu62 : Program.underlying Tryz.prog 62 = some (.struct (Program.fieldsOf Tryz.prog 62)) := by kernel_rfl
theorem fl62 : (Program.fieldsOf Tryz.prog 62).toList = [{ name := "Dot", type := 26, offset := 0, embedded := false, tag := "", pkgPath := "", byteOffset := 0 }, { name := "Key", type := 60, offset := 2, embedded := false, tag := "", pkgPath := "", byteOffset := 16 }, { name := "Gone", type := 4, offset := 4, embedded := false, tag := "", pkgPath := "", byteOffset := 48 }] := by kernel_rfl
theorem nh62 : Zg9 Tryz.prog 62 = true := by kernel_rfl
theorem qa62 : EqA Tryz.prog 3 62 Zaj ZdQ := EqA.struct tu62 nh62 (by rw [fl62]; exact (EqF.consA (by decide) rfl tA26 rfl qa26 (EqF.consA (by decide) rfl tA60 rfl qa60 (EqF.consS (by decide) rfl tS4 rfl ((EqS.bool tu4).mono (by decide)) EqF.nil)))) (fun _ _ => rfl)
theorem ng62 : ZeO Tryz.prog 62 = true := by kernel_rfl
theorem cl66 : Zav Tryz.prog 66 = true := by kernel_rfl
theorem tu33 : Program.underlying Tryz.prog 33 = some (.slice 26) := by kernel_rfl
theorem tz26 : tySz Tryz.prog 26 2 = true := by kernel_rfl
theorem ng26 : ZeO Tryz.prog 26 = true := by kernel_rfl
theorem cl67 : Zav Tryz.prog 67 = true := by kernel_rfl
theorem tu36 : Program.underlying Tryz.prog 36 = some (.slice 35) := by kernel_rfl
theorem tz35 : tySz Tryz.prog 35 32 = true := by kernel_rfl
theorem cl68 : Zav Tryz.prog 68 = true := by kernel_rfl
theorem tu37 : Program.underlying Tryz.prog 37 = some (.slice 3) := by kernel_rfl
theorem tz3 : tySz Tryz.prog 3 1 = true := by kernel_rfl
theorem cl69 : Zav Tryz.prog 69 = true := by kernel_rfl
theorem Zgd : tyF Tryz.prog 32 0 0 = true := by kernel_rfl
theorem ZhV : tyF Tryz.prog 32 1 2 = true := by kernel_rfl
theorem ZhJ : tyF Tryz.prog 32 2 3 = true := by kernel_rfl
theorem tS27 : tyS Tryz.prog 27 = true := by kernel_rfl
theorem tu27 : Program.underlying Tryz.prog 27 = some (.slice 5) := by kernel_rfl
theorem tz5 : tySz Tryz.prog 5 1 = true := by kernel_rfl
theorem cl55 : Zav Tryz.prog 55 = true := by kernel_rfl
theorem ZgO : tyF Tryz.prog 32 3 4 = true := by kernel_rfl
theorem ZdW : tyF Tryz.prog 32 4 20 = true := by kernel_rfl
theorem tS30 : tyS Tryz.prog 30 = true := by kernel_rfl
theorem tu30 : Program.underlying Tryz.prog 30 = some (.slice 125) := by kernel_rfl
theorem ZiU : tySz Tryz.prog 125 3 = true := by kernel_rfl
theorem Zje : tyA Tryz.prog 125 3 = true := by kernel_rfl
theorem ZnQ : Program.underlying Tryz.prog 125 = some (.struct (Program.fieldsOf Tryz.prog 125)) := by kernel_rfl
theorem Zoj : (Program.fieldsOf Tryz.prog 125).toList = [{ name := "Dot", type := 26, offset := 0, embedded := false, tag := "", pkgPath := "", byteOffset := 0 }, { name := "Device", type := 9, offset := 2, embedded := false, tag := "", pkgPath := "", byteOffset := 16 }] := by kernel_rfl
theorem Zpc : Zg9 Tryz.prog 125 = true := by kernel_rfl
theorem ZoC : EqA Tryz.prog 3 125 Zat ZdP := EqA.struct ZnQ Zpc (by rw [Zoj]; exact (EqF.consA (by decide) rfl tA26 rfl qa26 (EqF.consS (by decide) rfl tS9 rfl ((EqS.str tu9).mono (by decide)) EqF.nil))) (fun _ _ => rfl)
theorem ZnW : ZeO Tryz.prog 125 = true := by kernel_rfl
theorem ZoR : Zav Tryz.prog 110 = true := by kernel_rfl
theorem cl70 : Zav Tryz.prog 70 = true := by kernel_rfl
theorem cl18 : Zav Tryz.prog 18 = true := by kernel_rfl
theorem Zjm : tyF Tryz.prog 62 2 4 = true := by kernel_rfl
theorem Zjr : tyF Tryz.prog 62 0 0 = true := by kernel_rfl
theorem Zeq : tyF Tryz.prog 26 0 0 = true := by kernel_rfl
theorem Zft : tyF Tryz.prog 26 1 1 = true := by kernel_rfl
theorem cl34 : Zav Tryz.prog 34 = true := by kernel_rfl
theorem ZgH : tyF Tryz.prog 62 1 2 = true := by kernel_rfl
theorem zv60 : Zr ZcJ (Zbs.mk ([] : (List UInt8)) ([] : (List UInt8))) (Value.cells (.agg #[.string ⟨#[]⟩, .string ⟨#[]⟩])).toList := (Zr.map (Zr.two (Zr.str rfl) (Zr.two (Zr.str rfl) Zr.unit rfl) rfl))
theorem tZ60 : tyZ Tryz.prog 60 (.agg #[.string ⟨#[]⟩, .string ⟨#[]⟩]) := by unfold tyZ; kernel_rfl
theorem tp60 : tyPl Tryz.prog 60 [(0, 1), (1, 1)] := by unfold tyPl; kernel_rfl
theorem ng60 : ZeO Tryz.prog 60 = true := by kernel_rfl
theorem ZlY : tyF Tryz.prog 60 0 0 = true := by kernel_rfl
theorem cl71 : Zav Tryz.prog 71 = true := by kernel_rfl
theorem ZlR : tyF Tryz.prog 60 1 1 = true := by kernel_rfl
theorem cl20 : Zav Tryz.prog 20 = true := by kernel_rfl
theorem cl81 : Zav Tryz.prog 81 = true := by kernel_rfl
theorem ZoM : Zav Tryz.prog 111 = true := by kernel_rfl
theorem cl73 : Zav Tryz.prog 73 = true := by kernel_rfl
theorem cl30 : Zav Tryz.prog 30 = true := by kernel_rfl
theorem cl82 : Zav Tryz.prog 82 = true := by kernel_rfl
theorem tz24 : tySz Tryz.prog 24 1 = true := by kernel_rfl
theorem tu71 : Program.underlying Tryz.prog 71 = some (.slice 24) := by kernel_rfl
theorem ZoQ : Zav Tryz.prog 116 = true := by kernel_rfl
theorem cl85 : Zav Tryz.prog 85 = true := by kernel_rfl
theorem cl32 : Zav Tryz.prog 32 = true := by kernel_rfl
theorem cl83 : Zav Tryz.prog 83 = true := by kernel_rfl
theorem tr29 : tyAr Tryz.prog 29 16 1 = true := by kernel_rfl
theorem Zmx : tyZ Tryz.prog 125 (.agg #[.int .i64 0, .int .u64 0, .string ⟨#[]⟩]) := by unfold tyZ; kernel_rfl
theorem Zoq : Zr Zat (ZaA.mk (Zah.mk (0 : Int) (0 : UInt64)) ([] : (List UInt8))) (Value.cells (.agg #[.int .i64 0, .int .u64 0, .string ⟨#[]⟩])).toList := (Zr.map (Zr.two (Zr.map (Zr.two (Zr.int _ _) (Zr.two (Zr.u _ rfl rfl) Zr.unit rfl) rfl)) (Zr.two (Zr.str rfl) Zr.unit rfl) rfl))
theorem Zi2 : tyF Tryz.prog 125 0 0 = true := by kernel_rfl
theorem ZjR : tyF Tryz.prog 125 1 2 = true := by kernel_rfl
theorem ZnU : Zav Tryz.prog 142 = true := by kernel_rfl
theorem Zoe : Zav Tryz.prog 118 = true := by kernel_rfl
theorem ZnN : Zav Tryz.prog 143 = true := by kernel_rfl
theorem Zoi : Zav Tryz.prog 119 = true := by kernel_rfl
theorem tZ3 : tyZ Tryz.prog 3 (.int .i64 0) := by unfold tyZ; kernel_rfl
theorem Zn9 : Zav Tryz.prog 117 = true := by kernel_rfl
theorem cl84 : Zav Tryz.prog 84 = true := by kernel_rfl
theorem cl31 : Zav Tryz.prog 31 = true := by kernel_rfl
theorem cl33 : Zav Tryz.prog 33 = true := by kernel_rfl
theorem tZ26 : tyZ Tryz.prog 26 (.agg #[.int .i64 0, .int .u64 0]) := by unfold tyZ; kernel_rfl
theorem zr26 : Zr Zae (Zah.mk (0 : Int) (0 : UInt64)) (Value.cells (.agg #[.int .i64 0, .int .u64 0])).toList := (Zr.map (Zr.two (Zr.int _ _) (Zr.two (Zr.u _ rfl rfl) Zr.unit rfl) rfl))
theorem cl29 : Zav Tryz.prog 29 = true := by kernel_rfl
theorem cl86 : Zav Tryz.prog 86 = true := by kernel_rfl
theorem cl35 : Zav Tryz.prog 35 = true := by kernel_rfl
theorem tB26 : tyB Tryz.prog 26 2 16 (.agg #[.int .i64 0, .int .u64 0]) := tyB.of (by kernel_rfl)
theorem Zpo : Zav Tryz.prog 120 = true := by kernel_rfl
theorem Zo6 : Zr zq17 ((Vector.replicate 16 (0 : UInt64)), ((), (false, ()))) (Value.cells (.agg #[.int .u64 0, .int .u64 0, .int .u64 0, .int .u64 0, .int .u64 0, .int .u64 0, .int .u64 0, .int .u64 0, .int .u64 0, .int .u64 0, .int .u64 0, .int .u64 0, .int .u64 0, .int .u64 0, .int .u64 0, .int .u64 0, .slice none 0 0, .bool false])).toList := (Zr.two (Zr.vec (Zr.u _ rfl rfl) rfl) (Zr.two (Zr.w (v := .slice none 0 0) rfl) (Zr.two (Zr.bool _) Zr.unit rfl) rfl) rfl)
theorem Zpe : tyZ Tryz.prog 159 (.agg #[.int .u64 0, .int .u64 0, .int .u64 0, .int .u64 0, .int .u64 0, .int .u64 0, .int .u64 0, .int .u64 0, .int .u64 0, .int .u64 0, .int .u64 0, .int .u64 0, .int .u64 0, .int .u64 0, .int .u64 0, .int .u64 0, .slice none 0 0, .bool false]) := by unfold tyZ; kernel_rfl
theorem ZoS : tyPl Tryz.prog 159 [(0, 16), (16, 1), (17, 1)] := by unfold tyPl; kernel_rfl
theorem cl87 : Zav Tryz.prog 87 = true := by kernel_rfl
theorem cl36 : Zav Tryz.prog 36 = true := by kernel_rfl
theorem tZ62 : tyZ Tryz.prog 62 (.agg #[.int .i64 0, .int .u64 0, .string ⟨#[]⟩, .string ⟨#[]⟩, .bool false]) := by unfold tyZ; kernel_rfl
theorem zr62 : Zr Zaj (Zal.mk (Zah.mk (0 : Int) (0 : UInt64)) (Zbs.mk ([] : (List UInt8)) ([] : (List UInt8))) false) (Value.cells (.agg #[.int .i64 0, .int .u64 0, .string ⟨#[]⟩, .string ⟨#[]⟩, .bool false])).toList := (Zr.map (Zr.two (Zr.map (Zr.two (Zr.int _ _) (Zr.two (Zr.u _ rfl rfl) Zr.unit rfl) rfl)) (Zr.two (Zr.map (Zr.two (Zr.str rfl) (Zr.two (Zr.str rfl) Zr.unit rfl) rfl)) (Zr.two (Zr.bool _) Zr.unit rfl) rfl) rfl))
theorem cl11 : Zav Tryz.prog 11 = true := by kernel_rfl
theorem tu22 : Program.underlying Tryz.prog 22 = some (.int .i64) := by kernel_rfl
theorem tZ5 : tyZ Tryz.prog 5 (.int .u8 0) := by unfold tyZ; kernel_rfl
theorem Zpm : Zr (rP (rW (HDR none 0 0 0)) r0) ((), ()) (Value.cells (.agg #[.slice none 0 0])).toList := (Zr.two (Zr.w (v := .slice none 0 0) rfl) Zr.unit rfl)
theorem ZoY : tyZ Tryz.prog 119 (.agg #[.slice none 0 0]) := by unfold tyZ; kernel_rfl
theorem ZoK : tyPl Tryz.prog 119 [(0, 1)] := by unfold tyPl; kernel_rfl
theorem zs95 : Zr (rP rFn (rP rFn r0)) zq19 (Value.cells (.agg #[.nilFunc, .nilFunc])).toList := (Zr.two Zr.fn (Zr.two Zr.fn Zr.unit rfl) rfl)
theorem tZ95 : tyZ Tryz.prog 95 (.agg #[.nilFunc, .nilFunc]) := by unfold tyZ; kernel_rfl
theorem tp95 : tyPl Tryz.prog 95 [(0, 1), (1, 1)] := by unfold tyPl; kernel_rfl
theorem tu97 : Program.underlying Tryz.prog 97 = some (.map 22 95) := by kernel_rfl
theorem ky22 : KeyT Tryz.prog 22 (S (rI .i64)) := KeyT.int tu22
theorem cl54 : Zav Tryz.prog 54 = true := by kernel_rfl
theorem zv95 : Zr ZaG (Zaf.mk (none : Option Nat) (none : Option Nat)) (Value.cells (.agg #[.nilFunc, .nilFunc])).toList := (Zr.map (Zr.two Zr.fn (Zr.two Zr.fn Zr.unit rfl) rfl))
theorem Zou : tyFd Tryz.prog 95 0 0 (tyS Tryz.prog) = true := by kernel_rfl
theorem tB5 : tyB Tryz.prog 5 1 1 (.int .u8 0) := tyB.of (by kernel_rfl)
theorem cl79 : Zav Tryz.prog 79 = true := by kernel_rfl
theorem ZcW : tyF Tryz.prog 119 0 0 = true := by kernel_rfl
theorem cl78 : Zav Tryz.prog 78 = true := by kernel_rfl
theorem Zl2 : Zav Tryz.prog 112 = true := by kernel_rfl
theorem Zn5 : Zav Tryz.prog 113 = true := by kernel_rfl
theorem Zlw : Zav Tryz.prog 114 = true := by kernel_rfl
theorem cl75 : Zav Tryz.prog 75 = true := by kernel_rfl
theorem cl92 : Zav Tryz.prog 92 = true := by kernel_rfl
theorem tZ27 : tyZ Tryz.prog 27 (.slice none 0 0) := by unfold tyZ; kernel_rfl
theorem zr27 : Zr (rW (HDR none 0 0 0)) () (Value.cells (.slice none 0 0)).toList := (Zr.w (v := .slice none 0 0) rfl)
theorem ZjQ : Zav Tryz.prog 149 = true := by kernel_rfl
theorem Zm8 : Zav Tryz.prog 129 = true := by kernel_rfl
theorem ZnS : Zav Tryz.prog 145 = true := by kernel_rfl
theorem Zpj : Zav Tryz.prog 126 = true := by kernel_rfl
theorem cl94 : Zav Tryz.prog 94 = true := by kernel_rfl
theorem cl96 : Zav Tryz.prog 96 = true := by kernel_rfl
theorem Zoc : Zav Tryz.prog 132 = true := by kernel_rfl
theorem Zox : Zav Tryz.prog 131 = true := by kernel_rfl
theorem cl98 : Zav Tryz.prog 98 = true := by kernel_rfl
theorem Zpf : Zav Tryz.prog 100 = true := by kernel_rfl
theorem tZ35 : tyZ Tryz.prog 35 (.agg #[.int .u8 0, .int .u8 0, .int .u8 0, .int .u8 0, .int .u8 0, .int .u8 0, .int .u8 0, .int .u8 0, .int .u8 0, .int .u8 0, .int .u8 0, .int .u8 0, .int .u8 0, .int .u8 0, .int .u8 0, .int .u8 0, .int .u8 0, .int .u8 0, .int .u8 0, .int .u8 0, .int .u8 0, .int .u8 0, .int .u8 0, .int .u8 0, .int .u8 0, .int .u8 0, .int .u8 0, .int .u8 0, .int .u8 0, .int .u8 0, .int .u8 0, .int .u8 0]) := by unfold tyZ; kernel_rfl
theorem zr35 : Zr (rV 32 (rU UInt8)) (Vector.replicate 32 (0 : UInt8)) (Value.cells (.agg #[.int .u8 0, .int .u8 0, .int .u8 0, .int .u8 0, .int .u8 0, .int .u8 0, .int .u8 0, .int .u8 0, .int .u8 0, .int .u8 0, .int .u8 0, .int .u8 0, .int .u8 0, .int .u8 0, .int .u8 0, .int .u8 0, .int .u8 0, .int .u8 0, .int .u8 0, .int .u8 0, .int .u8 0, .int .u8 0, .int .u8 0, .int .u8 0, .int .u8 0, .int .u8 0, .int .u8 0, .int .u8 0, .int .u8 0, .int .u8 0, .int .u8 0, .int .u8 0])).toList := (Zr.vec (Zr.u _ rfl rfl) rfl)
theorem ZoZ : Zav Tryz.prog 102 = true := by kernel_rfl
theorem Zpi : Zav Tryz.prog 104 = true := by kernel_rfl
theorem tu77 : Program.underlying Tryz.prog 77 = some (.slice 27) := by kernel_rfl
theorem tz27 : tySz Tryz.prog 27 1 = true := by kernel_rfl
theorem ZnV : tyZ Tryz.prog 171 (.agg #[.int .u32 0, .int .u32 0, .int .u32 0, .int .u32 0, .int .u32 0, .int .u32 0, .int .u32 0, .int .u32 0, .int .u32 0, .int .u32 0, .int .u32 0, .int .u32 0, .int .u32 0, .int .u32 0, .int .u32 0, .int .u32 0]) := by unfold tyZ; kernel_rfl
theorem Zow : Zr (rV 16 (rU UInt32)) (Vector.replicate 16 (0 : UInt32)) (Value.cells (.agg #[.int .u32 0, .int .u32 0, .int .u32 0, .int .u32 0, .int .u32 0, .int .u32 0, .int .u32 0, .int .u32 0, .int .u32 0, .int .u32 0, .int .u32 0, .int .u32 0, .int .u32 0, .int .u32 0, .int .u32 0, .int .u32 0])).toList := (Zr.vec (Zr.u _ rfl rfl) rfl)
theorem Znx : tyAr Tryz.prog 171 16 1 = true := by kernel_rfl
theorem tS84 : tyS Tryz.prog 84 = true := by kernel_rfl
theorem Zl8 : tyA Tryz.prog 171 16 = true := by kernel_rfl
theorem Zph : Zav Tryz.prog 141 = true := by kernel_rfl
theorem tu84 : Program.underlying Tryz.prog 84 = some (.int .u32) := by kernel_rfl
theorem Zo0 : Zav Tryz.prog 115 = true := by kernel_rfl
theorem cl80 : Zav Tryz.prog 80 = true := by kernel_rfl
theorem cl27 : Zav Tryz.prog 27 = true := by kernel_rfl
theorem cl10 : Zav Tryz.prog 10 = true := by kernel_rfl
theorem cl89 : Zav Tryz.prog 89 = true := by kernel_rfl
theorem ZnA : Zr zq23 ((), (false, (false, ()))) (Value.cells (.agg #[.slice none 0 0, .bool false, .bool false])).toList := (Zr.two (Zr.w (v := .slice none 0 0) rfl) (Zr.two (Zr.bool _) (Zr.two (Zr.bool _) Zr.unit rfl) rfl) rfl)
theorem ZnF : tyZ Tryz.prog 138 (.agg #[.slice none 0 0, .bool false, .bool false]) := by unfold tyZ; kernel_rfl
theorem Zm1 : tyPl Tryz.prog 138 [(0, 1), (1, 1), (2, 1)] := by unfold tyPl; kernel_rfl
theorem cl52 : Zav Tryz.prog 52 = true := by kernel_rfl
theorem zr90 : Zr zq24 zq25 (Value.cells (.agg #[.pointer none, .int .i64 0, .int .i64 0, .int .i64 0, .slice none 0 0, .int .i64 0, .int .u64 0, .string ⟨#[]⟩, .slice none 0 0, .int .u64 0, .int .u64 0, .int .u64 0, .int .u64 0, .int .u64 0, .int .u64 0, .int .u64 0, .int .u64 0, .int .u64 0, .int .u64 0, .int .u64 0, .int .u64 0, .int .u64 0, .int .u64 0, .int .u64 0, .int .u64 0, .slice none 0 0, .int .u64 0, .int .u64 0, .int .u64 0, .int .u64 0, .int .u64 0, .int .u64 0, .int .u64 0, .int .u64 0, .int .u64 0, .int .u64 0, .int .u64 0, .int .u64 0, .int .u64 0, .int .u64 0, .int .u64 0, .int .u64 0, .int .u64 0, .int .u64 0, .int .u64 0, .int .u64 0, .int .u64 0, .int .u64 0, .int .u64 0, .int .u64 0, .int .u64 0, .int .u64 0, .int .u64 0, .int .u64 0, .int .u64 0, .int .u64 0, .int .u64 0, .int .u64 0, .slice none 0 0, .slice none 0 0, .int .u8 0, .int .u8 0, .int .u8 0, .int .u8 0, .int .u8 0, .int .u8 0, .int .u8 0, .int .u8 0, .int .u8 0, .int .u8 0, .int .u8 0, .int .u8 0, .int .u8 0, .int .u8 0, .int .u8 0, .int .u8 0, .int .u8 0, .int .u8 0, .int .u8 0, .int .u8 0, .int .u8 0, .int .u8 0, .int .u8 0, .int .u8 0, .int .u8 0, .int .u8 0, .int .u8 0, .int .u8 0, .int .u8 0, .int .u8 0, .int .u8 0, .int .u8 0, .slice none 0 0, .slice none 0 0, .bool false])).toList := (Zr.two (Zr.w (v := .pointer none) rfl) (Zr.two (Zr.two (Zr.int _ _) (Zr.two (Zr.int _ _) (Zr.two (Zr.int _ _) (Zr.two (Zr.w (v := .slice none 0 0) rfl) (Zr.two (Zr.two (Zr.map (Zr.two (Zr.int _ _) (Zr.two (Zr.u _ rfl rfl) Zr.unit rfl) rfl)) (Zr.two (Zr.str rfl) (Zr.two (Zr.w (v := .slice none 0 0) rfl) (Zr.two (Zr.vec (Zr.u _ rfl rfl) rfl) (Zr.two (Zr.w (v := .slice none 0 0) rfl) Zr.unit rfl) rfl) rfl) rfl) rfl) (Zr.two (Zr.vec (Zr.u _ rfl rfl) rfl) (Zr.two (Zr.vec (Zr.u _ rfl rfl) rfl) (Zr.two (Zr.w (v := .slice none 0 0) rfl) (Zr.two (Zr.w (v := .slice none 0 0) rfl) (Zr.two (Zr.vec (Zr.u _ rfl rfl) rfl) (Zr.two (Zr.w (v := .slice none 0 0) rfl) (Zr.two (Zr.w (v := .slice none 0 0) rfl) (Zr.two (Zr.bool _) Zr.unit rfl) rfl) rfl) rfl) rfl) rfl) rfl) rfl) rfl) rfl) rfl) rfl) rfl) Zr.unit rfl) rfl)
theorem tZ90 : tyZ Tryz.prog 90 (.agg #[.pointer none, .int .i64 0, .int .i64 0, .int .i64 0, .slice none 0 0, .int .i64 0, .int .u64 0, .string ⟨#[]⟩, .slice none 0 0, .int .u64 0, .int .u64 0, .int .u64 0, .int .u64 0, .int .u64 0, .int .u64 0, .int .u64 0, .int .u64 0, .int .u64 0, .int .u64 0, .int .u64 0, .int .u64 0, .int .u64 0, .int .u64 0, .int .u64 0, .int .u64 0, .slice none 0 0, .int .u64 0, .int .u64 0, .int .u64 0, .int .u64 0, .int .u64 0, .int .u64 0, .int .u64 0, .int .u64 0, .int .u64 0, .int .u64 0, .int .u64 0, .int .u64 0, .int .u64 0, .int .u64 0, .int .u64 0, .int .u64 0, .int .u64 0, .int .u64 0, .int .u64 0, .int .u64 0, .int .u64 0, .int .u64 0, .int .u64 0, .int .u64 0, .int .u64 0, .int .u64 0, .int .u64 0, .int .u64 0, .int .u64 0, .int .u64 0, .int .u64 0, .int .u64 0, .slice none 0 0, .slice none 0 0, .int .u8 0, .int .u8 0, .int .u8 0, .int .u8 0, .int .u8 0, .int .u8 0, .int .u8 0, .int .u8 0, .int .u8 0, .int .u8 0, .int .u8 0, .int .u8 0, .int .u8 0, .int .u8 0, .int .u8 0, .int .u8 0, .int .u8 0, .int .u8 0, .int .u8 0, .int .u8 0, .int .u8 0, .int .u8 0, .int .u8 0, .int .u8 0, .int .u8 0, .int .u8 0, .int .u8 0, .int .u8 0, .int .u8 0, .int .u8 0, .int .u8 0, .int .u8 0, .slice none 0 0, .slice none 0 0, .bool false]) := by unfold tyZ; kernel_rfl
theorem tp90 : tyPl Tryz.prog 90 [(0, 1), (1, 94)] := by unfold tyPl; kernel_rfl
theorem Zb2 : tyF Tryz.prog 90 0 0 = true := by kernel_rfl
theorem tS87 : tyS Tryz.prog 87 = true := by kernel_rfl
theorem tu87 : Program.underlying Tryz.prog 87 = some (.pointer 138) := by kernel_rfl
theorem Zk5 : tyF Tryz.prog 138 1 1 = true := by kernel_rfl
theorem ZiI : Zav Tryz.prog 122 = true := by kernel_rfl
theorem ZeN : tyF Tryz.prog 138 0 0 = true := by kernel_rfl
theorem Zn1 : tyA Tryz.prog 138 3 = true := by kernel_rfl
theorem cl90 : Zav Tryz.prog 90 = true := by kernel_rfl
theorem cl91 : Zav Tryz.prog 91 = true := by kernel_rfl
theorem cl53 : Zav Tryz.prog 53 = true := by kernel_rfl
theorem ZdL : tyF Tryz.prog 90 1 1 = true := by kernel_rfl
theorem zr95 : Zr ZaG (Zaf.mk (none : Option Nat) (none : Option Nat)) (Value.cells (.agg #[.nilFunc, .nilFunc])).toList := (Zr.map (Zr.two Zr.fn (Zr.two Zr.fn Zr.unit rfl) rfl))
theorem tA95 : tyA Tryz.prog 95 2 = true := by kernel_rfl
theorem Zok : tyF Tryz.prog 95 1 1 = true := by kernel_rfl
theorem tS93 : tyS Tryz.prog 93 = true := by kernel_rfl
theorem Zla : Zav Tryz.prog 123 = true := by kernel_rfl
theorem zs26 : Zr (rP (rI .i64) (rP (rU UInt64) r0)) zq34 (Value.cells (.agg #[.int .i64 0, .int .u64 0])).toList := (Zr.two (Zr.int _ _) (Zr.two (Zr.u _ rfl rfl) Zr.unit rfl) rfl)
theorem tp26 : tyPl Tryz.prog 26 [(0, 1), (1, 1)] := by unfold tyPl; kernel_rfl
theorem Zll : Zav Tryz.prog 135 = true := by kernel_rfl
theorem zs62 : Zr zq35 zq36 (Value.cells (.agg #[.int .i64 0, .int .u64 0, .string ⟨#[]⟩, .string ⟨#[]⟩, .bool false])).toList := (Zr.two (Zr.map (Zr.two (Zr.int _ _) (Zr.two (Zr.u _ rfl rfl) Zr.unit rfl) rfl)) (Zr.two (Zr.map (Zr.two (Zr.str rfl) (Zr.two (Zr.str rfl) Zr.unit rfl) rfl)) (Zr.two (Zr.bool _) Zr.unit rfl) rfl) rfl)
theorem tp62 : tyPl Tryz.prog 62 [(0, 2), (2, 2), (4, 1)] := by unfold tyPl; kernel_rfl
theorem Znz : Zav Tryz.prog 128 = true := by kernel_rfl
theorem Zjz : Zav Tryz.prog 144 = true := by kernel_rfl
theorem zs60 : Zr (rP rS (rP rS r0)) zq38 (Value.cells (.agg #[.string ⟨#[]⟩, .string ⟨#[]⟩])).toList := (Zr.two (Zr.str rfl) (Zr.two (Zr.str rfl) Zr.unit rfl) rfl)
theorem Zn0 : Zav Tryz.prog 125 = true := by kernel_rfl
theorem tB62 : tyB Tryz.prog 62 5 56 (.agg #[.int .i64 0, .int .u64 0, .string ⟨#[]⟩, .string ⟨#[]⟩, .bool false]) := tyB.of (by kernel_rfl)
theorem ZnY : Zav Tryz.prog 124 = true := by kernel_rfl
theorem cl93 : Zav Tryz.prog 93 = true := by kernel_rfl
theorem tZ32 : tyZ Tryz.prog 32 (.agg #[.int .i64 0, .int .u64 0, .string ⟨#[]⟩, .slice none 0 0, .int .u64 0, .int .u64 0, .int .u64 0, .int .u64 0, .int .u64 0, .int .u64 0, .int .u64 0, .int .u64 0, .int .u64 0, .int .u64 0, .int .u64 0, .int .u64 0, .int .u64 0, .int .u64 0, .int .u64 0, .int .u64 0, .slice none 0 0]) := by unfold tyZ; kernel_rfl
theorem zr32 : Zr zq40 zq41 (Value.cells (.agg #[.int .i64 0, .int .u64 0, .string ⟨#[]⟩, .slice none 0 0, .int .u64 0, .int .u64 0, .int .u64 0, .int .u64 0, .int .u64 0, .int .u64 0, .int .u64 0, .int .u64 0, .int .u64 0, .int .u64 0, .int .u64 0, .int .u64 0, .int .u64 0, .int .u64 0, .int .u64 0, .int .u64 0, .slice none 0 0])).toList := (Zr.two (Zr.map (Zr.two (Zr.int _ _) (Zr.two (Zr.u _ rfl rfl) Zr.unit rfl) rfl)) (Zr.two (Zr.str rfl) (Zr.two (Zr.w (v := .slice none 0 0) rfl) (Zr.two (Zr.vec (Zr.u _ rfl rfl) rfl) (Zr.two (Zr.w (v := .slice none 0 0) rfl) Zr.unit rfl) rfl) rfl) rfl) rfl)
theorem tZ29 : tyZ Tryz.prog 29 (.agg #[.int .u64 0, .int .u64 0, .int .u64 0, .int .u64 0, .int .u64 0, .int .u64 0, .int .u64 0, .int .u64 0, .int .u64 0, .int .u64 0, .int .u64 0, .int .u64 0, .int .u64 0, .int .u64 0, .int .u64 0, .int .u64 0]) := by unfold tyZ; kernel_rfl
theorem zr29 : Zr (rV 16 (rU UInt64)) (Vector.replicate 16 (0 : UInt64)) (Value.cells (.agg #[.int .u64 0, .int .u64 0, .int .u64 0, .int .u64 0, .int .u64 0, .int .u64 0, .int .u64 0, .int .u64 0, .int .u64 0, .int .u64 0, .int .u64 0, .int .u64 0, .int .u64 0, .int .u64 0, .int .u64 0, .int .u64 0])).toList := (Zr.vec (Zr.u _ rfl rfl) rfl)
theorem tZ87 : tyZ Tryz.prog 87 (.pointer none) := by unfold tyZ; kernel_rfl
theorem zr87 : Zr (rW (PTO none)) () (Value.cells (.pointer none)).toList := (Zr.w (v := .pointer none) rfl)
theorem Zpb : Zav Tryz.prog 148 = true := by kernel_rfl
theorem Zmj : Zav Tryz.prog 130 = true := by kernel_rfl
theorem tp32 : tyPl Tryz.prog 32 [(0, 2), (2, 1), (3, 1), (4, 16), (20, 1)] := by unfold tyPl; kernel_rfl
theorem ZoN : Zav Tryz.prog 146 = true := by kernel_rfl
theorem Zpa : Zr (rP Zae (rP rS r0)) zq43 (Value.cells (.agg #[.int .i64 0, .int .u64 0, .string ⟨#[]⟩])).toList := (Zr.two (Zr.map (Zr.two (Zr.int _ _) (Zr.two (Zr.u _ rfl rfl) Zr.unit rfl) rfl)) (Zr.two (Zr.str rfl) Zr.unit rfl) rfl)
theorem Zo1 : tyPl Tryz.prog 125 [(0, 2), (2, 1)] := by unfold tyPl; kernel_rfl
theorem ZoO : tyB Tryz.prog 125 3 32 (.agg #[.int .i64 0, .int .u64 0, .string ⟨#[]⟩]) := tyB.of (by kernel_rfl)
theorem Zns : tyF Tryz.prog 138 2 2 = true := by kernel_rfl
theorem Zpw : Zav Tryz.prog 147 = true := by kernel_rfl
theorem Zpd : Zav Tryz.prog 127 = true := by kernel_rfl
theorem cl95 : Zav Tryz.prog 95 = true := by kernel_rfl
theorem cl97 : Zav Tryz.prog 97 = true := by kernel_rfl
theorem Zm5 : Zav Tryz.prog 134 = true := by kernel_rfl
theorem Zoy : Zav Tryz.prog 133 = true := by kernel_rfl
theorem cl99 : Zav Tryz.prog 99 = true := by kernel_rfl
theorem ZnX : Zav Tryz.prog 136 = true := by kernel_rfl
theorem ZoH : Zav Tryz.prog 101 = true := by kernel_rfl
theorem tB35 : tyB Tryz.prog 35 32 32 (.agg #[.int .u8 0, .int .u8 0, .int .u8 0, .int .u8 0, .int .u8 0, .int .u8 0, .int .u8 0, .int .u8 0, .int .u8 0, .int .u8 0, .int .u8 0, .int .u8 0, .int .u8 0, .int .u8 0, .int .u8 0, .int .u8 0, .int .u8 0, .int .u8 0, .int .u8 0, .int .u8 0, .int .u8 0, .int .u8 0, .int .u8 0, .int .u8 0, .int .u8 0, .int .u8 0, .int .u8 0, .int .u8 0, .int .u8 0, .int .u8 0, .int .u8 0, .int .u8 0]) := tyB.of (by kernel_rfl)
theorem Zps : Zav Tryz.prog 137 = true := by kernel_rfl
theorem Zo4 : Zav Tryz.prog 103 = true := by kernel_rfl
theorem tS86 : tyS Tryz.prog 86 = true := by kernel_rfl
theorem Zpx : Zav Tryz.prog 139 = true := by kernel_rfl
theorem tB3 : tyB Tryz.prog 3 1 8 (.int .i64 0) := tyB.of (by kernel_rfl)
theorem ZoG : Zav Tryz.prog 138 = true := by kernel_rfl
theorem Zpv : Zav Tryz.prog 105 = true := by kernel_rfl
theorem cl15 : Zav Tryz.prog 15 = true := by kernel_rfl
theorem cl13 : Zav Tryz.prog 13 = true := by kernel_rfl
theorem Znp : Program.underlying Tryz.prog 123 = some (.slice 9) := by kernel_rfl
theorem tz9 : tySz Tryz.prog 9 1 = true := by kernel_rfl
theorem tZ9 : tyZ Tryz.prog 9 (.string ⟨#[]⟩) := by unfold tyZ; kernel_rfl
theorem cl24 : Zav Tryz.prog 24 = true := by kernel_rfl
theorem cl9 : Zav Tryz.prog 9 = true := by kernel_rfl
theorem cl19 : Zav Tryz.prog 19 = true := by kernel_rfl
theorem cl26 : Zav Tryz.prog 26 = true := by kernel_rfl
theorem cl8 : Zav Tryz.prog 8 = true := by kernel_rfl
theorem cl63 : Zav Tryz.prog 63 = true := by kernel_rfl
theorem cl64 : Zav Tryz.prog 64 = true := by kernel_rfl
theorem cl65 : Zav Tryz.prog 65 = true := by kernel_rfl
theorem cl17 : Zav Tryz.prog 17 = true := by kernel_rfl
theorem tr53 : tyAr Tryz.prog 53 3 1 = true := by kernel_rfl
theorem tu54 : Program.underlying Tryz.prog 54 = some (.int .u64) := by kernel_rfl
theorem tu39 : Program.underlying Tryz.prog 39 = some (.struct (Program.fieldsOf Tryz.prog 39)) := by kernel_rfl
theorem fl39 : (Program.fieldsOf Tryz.prog 39).toList = [{ name := "Kind", type := 22, offset := 0, embedded := false, tag := "", pkgPath := "", byteOffset := 0 }, { name := "From", type := 3, offset := 1, embedded := false, tag := "", pkgPath := "", byteOffset := 8 }, { name := "To", type := 3, offset := 2, embedded := false, tag := "", pkgPath := "", byteOffset := 16 }, { name := "Items", type := 23, offset := 3, embedded := false, tag := "", pkgPath := "", byteOffset := 24 }, { name := "Event", type := 32, offset := 4, embedded := false, tag := "", pkgPath := "", byteOffset := 48 }, { name := "Past", type := 29, offset := 25, embedded := false, tag := "", pkgPath := "", byteOffset := 256 }, { name := "Seen", type := 29, offset := 41, embedded := false, tag := "", pkgPath := "", byteOffset := 384 }, { name := "Extra", type := 33, offset := 57, embedded := false, tag := "", pkgPath := "", byteOffset := 512 }, { name := "Live", type := 33, offset := 58, embedded := false, tag := "", pkgPath := "", byteOffset := 536 }, { name := "Hash", type := 35, offset := 59, embedded := false, tag := "", pkgPath := "", byteOffset := 560 }, { name := "Leaves", type := 36, offset := 91, embedded := false, tag := "", pkgPath := "", byteOffset := 592 }, { name := "Buckets", type := 37, offset := 92, embedded := false, tag := "", pkgPath := "", byteOffset := 616 }, { name := "Reply", type := 4, offset := 93, embedded := false, tag := "", pkgPath := "", byteOffset := 640 }] := by kernel_rfl
theorem tu32 : Program.underlying Tryz.prog 32 = some (.struct (Program.fieldsOf Tryz.prog 32)) := by kernel_rfl
theorem fl32 : (Program.fieldsOf Tryz.prog 32).toList = [{ name := "ID", type := 26, offset := 0, embedded := false, tag := "", pkgPath := "", byteOffset := 0 }, { name := "Topic", type := 9, offset := 2, embedded := false, tag := "", pkgPath := "", byteOffset := 16 }, { name := "Payload", type := 27, offset := 3, embedded := false, tag := "", pkgPath := "", byteOffset := 32 }, { name := "Past", type := 29, offset := 4, embedded := false, tag := "", pkgPath := "", byteOffset := 56 }, { name := "To", type := 30, offset := 20, embedded := false, tag := "", pkgPath := "", byteOffset := 184 }] := by kernel_rfl
theorem tu53 : Program.underlying Tryz.prog 53 = some (.array 3 3) := by kernel_rfl
end Go.Proofs.YtklnihlchhhhlaaGreat
