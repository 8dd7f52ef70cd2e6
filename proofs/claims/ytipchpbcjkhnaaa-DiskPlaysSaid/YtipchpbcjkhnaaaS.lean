/- The functions as plain Lean functions: no program and no memory here. -/
import Derived.Test.YtipchpbcjkhnaaaFp
import Derived.Test.YtipchpbcjkhnaaaFdq
namespace Go.Proofs.Ytipchpbcjkhnaaa
open Fw
set_option linter.unusedVariables false
noncomputable section

structure Za7 where
  Kind : Int
  N : Int
  Name : (List UInt8)
  To : (List UInt8)
  B : (List UInt8)
  Keep : (List Int)
  deriving DecidableEq,Inhabited

structure Zaf where
  b : (List UInt8)
  lasts : Int
  deriving DecidableEq,Inhabited

structure Zah where
  Name : (List UInt8)
  B : (List UInt8)
  Lasts : Int
  deriving DecidableEq,Inhabited

structure Zge where
  L : (List Zah)
  Capacity : Int
  Fuse : Int
  Dead : Bool
  Writes : Int
  deriving DecidableEq,Inhabited

def Zdx (k : Nat) (qb1 : Int) : Option ((Unit) ⊕ (Unit)) :=
 Option.bind (
  lt1 (decide (qb1 < (1 : Int))) fun v2 =>
  lt1 (decide (qb1 > (16777216 : Int))) fun v3 =>
  lt1 (bif v2 then true else v3) fun v4 =>
  some v4
 ) fun x5 =>
  if x5 = true then
   some (.inr ())
  else
   some (.inl ())

def ref05_Much.b1 (k : Nat) (l1 : (List Za7)) (qo2 : Int) (n3 : Int) (i4 : Int) : Option ((Int × Int) ⊕ ((Unit) ⊕ ((Bool)))) :=
 Option.bind (
  lt1 (decide (i4 < (List.length l1 : Int))) fun v5 =>
  lt1 (decide (i4 ≤ qo2)) fun v6 =>
  lt1 (bif v5 then v6 else false) fun v7 =>
  some v7
 ) fun x8 =>
  if x8 = true then
   Option.bind (idxL l1 i4) fun v9 =>
   lt1 (minI (List.length v9.B : Int) (20001 : Int)) fun v10 =>
   lt1 (w64 (n3 + v10)) fun v11 =>
   Option.bind (idxL l1 i4) fun v12 =>
   lt1 (minI (List.length v12.Name : Int) (20001 : Int)) fun v13 =>
   lt1 (w64 (v11 + v13)) fun v14 =>
   Option.bind (idxL l1 i4) fun v15 =>
   lt1 (minI (List.length v15.To : Int) (20001 : Int)) fun v16 =>
   lt1 (w64 (v14 + v16)) fun v17 =>
   Option.bind (idxL l1 i4) fun v18 =>
   lt1 (minI (List.length v18.Keep : Int) (20001 : Int)) fun v19 =>
   lt1 (w64 (v17 + v19)) fun v20 =>
   lt1 (decide (v20 > (20000 : Int))) fun v21 =>
   if v21 = true then
    some (.inr (.inr true))
   else
    lt1 (w64 (i4 + (1 : Int))) fun v22 =>
    some (.inl (v20,v22))
  else
   some (.inr (.inl ()))

def ref05_Much (k : Nat) (l1 : (List Za7)) (qo2 : Int) : Option ((Bool)) :=
 Option.bind (
  Option.bind (Zcl (fun s=>ref05_Much.b1 k l1 qo2 s.1 s.2) k ((0 : Int),(0 : Int))) fun t=>match t with
  | (.inl _) =>
   some (.inl ())
  | (.inr q) =>
   some (.inr q)
  : Option ((Unit) ⊕ ((Bool)))) fun t=>match t with
 | (.inl _) =>
  lt1 (decide ((List.length l1 : Int) > qo2)) fun v23 =>
  some v23
 | (.inr q) =>
  some q

def ZaX (k : Nat) (e1 : Int) : Option ((Unit)) :=
 some ()

def Zax (k : Nat) (qb1 : Int) (fuse2 : Int) (qh3 : Bool) (qd4 : Int) (x6 : (List ((List UInt8) × Zaf))) : Option ((Unit)) :=
 Option.bind (
  some ()
 ) fun _ =>
  some ()

def disk_MayName.b1 (k : Nat) (qn1 : (List UInt8)) (x2 : Int) : Option ((Int) ⊕ ((Unit) ⊕ ((Bool)))) :=
 lt1 (decide (x2 < (List.length qn1 : Int))) fun v3 =>
 if v3 = true then
  Option.bind (idxL qn1 x2) fun v4 =>
  Option.bind (
   lt1 (decide (v4 < (97 : UInt8))) fun v5 =>
   lt1 (decide ((122 : UInt8) < v4)) fun v6 =>
   lt1 (bif v5 then true else v6) fun v7 =>
   lt1 (decide (v4 < (48 : UInt8))) fun v8 =>
   lt1 (decide ((57 : UInt8) < v4)) fun v9 =>
   lt1 (bif v8 then true else v9) fun v10 =>
   lt1 (bif v7 then v10 else false) fun v11 =>
   lt1 ((!(v4 == (46 : UInt8)))) fun v12 =>
   lt1 (bif v11 then v12 else false) fun v13 =>
   lt1 ((!(v4 == (45 : UInt8)))) fun v14 =>
   lt1 (bif v13 then v14 else false) fun v15 =>
   some v15
  ) fun x16 =>
   if x16 = true then
    some (.inr (.inr false))
   else
    lt1 (w64 (x2 + (1 : Int))) fun v17 =>
    some (.inl v17)
 else
  some (.inr (.inl ()))

def disk_MayName (k : Nat) (qn1 : (List UInt8)) : Option ((Bool)) :=
 Option.bind (
  Option.bind (Zcl (fun s=>disk_MayName.b1 k qn1 s) k (0 : Int)) fun t=>match t with
  | (.inl _) =>
   some (.inl ())
  | (.inr q) =>
   some (.inr q)
  : Option ((Unit) ⊕ ((Bool)))) fun t=>match t with
 | (.inl _) =>
  Option.bind (
   lt1 (decide ((List.length qn1 : Int) ≥ (1 : Int))) fun v18 =>
   lt1 (decide ((List.length qn1 : Int) ≤ (32 : Int))) fun v19 =>
   lt1 (bif v18 then v19 else false) fun v20 =>
   some v20
  ) fun x21 =>
   some x21
 | (.inr q) =>
  some q

def disk_Disk_Room_p_smvvvvm.b1 (k : Nat) (x6 : (List ((List UInt8) × Zaf))) (n12 : Int) (e13 : ((List UInt8) × Zaf)) : Option ((Int) ⊕ ((Int))) :=
 Option.bind (ZbF (some x6) e13.1) fun u15 =>
 lt1 (w64 (n12 - (List.length u15.b : Int))) fun v16 =>
 some (.inl v16)

def disk_Disk_Room_p_smvvvvm.f1 (k : Nat) (n12 : Int) : Option ((Int)) :=
 some n12

def disk_Disk_Room_p_smvvvvm (k : Nat) (qb1 : Int) (fuse2 : Int) (qh3 : Bool) (qd4 : Int) (x6 : (List ((List UInt8) × Zaf))) : Option ((Int)) :=
 Option.bind (Zax k qb1 fuse2 qh3 qd4 x6) fun _ =>
 Option.bind (
  ZfQ (Option.getD (some x6) []) (fun s e=>disk_Disk_Room_p_smvvvvm.b1 k x6 s e) (fun s=>disk_Disk_Room_p_smvvvvm.f1 k s) qb1
 ) fun n17 =>
  some n17

def Zbo (k : Nat) (s1 : (List UInt8)) : Option (((List UInt8))) :=
 Option.bind (apL 1 ([] : (List UInt8)) s1) fun x3 =>
 some x3

def ZaS (k : Nat) (x1 : (Option Zaf)) (x3 : (List ((List UInt8) × Zaf))) (qb7 : Int) (qg8 : Int) (qh9 : Bool) (qd10 : Int) (x12 : (List UInt8)) (x14 : (List UInt8)) : Option (((List ((List UInt8) × Zaf)) × (Option Zaf))) :=
 Option.bind (
  lt1 (Option.isNone x1) fun v16 =>
  if v16 = true then
   lt1 (mput x12 (Zaf.mk ([] : (List UInt8)) (0 : Int)) x3) fun x18 =>
   some (x18,(some default : Option Zaf))
  else
   some (x3,x1)
 ) fun (x19,x20) =>
  Option.bind (x20) fun u22 =>
  Option.bind (ZbF (some x19) x12) fun u23 =>
  Option.bind (Zbo k u23.b) fun v24 =>
  Option.bind (apL 1 v24 x14) fun x27 =>
  Option.bind (x20) fun u30 =>
  Option.bind (Zdz x19 x12 (fun u=>{ u with b:=x27 })) fun x32 =>
  some (x32,x20)

def ZaH (k : Nat) (qb1 : Int) (fuse2 : Int) (qh3 : Bool) (qd4 : Int) (x6 : (List ((List UInt8) × Zaf))) (x9 : (Option Zaf)) (x12 : (List UInt8)) (x14 : (List UInt8)) : Option ((Int × (List ((List UInt8) × Zaf)) × Int × Bool × Int × (Option Zaf))) :=
 if qh3 = true then
  some ((8 : Int),x6,fuse2,qh3,qd4,x9)
 else
  lt1 (w64 (qd4 + (1 : Int))) fun v16 =>
  lt1 ((fuse2 == (0 : Int))) fun v17 =>
  if v17 = true then
   Option.bind (ZaS k x9 x6 qb1 fuse2 true v16 x12 x14) fun (x18,x19) =>
   some ((8 : Int),(x18),fuse2,true,v16,x19)
  else
   Option.bind (
    lt1 (decide (fuse2 > (0 : Int))) fun v21 =>
    if v21 = true then
     lt1 (w64 (fuse2 - (1 : Int))) fun v22 =>
     some v22
    else
     some fuse2
   ) fun x23 =>
    Option.bind (ZaS k x9 x6 qb1 x23 qh3 v16 x12 x14) fun (x24,x25) =>
    some ((0 : Int),(x24),x23,qh3,v16,x25)

def Zau (k : Nat) (qn1 : (List UInt8)) (b2 : (List UInt8)) (qb3 : Int) (qg4 : Int) (qh5 : Bool) (qd6 : Int) (x8 : (List ((List UInt8) × Zaf))) : Option ((Int × (List ((List UInt8) × Zaf)) × Int × Bool × Int)) :=
 Option.bind (Zax k qb3 qg4 qh5 qd6 x8) fun _ =>
 Option.bind (disk_MayName k qn1) fun v15 =>
 lt1 ((!v15)) fun v16 =>
 if v16 = true then
  some ((2 : Int),x8,qg4,qh5,qd6)
 else
  lt1 (ZbF (some x8) qn1) fun f17 =>
  Option.bind (
   Option.bind (disk_Disk_Room_p_smvvvvm k qb3 qg4 qh5 qd6 x8) fun v19 =>
   lt1 (decide ((List.length b2 : Int) > v19)) fun v20 =>
   if v20 = true then
    some true
   else
    lt1 (Option.isNone f17) fun v21 =>
    if v21 = true then
     lt1 (decide ((List.length (Option.getD (some x8) []) : Int) ≥ (64 : Int))) fun v22 =>
     some v22
    else
     some false
  ) fun x23 =>
   if x23 = true then
    some ((5 : Int),x8,qg4,qh5,qd6)
   else
    Option.bind (ZaH k qb3 qg4 qh5 qd6 x8 f17 qn1 b2) fun (v24,x25,x26,x27,x28,x29) =>
    some (v24,(x25),x26,x27,x28)

def ZaJ (k : Nat) (qn1 : (List UInt8)) (qb2 : Int) (qg3 : Int) (qh4 : Bool) (qd5 : Int) (x7 : (List ((List UInt8) × Zaf))) : Option (((Option Zaf) × Int)) :=
 Option.bind (Zax k qb2 qg3 qh4 qd5 x7) fun _ =>
 Option.bind (disk_MayName k qn1) fun v11 =>
 lt1 ((!v11)) fun v12 =>
 if v12 = true then
  some ((none : Option Zaf),(2 : Int))
 else
  lt1 (ZbF (some x7) qn1) fun f13 =>
  lt1 (Option.isNone f13) fun v14 =>
  if v14 = true then
   some ((none : Option Zaf),(6 : Int))
  else
   lt1 (ZbF (some x7) qn1) fun f15 =>
   some (f15,(0 : Int))

def Zb6 (k : Nat) : Option ((Unit)) :=
 some ()

def ZbW (k : Nat) (qp1 : (List UInt8)) (x2 : (Option Zaf)) (x4 : (List ((List UInt8) × Zaf))) : Option (((List ((List UInt8) × Zaf)))) :=
 Option.bind (x2) fun u7 =>
 Option.bind (ZbF (some x4) qp1) fun u8 =>
 Option.bind (x2) fun u9 =>
 Option.bind (Zdz x4 qp1 (fun u=>{ u with lasts:=(List.length u8.b : Int) })) fun x11 =>
 some x11

def Za0 (k : Nat) (qb1 : Int) (fuse2 : Int) (qh3 : Bool) (qd4 : Int) (x6 : (List ((List UInt8) × Zaf))) (qp9 : (List UInt8)) (x10 : (Option Zaf)) : Option ((Int × (List ((List UInt8) × Zaf)) × Int × Bool × Int)) :=
 if qh3 = true then
  some ((8 : Int),x6,fuse2,qh3,qd4)
 else
  lt1 (w64 (qd4 + (1 : Int))) fun v12 =>
  lt1 ((fuse2 == (0 : Int))) fun v13 =>
  if v13 = true then
   Option.bind (Zb6 k) fun _ =>
   some ((8 : Int),x6,fuse2,true,v12)
  else
   Option.bind (
    lt1 (decide (fuse2 > (0 : Int))) fun v15 =>
    if v15 = true then
     lt1 (w64 (fuse2 - (1 : Int))) fun v16 =>
     some v16
    else
     some fuse2
   ) fun x17 =>
    Option.bind (ZbW k qp9 x10 x6) fun x18 =>
    some ((0 : Int),(x18),x17,qh3,v12)

def Zbb (k : Nat) (qn1 : (List UInt8)) (qb2 : Int) (qg3 : Int) (qh4 : Bool) (qd5 : Int) (x7 : (List ((List UInt8) × Zaf))) : Option ((Int × (List ((List UInt8) × Zaf)) × Int × Bool × Int)) :=
 Option.bind (ZaJ k qn1 qb2 qg3 qh4 qd5 x7) fun (v10,v11) =>
 lt1 ((v11 != (0 : Int))) fun v13 =>
 if v13 = true then
  some (v11,x7,qg3,qh4,qd5)
 else
  Option.bind (Za0 k qb2 qg3 qh4 qd5 x7 qn1 v10) fun (v14,x15,x16,x17,x18) =>
  some (v14,(x15),x16,x17,x18)

def disk_Disk_Copy_p_smvvvvm.b1 (k : Nat) (x6 : (List ((List UInt8) × Zaf))) (x14 : (List ((List UInt8) × Zaf))) (e16 : ((List UInt8) × Zaf)) : Option (((List ((List UInt8) × Zaf))) ⊕ (((List ((List UInt8) × Zaf))))) :=
 Option.bind (ZbF (some x6) e16.1) fun u19 =>
 Option.bind (Zbo k u19.b) fun v20 =>
 Option.bind (ZbF (some x6) e16.1) fun u23 =>
 lt1 (mput e16.1 (Zaf.mk v20 u23.lasts) x14) fun x25 =>
 some (.inl x25)

def disk_Disk_Copy_p_smvvvvm.f1 (k : Nat) (x14 : (List ((List UInt8) × Zaf))) : Option (((List ((List UInt8) × Zaf)))) :=
 lt1 (Zec x14) fun x18 =>
 some x18

def disk_Disk_Copy_p_smvvvvm (k : Nat) (qb1 : Int) (fuse2 : Int) (qh3 : Bool) (qd4 : Int) (x6 : (List ((List UInt8) × Zaf))) : Option (((List ((List UInt8) × Zaf)))) :=
 Option.bind (Zax k qb1 fuse2 qh3 qd4 x6) fun _ =>
 Option.bind (
  ZfQ (Option.getD (some x6) []) (fun s e=>disk_Disk_Copy_p_smvvvvm.b1 k x6 s e) (fun s=>disk_Disk_Copy_p_smvvvvm.f1 k s) ([] : (List ((List UInt8) × Zaf)))
 ) fun x26 =>
  some x26

def Za3 (k : Nat) (x1 : (List ((List UInt8) × Zaf))) : Option ((Unit)) :=
 some ()

def disk_Disk_Files_p_smvvvvm.b1 (k : Nat) (l14 : (List (List UInt8))) (x6 : (List ((List UInt8) × Zaf))) (qq17 : (List Int)) (x18 : Int) : Option (((List Int) × Int) ⊕ (((List Int)))) :=
 lt1 (decide (x18 < (List.length l14 : Int))) fun v21 =>
 if v21 = true then
  Option.bind (inO l14 x18) fun i22 =>
  Option.bind (l14[i22]?) fun v23 =>
  lt1 (ZbF (some x6) v23) fun f24 =>
  Option.bind (f24) fun u25 =>
  Option.bind (ZbF (some x6) v23) fun u26 =>
  Option.bind (apL 8 qq17 ([(List.length u26.b : Int)] : (List Int))) fun x27 =>
  lt1 (w64 (x18 + (1 : Int))) fun v30 =>
  some (.inl (x27,v30))
 else
  some (.inr qq17)

def disk_Disk_Files_p_smvvvvm (k : Nat) (qb1 : Int) (fuse2 : Int) (qh3 : Bool) (qd4 : Int) (x6 : (List ((List UInt8) × Zaf))) : Option (((List (List UInt8)) × (List Int))) :=
 Option.bind (
  Option.bind (Zax k qb1 fuse2 qh3 qd4 x6) fun _ =>
  Option.bind (Za3 k x6) fun _ =>
  Option.bind (Zhs (some x6)) fun l14 =>
  Option.bind (Zcl (fun s=>disk_Disk_Files_p_smvvvvm.b1 k l14 x6 s.1 s.2) k (([] : (List Int)),(0 : Int))) fun qq31 =>
   some (l14,qq31)
 ) fun (names34,qq35) =>
  some (names34,qq35)

def disk_Disk_Files_1_ypp_loo.b1 {σ τ : Type} (k : Nat) (x5 : (List (List UInt8))) (x9 : (List Int)) (Y1 : (σ → ((List UInt8) × Int) → Option (σ ⊕ τ))) (x12 : (σ ⊕ τ)) (x13 : Int) : Option (((σ ⊕ τ) × Int) ⊕ (((σ ⊕ τ)) ⊕ (((σ ⊕ τ))))) :=
 lt1 (decide (x13 < (List.length x5 : Int))) fun v15 =>
 if v15 = true then
  Option.bind (inO x5 x13) fun i16 =>
  Option.bind (x5[i16]?) fun v17 =>
  Option.bind (inO x9 x13) fun i18 =>
  Option.bind (x9[i18]?) fun v19 =>
  Option.bind (yldO Y1 x12 (v17,v19)) fun y20 =>
  lt1 ((!(Sum.isLeft y20))) fun v22 =>
  if v22 = true then
   some (.inr (.inr y20))
  else
   lt1 (w64 (x13 + (1 : Int))) fun v23 =>
   some (.inl (y20,v23))
 else
  some (.inr (.inl x12))

def disk_Disk_Files_1_ypp_loo {σ τ : Type} (k : Nat) (Y1 : (σ → ((List UInt8) × Int) → Option (σ ⊕ τ))) (x2 : (σ ⊕ τ)) (x5 : (List (List UInt8))) (x9 : (List Int)) : Option (((σ ⊕ τ))) :=
 Option.bind (Zcl (fun s=>disk_Disk_Files_1_ypp_loo.b1 k x5 x9 Y1 s.1 s.2) k (x2,(0 : Int))) fun t=>match t with
 | (.inl x24) =>
  some x24
 | (.inr q) =>
  some q

def disk_Disk_Crash_pv_smvvvvm.y1 (k : Nat) (a1 : (List Int)) (x25 : (List ((List UInt8) × Zaf))) (x26 : Int) (a27 : (List UInt8)) (a28 : Int) : Option (((List ((List UInt8) × Zaf)) × Int) ⊕ (Empty)) :=
 lt1 (ZbF (some x25) a27) fun f29 =>
 Option.bind (f29) fun u30 =>
 Option.bind (ZbF (some x25) a27) fun u31 =>
 Option.bind (f29) fun u32 =>
 Option.bind (ZbF (some x25) a27) fun u33 =>
 lt1 (w64 ((List.length u31.b : Int) - u33.lasts)) fun v34 =>
 lt1 ((v34 == (0 : Int))) fun v35 =>
 if v35 = true then
  some (.inl (x25,x26))
 else
  Option.bind (
   Option.bind (
    lt1 (decide (x26 < (List.length a1 : Int))) fun v36 =>
    Option.bind (if v36 = true then idxL a1 x26 else some default) fun v37 =>
    lt1 (decide (v37 > (0 : Int))) fun v38 =>
    lt1 (bif v36 then v38 else false) fun v39 =>
    some v39
   ) fun x40 =>
    if x40 = true then
     Option.bind (idxL a1 x26) fun v41 =>
     lt1 (w64 (v34 + (1 : Int))) fun v42 =>
     Option.bind (modI v41 v42) fun v43 =>
     some v43
    else
     some (0 : Int)
  ) fun x44 =>
   lt1 (w64 (x26 + (1 : Int))) fun v45 =>
   Option.bind (f29) fun u46 =>
   Option.bind (ZbF (some x25) a27) fun u47 =>
   lt1 (w64 (u47.lasts + x44)) fun v48 =>
   Option.bind (f29) fun u49 =>
   Option.bind (Zdz x25 a27 (fun u=>{ u with lasts:=v48 })) fun x51 =>
   Option.bind (f29) fun u52 =>
   Option.bind (ZbF (some x51) a27) fun u53 =>
   Option.bind (f29) fun u54 =>
   Option.bind (ZbF (some x51) a27) fun u55 =>
   Option.bind (subL u53.b (0) u55.lasts) fun v56 =>
   Option.bind (f29) fun u57 =>
   Option.bind (Zdz x51 a27 (fun u=>{ u with b:=v56 })) fun x59 =>
   some (.inl (x59,v45))

def disk_Disk_Crash_pv_smvvvvm (k : Nat) (a1 : (List Int)) (qb2 : Int) (qg3 : Int) (qh4 : Bool) (qd5 : Int) (x7 : (List ((List UInt8) × Zaf))) : Option (((List ((List UInt8) × Zaf)))) :=
 Option.bind (disk_Disk_Copy_p_smvvvvm k qb2 qg3 qh4 qd5 x7) fun v11 =>
 Option.bind (
  Option.bind (disk_Disk_Files_p_smvvvvm k qb2 qg3 qh4 qd5 x7) fun (v17,x18) =>
  Option.bind (disk_Disk_Files_1_ypp_loo k (fun (s : (List ((List UInt8) × Zaf)) × Int) (u : (List UInt8) × Int)=>disk_Disk_Crash_pv_smvvvvm.y1 k a1 s.1 s.2 u.1 u.2) (Sum.inl ((v11),(0 : Int))) v17 x18) fun tv2=>match tv2 with
  | (.inl (x61,x62)) =>
   some x61
  | (.inr e)=>nomatch e
 ) fun x63 =>
  some x63

def ZaP (k : Nat) (qn1 : (List UInt8)) (qb2 : Int) (qg3 : Int) (qh4 : Bool) (qd5 : Int) (x7 : (List ((List UInt8) × Zaf))) : Option (((List UInt8) × Int)) :=
 Option.bind (ZaJ k qn1 qb2 qg3 qh4 qd5 x7) fun (v10,v11) =>
 lt1 ((v11 != (0 : Int))) fun v12 =>
 if v12 = true then
  some (([] : (List UInt8)),v11)
 else
  Option.bind (v10) fun u13 =>
  Option.bind (ZbF (some x7) qn1) fun u14 =>
  Option.bind (Zbo k u14.b) fun v15 =>
  some (v15,(0 : Int))

def Za1 (k : Nat) (qn1 : (List UInt8)) (qb2 : Int) (qg3 : Int) (qh4 : Bool) (qd5 : Int) (x7 : (List ((List UInt8) × Zaf))) : Option ((Int × Int)) :=
 Option.bind (ZaJ k qn1 qb2 qg3 qh4 qd5 x7) fun (v10,v11) =>
 lt1 ((v11 != (0 : Int))) fun v12 =>
 if v12 = true then
  some ((0 : Int),v11)
 else
  Option.bind (v10) fun u13 =>
  Option.bind (ZbF (some x7) qn1) fun u14 =>
  some (u14.lasts,(0 : Int))

def ZbH (k : Nat) (n1 : Int) (qb2 : Int) (qg3 : Int) (qh4 : Bool) (qd5 : Int) (x7 : (List ((List UInt8) × Zaf))) : Option ((Int)) :=
 Option.bind (Zax k qb2 qg3 qh4 qd5 x7) fun _ =>
 lt1 (maxI n1 (-1 : Int)) fun v11 =>
 some v11

def Zbg (k : Nat) (qb2 : Int) (qg3 : Int) (qh4 : Bool) (qd5 : Int) (x7 : (List ((List UInt8) × Zaf))) (x10 : (List UInt8)) (x12 : (Option Zaf)) (x14 : (List UInt8)) : Option (((List ((List UInt8) × Zaf)))) :=
 Option.bind (andO x12 (ZbF (some x7) x10)) fun u17 =>
 lt1 (mput x14 u17 (mdel x10 x7)) fun x18 =>
 some x18

def ZaF (k : Nat) (qb1 : Int) (fuse2 : Int) (qh3 : Bool) (qd4 : Int) (x6 : (List ((List UInt8) × Zaf))) (x10 : (List UInt8)) (x12 : (Option Zaf)) (x14 : (List UInt8)) : Option ((Int × (List ((List UInt8) × Zaf)) × Int × Bool × Int × (List UInt8) × (Option Zaf))) :=
 if qh3 = true then
  some ((8 : Int),x6,fuse2,qh3,qd4,x10,x12)
 else
  lt1 (w64 (qd4 + (1 : Int))) fun v16 =>
  lt1 ((fuse2 == (0 : Int))) fun v17 =>
  if v17 = true then
   Option.bind (Zb6 k) fun _ =>
   some ((8 : Int),x6,fuse2,true,v16,x10,x12)
  else
   Option.bind (
    lt1 (decide (fuse2 > (0 : Int))) fun v19 =>
    if v19 = true then
     lt1 (w64 (fuse2 - (1 : Int))) fun v20 =>
     some v20
    else
     some fuse2
   ) fun x21 =>
    Option.bind (Zbg k qb1 x21 qh3 v16 x6 x10 x12 x14) fun x22 =>
    some ((0 : Int),(x22),x21,qh3,v16,x14,(some default : Option Zaf))

def ZaV (k : Nat) (qn1 : (List UInt8)) (to2 : (List UInt8)) (qb3 : Int) (qg4 : Int) (qh5 : Bool) (qd6 : Int) (x8 : (List ((List UInt8) × Zaf))) : Option ((Int × (List ((List UInt8) × Zaf)) × Int × Bool × Int)) :=
 Option.bind (ZaJ k qn1 qb3 qg4 qh5 qd6 x8) fun (v14,v15) =>
 lt1 ((v15 == (1 : Int))) fun v17 =>
 if v17 = true then
  some (v15,x8,qg4,qh5,qd6)
 else
  Option.bind (disk_MayName k to2) fun v18 =>
  lt1 ((!v18)) fun v19 =>
  if v19 = true then
   some ((2 : Int),x8,qg4,qh5,qd6)
  else
   lt1 ((v15 != (0 : Int))) fun v20 =>
   if v20 = true then
    some (v15,x8,qg4,qh5,qd6)
   else
    Option.bind (ZaF k qb3 qg4 qh5 qd6 x8 qn1 v14 to2) fun (v21,x22,x23,x24,x25,x26,x27) =>
    some (v21,(x22),x23,x24,x25)

def ZbU (k : Nat) (qp1 : (List UInt8)) (x2 : (Option Zaf)) (x4 : (List ((List UInt8) × Zaf))) (x7 : Int) : Option (((List ((List UInt8) × Zaf)))) :=
 Option.bind (x2) fun u9 =>
 Option.bind (ZbF (some x4) qp1) fun u10 =>
 Option.bind (subL u10.b (0) x7) fun v11 =>
 Option.bind (x2) fun u12 =>
 Option.bind (ZbF (some x4) qp1) fun u13 =>
 lt1 (minI x7 u13.lasts) fun v14 =>
 Option.bind (x2) fun u15 =>
 Option.bind (Zdz x4 qp1 (fun u=>{ u with b:=v11 })) fun x17 =>
 Option.bind (x2) fun u18 =>
 Option.bind (Zdz x17 qp1 (fun u=>{ u with lasts:=v14 })) fun x20 =>
 some x20

def ZaT (k : Nat) (qb1 : Int) (fuse2 : Int) (qh3 : Bool) (qd4 : Int) (x6 : (List ((List UInt8) × Zaf))) (qp9 : (List UInt8)) (x10 : (Option Zaf)) (x12 : Int) : Option ((Int × (List ((List UInt8) × Zaf)) × Int × Bool × Int)) :=
 if qh3 = true then
  some ((8 : Int),x6,fuse2,qh3,qd4)
 else
  lt1 (w64 (qd4 + (1 : Int))) fun v14 =>
  lt1 ((fuse2 == (0 : Int))) fun v15 =>
  if v15 = true then
   Option.bind (Zb6 k) fun _ =>
   some ((8 : Int),x6,fuse2,true,v14)
  else
   Option.bind (
    lt1 (decide (fuse2 > (0 : Int))) fun v17 =>
    if v17 = true then
     lt1 (w64 (fuse2 - (1 : Int))) fun v18 =>
     some v18
    else
     some fuse2
   ) fun x19 =>
    Option.bind (ZbU k qp9 x10 x6 x12) fun x20 =>
    some ((0 : Int),(x20),x19,qh3,v14)

def ZaN (k : Nat) (qn1 : (List UInt8)) (n2 : Int) (qb3 : Int) (qg4 : Int) (qh5 : Bool) (qd6 : Int) (x8 : (List ((List UInt8) × Zaf))) : Option ((Int × (List ((List UInt8) × Zaf)) × Int × Bool × Int)) :=
 Option.bind (ZaJ k qn1 qb3 qg4 qh5 qd6 x8) fun (v12,v13) =>
 Option.bind (
  lt1 ((v13 == (6 : Int))) fun v15 =>
  lt1 (decide (n2 < (0 : Int))) fun v16 =>
  lt1 (bif v15 then v16 else false) fun v17 =>
  some v17
 ) fun x18 =>
  if x18 = true then
   some ((2 : Int),x8,qg4,qh5,qd6)
  else
   lt1 ((v13 != (0 : Int))) fun v19 =>
   if v19 = true then
    some (v13,x8,qg4,qh5,qd6)
   else
    Option.bind (
     lt1 (decide (n2 < (0 : Int))) fun v20 =>
     if v20 = true then
      some true
     else
      Option.bind (v12) fun u21 =>
      Option.bind (ZbF (some x8) qn1) fun u22 =>
      lt1 (decide (n2 > (List.length u22.b : Int))) fun v23 =>
      some v23
    ) fun x24 =>
     if x24 = true then
      some ((2 : Int),x8,qg4,qh5,qd6)
     else
      Option.bind (ZaT k qb3 qg4 qh5 qd6 x8 qn1 v12 n2) fun (v25,x26,x27,x28,x29) =>
      some (v25,(x26),x27,x28,x29)

def ZcG (k : Nat) : Option ((Bool)) :=
 Option.bind (Zdx k (9 : Int)) fun t=>match t with
 | (.inl _) =>
  Option.bind (
   Option.bind (ZaX k (0 : Int)) fun _ =>
   Option.bind (Zau k ([97] : List UInt8) ([(120 : UInt8),(121 : UInt8),(122 : UInt8)] : (List UInt8)) (9 : Int) (-1 : Int) false (0 : Int) ([] : (List ((List UInt8) × Zaf)))) fun (v5,x6,x7,x8,x9) =>
   Option.bind (ZaX k v5) fun _ =>
   lt1 (w64 ((0 : Int) + v5)) fun v12 =>
   Option.bind (Zbb k ([97] : List UInt8) (9 : Int) x7 x8 x9 (x6)) fun (v13,x14,x15,x16,x17) =>
   Option.bind (ZaX k v13) fun _ =>
   lt1 (w64 (v12 + v13)) fun v19 =>
   Option.bind (Zau k ([97] : List UInt8) ([(117 : UInt8),(118 : UInt8)] : (List UInt8)) (9 : Int) x15 x16 x17 (x14)) fun (v21,x22,x23,x24,x25) =>
   Option.bind (ZaX k v21) fun _ =>
   lt1 (w64 (v19 + v21)) fun v28 =>
   lt1 ((v28 != (0 : Int))) fun v29 =>
   some ((x22),x23,x24,x25,v29)
  ) fun (x30,qg31,qh32,qd33,x34) =>
   if x34 = true then
    some false
   else
    Option.bind (disk_Disk_Crash_pv_smvvvvm k ([(1 : Int)] : (List Int)) (9 : Int) qg31 qh32 qd33 x30) fun v36 =>
    Option.bind (ZaP k ([97] : List UInt8) (9 : Int) (-1 : Int) false (0 : Int) (v36)) fun (v40,v41) =>
    Option.bind (Za1 k ([97] : List UInt8) (9 : Int) qg31 qh32 qd33 x30) fun (v44,v45) =>
    Option.bind (
     lt1 ((v40 != ([120,121,122,117] : List UInt8))) fun v46 =>
     lt1 ((v44 != (3 : Int))) fun v47 =>
     lt1 (bif v46 then true else v47) fun v48 =>
     Option.bind (if (!v48) = true then ZaX k v41 else some default) fun _ =>
     Option.bind (if (!v48) = true then ZaX k v45 else some default) fun _ =>
     lt1 (w64 (v41 + v45)) fun v51 =>
     lt1 ((v51 != (0 : Int))) fun v52 =>
     lt1 (bif v48 then true else v52) fun v53 =>
     some v53
    ) fun x54 =>
     if x54 = true then
      some false
     else
      Option.bind (ZbH k (1 : Int) (9 : Int) qg31 qh32 qd33 x30) fun x55 =>
      Option.bind (ZaV k ([97] : List UInt8) ([98] : List UInt8) (9 : Int) x55 qh32 qd33 x30) fun (v56,x57,x58,x59,x60) =>
      Option.bind (Zau k ([98] : List UInt8) ([(119 : UInt8)] : (List UInt8)) (9 : Int) x58 x59 x60 (x57)) fun (v63,x64,x65,x66,x67) =>
      Option.bind (ZaP k ([98] : List UInt8) (9 : Int) x65 x66 x67 (x64)) fun (v69,v70) =>
      Option.bind (ZaP k ([99] : List UInt8) (9 : Int) x65 x66 x67 (x64)) fun (v73,v74) =>
      Option.bind (
       Option.bind (ZaX k v56) fun _ =>
       lt1 ((v56 == (0 : Int))) fun v78 =>
       Option.bind (if v78 = true then ZaX k v63 else some default) fun _ =>
       lt1 ((v63 == (8 : Int))) fun v80 =>
       lt1 (bif v78 then v80 else false) fun v81 =>
       if v81 = true then
        lt1 ((v69 == ([120,121,122,117,118,119] : List UInt8))) fun v82 =>
        Option.bind (if v82 = true then ZaX k v70 else some default) fun _ =>
        lt1 ((v70 == (0 : Int))) fun v84 =>
        lt1 (bif v82 then v84 else false) fun v85 =>
        if v85 = true then
         Option.bind (ZaN k ([98] : List UInt8) (0 : Int) (9 : Int) x65 x66 x67 (x64)) fun (v86,x87,x88,x89,x90) =>
         Option.bind (ZaX k v86) fun _ =>
         lt1 ((v86 == (8 : Int))) fun v92 =>
         if v92 = true then
          Option.bind (Zau k ([66] : List UInt8) ([(120 : UInt8)] : (List UInt8)) (9 : Int) x88 x89 x90 (x87)) fun (v94,x95,x96,x97,x98) =>
          Option.bind (ZaX k v94) fun _ =>
          lt1 ((v94 == (2 : Int))) fun v101 =>
          if v101 = true then
           Option.bind (mkL 1 (99 : Int) (0 : UInt8)) fun v102 =>
           Option.bind (Zau k ([98] : List UInt8) v102 (9 : Int) x96 x97 x98 (x95)) fun (v104,x105,x106,x107,x108) =>
           Option.bind (ZaX k v104) fun _ =>
           lt1 ((v104 == (5 : Int))) fun v111 =>
           Option.bind (if v111 = true then ZaX k v74 else some default) fun _ =>
           lt1 ((v74 == (6 : Int))) fun v113 =>
           lt1 (bif v111 then v113 else false) fun v114 =>
           some v114
          else
           some false
         else
          some false
        else
         some false
       else
        some false
      ) fun t115 =>
       some t115
 | (.inr _) =>
  Option.bind (
   some ()
  ) fun _ =>
   some false

def ref05_MayName.b1 (k : Nat) (s1 : (List UInt8)) (i6 : Int) : Option ((Int) ⊕ ((Unit) ⊕ ((Bool)))) :=
 lt1 (decide (i6 < (List.length s1 : Int))) fun v7 =>
 if v7 = true then
  Option.bind (
   Option.bind (idxL s1 i6) fun v8 =>
   lt1 (decide ((97 : UInt8) ≤ v8)) fun v9 =>
   Option.bind (if v9 = true then idxL s1 i6 else some default) fun v10 =>
   lt1 (decide (v10 ≤ (122 : UInt8))) fun v11 =>
   lt1 (bif v9 then v11 else false) fun v12 =>
   Option.bind (if (!v12) = true then idxL s1 i6 else some default) fun v13 =>
   lt1 (decide ((48 : UInt8) ≤ v13)) fun v14 =>
   Option.bind (if ((!v12) && v14) = true then idxL s1 i6 else some default) fun v15 =>
   lt1 (decide (v15 ≤ (57 : UInt8))) fun v16 =>
   lt1 (bif v14 then v16 else false) fun v17 =>
   lt1 (bif v12 then true else v17) fun v18 =>
   Option.bind (if (!v18) = true then idxL s1 i6 else some default) fun v19 =>
   lt1 ((v19 == (46 : UInt8))) fun v20 =>
   lt1 (bif v18 then true else v20) fun v21 =>
   Option.bind (if (!v21) = true then idxL s1 i6 else some default) fun v22 =>
   lt1 ((v22 == (45 : UInt8))) fun v23 =>
   lt1 (bif v21 then true else v23) fun v24 =>
   some v24
  ) fun ok25 =>
   lt1 ((!ok25)) fun v26 =>
   if v26 = true then
    some (.inr (.inr false))
   else
    lt1 (w64 (i6 + (1 : Int))) fun v27 =>
    some (.inl v27)
 else
  some (.inr (.inl ()))

def ref05_MayName (k : Nat) (s1 : (List UInt8)) : Option ((Bool)) :=
 Option.bind (
  lt1 (decide ((List.length s1 : Int) < (1 : Int))) fun v2 =>
  lt1 (decide ((List.length s1 : Int) > (32 : Int))) fun v3 =>
  lt1 (bif v2 then true else v3) fun v4 =>
  some v4
 ) fun x5 =>
  if x5 = true then
   some false
  else
   Option.bind (
    Option.bind (Zcl (fun s=>ref05_MayName.b1 k s1 s) k (0 : Int)) fun t=>match t with
    | (.inl _) =>
     some (.inl ())
    | (.inr q) =>
     some (.inr q)
    : Option ((Unit) ⊕ ((Bool)))) fun t=>match t with
   | (.inl _) =>
    some true
   | (.inr q) =>
    some q

def ref05_Disk_at_pv_snvvvv.b1 (k : Nat) : Option ((Unit) ⊕ ((Unit))) :=
 Option.bind (
  some ()
 ) fun _ =>
  some (.inr ())

def ref05_Disk_at_pv_snvvvv (k : Nat) (qn1 : (List UInt8)) (qc2 : Int) (ql3 : Int) (qj4 : Bool) (qe5 : Int) : Option ((Unit)) :=
 Option.bind (
  Zcl (fun _=>ref05_Disk_at_pv_snvvvv.b1 k) k ()
 ) fun _ =>
  Option.bind (
   some ()
  ) fun _ =>
   some ()

def ZbI (k : Nat) (qn1 : (List UInt8)) (qc2 : Int) (ql3 : Int) (qj4 : Bool) (qe5 : Int) : Option ((Int)) :=
 Option.bind (ref05_MayName k qn1) fun v7 =>
 lt1 ((!v7)) fun v8 =>
 if v8 = true then
  some (2 : Int)
 else
  Option.bind (ref05_Disk_at_pv_snvvvv k qn1 qc2 ql3 qj4 qe5) fun _ =>
  some (6 : Int)

def ref05_Disk_Room_p_snvvvv.b1 (k : Nat) : Option ((Unit) ⊕ ((Unit))) :=
 some (.inr ())

def ref05_Disk_Room_p_snvvvv (k : Nat) (qc1 : Int) (ql2 : Int) (qj3 : Bool) (qe4 : Int) : Option ((Unit)) :=
 Option.bind (
  Zcl (fun _=>ref05_Disk_Room_p_snvvvv.b1 k) k ()
 ) fun _ =>
  some ()

def ZbA (k : Nat) (qb1 : Int) (fuse2 : Int) (qh3 : Bool) (qd4 : Int) (x6 : (List ((List UInt8) × Zaf))) : Option ((Unit)) :=
 Option.bind (
  Option.bind (Zax k qb1 fuse2 qh3 qd4 x6) fun _ =>
  some ()
 ) fun _ =>
  some ()

def Zbp (k : Nat) (qb1 : Int) (fuse2 : Int) (qh3 : Bool) (qd4 : Int) (x6 : (List ((List UInt8) × Zaf))) : Option ((Unit)) :=
 Option.bind (Zax k qb1 fuse2 qh3 qd4 x6) fun _ =>
 some ()

def law05_once_ppv_smvvvvmsnvvvv.y1 (k : Nat) (a27 : (List UInt8)) (a28 : Int) : Option ((Unit) ⊕ ((Unit))) :=
 Option.bind (
  some ()
 ) fun _ =>
  some (.inr ())

def law05_once_ppv_smvvvvmsnvvvv (k : Nat) (qo1 : Int) (qb2 : Int) (qg3 : Int) (qh4 : Bool) (qd5 : Int) (x7 : (List ((List UInt8) × Zaf))) (qc10 : Int) (ql11 : Int) (qj12 : Bool) (qe13 : Int) : Option ((Bool)) :=
 Option.bind (disk_Disk_Files_p_smvvvvm k qb2 qg3 qh4 qd5 x7) fun (v19,x20) =>
 Option.bind (
  Option.bind (disk_Disk_Files_1_ypp_loo k (fun (s : Unit) (u : (List UInt8) × Int)=>law05_once_ppv_smvvvvmsnvvvv.y1 k u.1 u.2) (Sum.inl ()) v19 x20) fun tv2=>match tv2 with
  | (.inl _) =>
   some (.inl ())
  | (.inr _) =>
   some (.inr false)
  : Option ((Unit) ⊕ ((Bool)))) fun t=>match t with
 | (.inl _) =>
  some true
 | (.inr q) =>
  some q

def law05_looks_ppvv_smvvvvmsnvvvv.b1 (k : Nat) (x40 : (List UInt8)) (x41 : Int) : Option (((List UInt8) × Int) ⊕ ((Unit))) :=
 lt1 (decide (x41 < (List.length x40 : Int))) fun v42 =>
 if v42 = true then
  Option.bind (inO x40 x41) fun i43 =>
  Option.bind (x40[i43]?) fun v44 =>
  lt1 ((v44 + (1 : UInt8))) fun v45 =>
  Option.bind (inO x40 x41) fun i46 =>
  Option.bind (ZfP x40 i46 v45) fun x47 =>
  lt1 (w64 (x41 + (1 : Int))) fun v48 =>
  some (.inl (x47,v48))
 else
  some (.inr ())

def law05_looks_ppvv_smvvvvmsnvvvv (k : Nat) (a1 : (List UInt8)) (a2 : Int) (qb3 : Int) (qg4 : Int) (qh5 : Bool) (qd6 : Int) (x8 : (List ((List UInt8) × Zaf))) (qc11 : Int) (ql12 : Int) (qj13 : Bool) (qe14 : Int) : Option ((Bool)) :=
 Option.bind (ZaP k a1 qb3 qg4 qh5 qd6 x8) fun (v16,v17) =>
 Option.bind (Za1 k a1 qb3 qg4 qh5 qd6 x8) fun (v20,v21) =>
 Option.bind (ZbI k a1 qc11 ql12 qj13 qe14) fun v22 =>
 Option.bind (
  Option.bind (ZaX k v17) fun _ =>
  lt1 ((v17 != v22)) fun v24 =>
  Option.bind (if (!v24) = true then ZaX k v21 else some default) fun _ =>
  lt1 ((v21 != v22)) fun v26 =>
  lt1 (bif v24 then true else v26) fun v27 =>
  some v27
 ) fun x28 =>
  if x28 = true then
   some false
  else
   Option.bind (
    lt1 ((v22 != (0 : Int))) fun v29 =>
    if v29 = true then
     Option.bind (
      lt1 (((List.length v16 : Int) != (0 : Int))) fun v30 =>
      lt1 ((v20 != (0 : Int))) fun v31 =>
      lt1 (bif v30 then true else v31) fun v32 =>
      some v32
     ) fun x33 =>
      if x33 = true then
       some (.inr false)
      else
       some (.inl ())
    else
     Option.bind (
      Option.bind (idxL ([] : (List Zah)) (0 : Int)) fun v34 =>
      lt1 ((v16 != v34.B)) fun v35 =>
      Option.bind (if (!v35) = true then idxL ([] : (List Zah)) (0 : Int) else some default) fun v36 =>
      lt1 ((v20 != v36.Lasts)) fun v37 =>
      lt1 (bif v35 then true else v37) fun v38 =>
      some v38
     ) fun x39 =>
      if x39 = true then
       some (.inr false)
      else
       some (.inl ())
    : Option ((Unit) ⊕ ((Bool)))) fun t=>match t with
   | (.inl _) =>
    Option.bind (
     Zcl (fun s=>law05_looks_ppvv_smvvvvmsnvvvv.b1 k s.1 s.2) k (v16,(0 : Int))
    ) fun _ =>
     Option.bind (
      Option.bind (disk_Disk_Room_p_smvvvvm k qb3 qg4 qh5 qd6 x8) fun v49 =>
      Option.bind (ref05_Disk_Room_p_snvvvv k qc11 ql12 qj13 qe14) fun _ =>
      lt1 ((v49 == qc11)) fun v51 =>
      if v51 = true then
       Option.bind (ZbA k qb3 qg4 qh5 qd6 x8) fun _ =>
       lt1 ((qh5 == qj13)) fun v53 =>
       if v53 = true then
        Option.bind (Zbp k qb3 qg4 qh5 qd6 x8) fun _ =>
        lt1 ((qd6 == qe14)) fun v55 =>
        if v55 = true then
         Option.bind (law05_once_ppv_smvvvvmsnvvvv k a2 qb3 qg4 qh5 qd6 x8 qc11 ql12 qj13 qe14) fun v56 =>
         if v56 = true then
          Option.bind (law05_once_ppv_smvvvvmsnvvvv k (0 : Int) qb3 qg4 qh5 qd6 x8 qc11 ql12 qj13 qe14) fun v57 =>
          some v57
         else
          some false
        else
         some false
       else
        some false
      else
       some false
     ) fun x58 =>
      some x58
   | (.inr q) =>
    some q

def ZaR (k : Nat) (x1 : (Option Zaf)) (x3 : (List ((List UInt8) × Zaf))) (qb7 : Int) (qg8 : Int) (qh9 : Bool) (qd10 : Int) (x12 : (List UInt8)) (o14 : Nat) (n15 : Nat) (x17 : (List UInt8)) : Option (((List ((List UInt8) × Zaf)) × (Option Zaf))) :=
 Option.bind (
  lt1 (Option.isNone x1) fun v20 =>
  if v20 = true then
   lt1 (mput x12 (Zaf.mk ([] : (List UInt8)) (0 : Int)) x3) fun x22 =>
   some (x22,(some default : Option Zaf))
  else
   some (x3,x1)
 ) fun (x23,x24) =>
  Option.bind (x24) fun u26 =>
  Option.bind (ZbF (some x23) x12) fun u27 =>
  Option.bind (Zbo k u27.b) fun v28 =>
  Option.bind (apV 1 v28 x17 o14 n15) fun v31 =>
  Option.bind (x24) fun u34 =>
  Option.bind (Zdz x23 x12 (fun u=>{ u with b:=v31 })) fun x36 =>
  some (x36,x24)

def ZaG (k : Nat) (qb1 : Int) (fuse2 : Int) (qh3 : Bool) (qd4 : Int) (x6 : (List ((List UInt8) × Zaf))) (x9 : (Option Zaf)) (x12 : (List UInt8)) (o14 : Nat) (n15 : Nat) (x17 : (List UInt8)) : Option ((Int × (List ((List UInt8) × Zaf)) × Int × Bool × Int × (Option Zaf))) :=
 if qh3 = true then
  some ((8 : Int),x6,fuse2,qh3,qd4,x9)
 else
  lt1 (w64 (qd4 + (1 : Int))) fun v20 =>
  lt1 ((fuse2 == (0 : Int))) fun v21 =>
  if v21 = true then
   Option.bind (ZaR k x9 x6 qb1 fuse2 true v20 x12 o14 n15 x17) fun (x22,x23) =>
   some ((8 : Int),(x22),fuse2,true,v20,x23)
  else
   Option.bind (
    lt1 (decide (fuse2 > (0 : Int))) fun v25 =>
    if v25 = true then
     lt1 (w64 (fuse2 - (1 : Int))) fun v26 =>
     some v26
    else
     some fuse2
   ) fun x27 =>
    Option.bind (ZaR k x9 x6 qb1 x27 qh3 v20 x12 o14 n15 x17) fun (x28,x29) =>
    some ((0 : Int),(x28),x27,qh3,v20,x29)

def ZaM (k : Nat) (qn1 : (List UInt8)) (o2 : Nat) (n3 : Nat) (qb4 : Int) (qg5 : Int) (qh6 : Bool) (qd7 : Int) (x9 : (List ((List UInt8) × Zaf))) (x12 : (List UInt8)) : Option ((Int × (List ((List UInt8) × Zaf)) × Int × Bool × Int)) :=
 Option.bind (Zax k qb4 qg5 qh6 qd7 x9) fun _ =>
 Option.bind (disk_MayName k qn1) fun v19 =>
 lt1 ((!v19)) fun v20 =>
 if v20 = true then
  some ((2 : Int),x9,qg5,qh6,qd7)
 else
  lt1 (ZbF (some x9) qn1) fun f21 =>
  Option.bind (
   Option.bind (disk_Disk_Room_p_smvvvvm k qb4 qg5 qh6 qd7 x9) fun v23 =>
   lt1 (decide (((n3 : Nat) : Int) > v23)) fun v24 =>
   if v24 = true then
    some true
   else
    lt1 (Option.isNone f21) fun v25 =>
    if v25 = true then
     lt1 (decide ((List.length (Option.getD (some x9) []) : Int) ≥ (64 : Int))) fun v26 =>
     some v26
    else
     some false
  ) fun x27 =>
   if x27 = true then
    some ((5 : Int),x9,qg5,qh6,qd7)
   else
    Option.bind (ZaG k qb4 qg5 qh6 qd7 x9 f21 qn1 o2 n3 x12) fun (v28,x29,x30,x31,x32,x33) =>
    some (v28,(x29),x30,x31,x32)

def ZbG (k : Nat) (qb2 : Int) (qg3 : Int) (qh4 : Bool) (qd5 : Int) (x7 : (List ((List UInt8) × Zaf))) (x10 : (List UInt8)) : Option (((List ((List UInt8) × Zaf)))) :=
 lt1 (mdel x10 x7) fun x12 =>
 some x12

def ZaU (k : Nat) (qb1 : Int) (fuse2 : Int) (qh3 : Bool) (qd4 : Int) (x6 : (List ((List UInt8) × Zaf))) (x10 : (List UInt8)) : Option ((Int × (List ((List UInt8) × Zaf)) × Int × Bool × Int)) :=
 if qh3 = true then
  some ((8 : Int),x6,fuse2,qh3,qd4)
 else
  lt1 (w64 (qd4 + (1 : Int))) fun v12 =>
  lt1 ((fuse2 == (0 : Int))) fun v13 =>
  if v13 = true then
   Option.bind (Zb6 k) fun _ =>
   some ((8 : Int),x6,fuse2,true,v12)
  else
   Option.bind (
    lt1 (decide (fuse2 > (0 : Int))) fun v15 =>
    if v15 = true then
     lt1 (w64 (fuse2 - (1 : Int))) fun v16 =>
     some v16
    else
     some fuse2
   ) fun x17 =>
    Option.bind (ZbG k qb1 x17 qh3 v12 x6 x10) fun x18 =>
    some ((0 : Int),(x18),x17,qh3,v12)

def Zbe (k : Nat) (qn1 : (List UInt8)) (qb2 : Int) (qg3 : Int) (qh4 : Bool) (qd5 : Int) (x7 : (List ((List UInt8) × Zaf))) : Option ((Int × (List ((List UInt8) × Zaf)) × Int × Bool × Int)) :=
 Option.bind (ZaJ k qn1 qb2 qg3 qh4 qd5 x7) fun (v12,v13) =>
 lt1 ((v13 != (0 : Int))) fun v14 =>
 if v14 = true then
  some (v13,x7,qg3,qh4,qd5)
 else
  Option.bind (ZaU k qb2 qg3 qh4 qd5 x7 qn1) fun (v15,x16,x17,x18,x19) =>
  some (v15,(x16),x17,x18,x19)

def law05_do_pv_smvvvvm.b1 (k : Nat) (x26 : (List UInt8)) (x27 : Int) : Option (((List UInt8) × Int) ⊕ ((Unit))) :=
 lt1 (decide (x27 < (List.length x26 : Int))) fun v28 =>
 if v28 = true then
  Option.bind (inO x26 x27) fun i29 =>
  Option.bind (ZfP x26 i29 (9 : UInt8)) fun x30 =>
  lt1 (w64 (x27 + (1 : Int))) fun v31 =>
  some (.inl (x30,v31))
 else
  some (.inr ())

def law05_do_pv_smvvvvm (k : Nat) (a1 : Za7) (qb2 : Int) (qg3 : Int) (qh4 : Bool) (qd5 : Int) (x7 : (List ((List UInt8) × Zaf))) : Option ((Int × (List ((List UInt8) × Zaf)) × Int × Bool × Int)) :=
 Option.bind (
  lt1 ((a1.Kind == (1 : Int))) fun v11 =>
  if v11 = true then
   Option.bind (apL 1 ([] : (List UInt8)) a1.B) fun v12 =>
   Option.bind (apL 1 v12 ([(7 : UInt8)] : (List UInt8))) fun x15 =>
   Option.bind (Zhx 0 (List.length x15) (0 : Int) (List.length a1.B : Int)) fun (o18,n19) =>
   Option.bind (ZaM k a1.Name o18 n19 qb2 qg3 qh4 qd5 x7 x15) fun (v20,x21,x22,x23,x24) =>
   Option.bind (
    Zcl (fun s=>law05_do_pv_smvvvvm.b1 k s.1 s.2) k (x15,(0 : Int))
   ) fun _ =>
    Option.bind (ZaX k v20) fun _ =>
    some (.inr (v20,(x21),x22,x23,x24))
  else
   lt1 ((a1.Kind == (2 : Int))) fun v33 =>
   if v33 = true then
    Option.bind (Zbb k a1.Name qb2 qg3 qh4 qd5 x7) fun (v34,x35,x36,x37,x38) =>
    Option.bind (ZaX k v34) fun _ =>
    some (.inr (v34,(x35),x36,x37,x38))
   else
    lt1 ((a1.Kind == (3 : Int))) fun v40 =>
    if v40 = true then
     Option.bind (ZaN k a1.Name a1.N qb2 qg3 qh4 qd5 x7) fun (v41,x42,x43,x44,x45) =>
     Option.bind (ZaX k v41) fun _ =>
     some (.inr (v41,(x42),x43,x44,x45))
    else
     lt1 ((a1.Kind == (4 : Int))) fun v47 =>
     if v47 = true then
      Option.bind (ZaV k a1.Name a1.To qb2 qg3 qh4 qd5 x7) fun (v48,x49,x50,x51,x52) =>
      Option.bind (ZaX k v48) fun _ =>
      some (.inr (v48,(x49),x50,x51,x52))
     else
      lt1 ((a1.Kind == (5 : Int))) fun v55 =>
      if v55 = true then
       Option.bind (Zbe k a1.Name qb2 qg3 qh4 qd5 x7) fun (v56,x57,x58,x59,x60) =>
       Option.bind (ZaX k v56) fun _ =>
       some (.inr (v56,(x57),x58,x59,x60))
      else
       lt1 ((a1.Kind == (6 : Int))) fun v62 =>
       if v62 = true then
        Option.bind (ZbH k a1.N qb2 qg3 qh4 qd5 x7) fun x63 =>
        some (.inl x63)
       else
        lt1 ((a1.Kind == (7 : Int))) fun v64 =>
        if v64 = true then
         Option.bind (disk_Disk_Crash_pv_smvvvvm k a1.Keep qb2 qg3 qh4 qd5 x7) fun v65 =>
         some (.inr ((0 : Int),(v65),(-1 : Int),false,(0 : Int)))
        else
         some (.inl qg3)
  : Option ((Int) ⊕ ((Int × (List ((List UInt8) × Zaf)) × Int × Bool × Int)))) fun t=>match t with
 | (.inl qg69) =>
  some ((0 : Int),x7,qg69,qh4,qd5)
 | (.inr q) =>
  some q

def Zc3 (k : Nat) (ok1 : Bool) : Option ((Int)) :=
 if ok1 = true then
  some (0 : Int)
 else
  some (8 : Int)

def ref05_Disk_at_pv_sovvvv.b1 (k : Nat) (x7 : (List Zah)) (qn1 : (List UInt8)) (i10 : Int) : Option ((Int) ⊕ ((Int))) :=
 Option.bind (
  lt1 (decide (i10 < (List.length x7 : Int))) fun v11 =>
  if v11 = true then
   Option.bind (inO x7 i10) fun i12 =>
   Option.bind (x7[i12]?) fun u13 =>
   lt1 (decide (u13.Name < qn1)) fun v14 =>
   some v14
  else
   some false
 ) fun x15 =>
  if x15 = true then
   lt1 (w64 (i10 + (1 : Int))) fun v16 =>
   some (.inl v16)
  else
   some (.inr i10)

def ref05_Disk_at_pv_sovvvv (k : Nat) (qn1 : (List UInt8)) (qc2 : Int) (ql3 : Int) (qj4 : Bool) (qe5 : Int) (x7 : (List Zah)) : Option ((Int × Bool)) :=
 Option.bind (
  Zcl (fun s=>ref05_Disk_at_pv_sovvvv.b1 k x7 qn1 s) k (0 : Int)
 ) fun i17 =>
  Option.bind (
   lt1 (decide (i17 < (List.length x7 : Int))) fun v18 =>
   if v18 = true then
    Option.bind (inO x7 i17) fun i19 =>
    Option.bind (x7[i19]?) fun u20 =>
    lt1 ((u20.Name == qn1)) fun v21 =>
    some v21
   else
    some false
  ) fun x22 =>
   some (i17,x22)

def ZaO (k : Nat) (qn1 : (List UInt8)) (qc2 : Int) (ql3 : Int) (qj4 : Bool) (qe5 : Int) (x7 : (List Zah)) : Option ((Int × Int)) :=
 Option.bind (ref05_MayName k qn1) fun v10 =>
 lt1 ((!v10)) fun v11 =>
 if v11 = true then
  some ((0 : Int),(2 : Int))
 else
  Option.bind (ref05_Disk_at_pv_sovvvv k qn1 qc2 ql3 qj4 qe5 x7) fun (v12,v13) =>
  lt1 ((!v13)) fun v14 =>
  if v14 = true then
   some ((0 : Int),(6 : Int))
  else
   some (v12,(0 : Int))

def ZaK (k : Nat) (qc1 : Int) (ql2 : Int) (qj3 : Bool) (qe4 : Int) (x6 : (List Zah)) : Option ((Bool × Bool × Int × Bool × Int)) :=
 if qj3 = true then
  some (false,false,ql2,qj3,qe4)
 else
  lt1 (w64 (qe4 + (1 : Int))) fun v9 =>
  lt1 ((ql2 == (0 : Int))) fun v10 =>
  if v10 = true then
   some (false,true,ql2,true,v9)
  else
   Option.bind (
    lt1 (decide (ql2 > (0 : Int))) fun v11 =>
    if v11 = true then
     lt1 (w64 (ql2 - (1 : Int))) fun v12 =>
     some v12
    else
     some ql2
   ) fun x13 =>
    some (true,false,x13,qj3,v9)

def Zbk (k : Nat) (qn1 : (List UInt8)) (qc2 : Int) (ql3 : Int) (qj4 : Bool) (qe5 : Int) (x7 : (List Zah)) : Option ((Int × (List Zah) × Int × Bool × Int)) :=
 Option.bind (ZaO k qn1 qc2 ql3 qj4 qe5 x7) fun (v10,v11) =>
 lt1 ((v11 != (0 : Int))) fun v12 =>
 if v12 = true then
  some (v11,x7,ql3,qj4,qe5)
 else
  Option.bind (ZaK k qc2 ql3 qj4 qe5 x7) fun (v13,v14,x15,x16,x17) =>
  Option.bind (
   if v13 = true then
    Option.bind (inO x7 v10) fun i18 =>
    Option.bind (x7[i18]?) fun u19 =>
    Option.bind (inO x7 v10) fun i20 =>
    Option.bind (setF x7 i20 (fun u=>{ u with Lasts:=(List.length u19.B : Int) })) fun x21 =>
    some x21
   else
    some x7
  ) fun x22 =>
   Option.bind (Zc3 k v13) fun v23 =>
   some (v23,x22,x15,x16,x17)

def ZaI (k : Nat) (a1 : (List UInt8)) (a2 : Int) (qc3 : Int) (ql4 : Int) (qj5 : Bool) (qe6 : Int) (x8 : (List Zah)) : Option ((Int × (List Zah) × Int × Bool × Int)) :=
 Option.bind (ZaO k a1 qc3 ql4 qj5 qe6 x8) fun (v11,v12) =>
 Option.bind (
  lt1 ((v12 == (2 : Int))) fun v13 =>
  lt1 (decide (a2 < (0 : Int))) fun v14 =>
  lt1 (bif v13 then true else v14) fun v15 =>
  lt1 ((v12 == (0 : Int))) fun v16 =>
  if v15 = true then
   some true
  else
   if v16 = true then
    Option.bind (inO x8 v11) fun i17 =>
    Option.bind (x8[i17]?) fun u18 =>
    lt1 (decide (a2 > (List.length u18.B : Int))) fun v19 =>
    some v19
   else
    some false
 ) fun x20 =>
  if x20 = true then
   some ((2 : Int),x8,ql4,qj5,qe6)
  else
   lt1 ((v12 != (0 : Int))) fun v21 =>
   if v21 = true then
    some (v12,x8,ql4,qj5,qe6)
   else
    Option.bind (ZaK k qc3 ql4 qj5 qe6 x8) fun (v22,v23,x24,x25,x26) =>
    Option.bind (
     if v22 = true then
      Option.bind (inO x8 v11) fun i27 =>
      Option.bind (x8[i27]?) fun u28 =>
      Option.bind (subL u28.B (0) a2) fun v29 =>
      Option.bind (inO x8 v11) fun i30 =>
      Option.bind (setF x8 i30 (fun u=>{ u with B:=v29 })) fun x31 =>
      Option.bind (inO x31 v11) fun i32 =>
      Option.bind (x31[i32]?) fun u33 =>
      lt1 (decide (u33.Lasts > a2)) fun v34 =>
      if v34 = true then
       Option.bind (inO x31 v11) fun i35 =>
       Option.bind (setF x31 i35 (fun u=>{ u with Lasts:=a2 })) fun x36 =>
       some x36
      else
       some x31
     else
      some x8
    ) fun x37 =>
     Option.bind (Zc3 k v22) fun v38 =>
     some (v38,x37,x24,x25,x26)

def Zbl (k : Nat) (i1 : Int) (qc2 : Int) (ql3 : Int) (qj4 : Bool) (qe5 : Int) (x7 : (List Zah)) : Option (((List Zah))) :=
 Option.bind (subL x7 (0) i1) fun v10 =>
 Option.bind (apL 48 ([] : (List Zah)) v10) fun v11 =>
 lt1 (w64 (i1 + (1 : Int))) fun v14 =>
 Option.bind (subL x7 v14 (List.length x7 : Int)) fun v15 =>
 Option.bind (apL 48 v11 v15) fun x16 =>
 some x16

def Zdo (k : Nat) (a1 : (List UInt8)) (b2 : (List UInt8)) : Option ((Bool)) :=
 lt1 ((a1 == b2)) fun v3 =>
 some v3

def disk_Disk_Same_pp_smvvvvmsmvvvvm.y1 (k : Nat) (x6 : (List ((List UInt8) × Zaf))) (x14 : (List ((List UInt8) × Zaf))) (a30 : (List UInt8)) (a31 : Int) : Option ((Unit) ⊕ ((Unit))) :=
 lt1 (ZbF (some x6) a30) fun f32 =>
 lt1 (ZbF (some x14) a30) fun f33 =>
 Option.bind (
  lt1 (Option.isNone f33) fun v34 =>
  if v34 = true then
   some true
  else
   Option.bind (f32) fun u35 =>
   Option.bind (ZbF (some x6) a30) fun u36 =>
   Option.bind (f33) fun u37 =>
   Option.bind (ZbF (some x14) a30) fun u38 =>
   Option.bind (Zdo k u36.b u38.b) fun v39 =>
   lt1 ((!v39)) fun v40 =>
   if v40 = true then
    some true
   else
    Option.bind (f32) fun u41 =>
    Option.bind (ZbF (some x6) a30) fun u42 =>
    Option.bind (f33) fun u43 =>
    Option.bind (ZbF (some x14) a30) fun u44 =>
    lt1 ((u42.lasts != u44.lasts)) fun v45 =>
    some v45
 ) fun x46 =>
  if x46 = true then
   some (.inr ())
  else
   some (.inl ())

def disk_Disk_Same_pp_smvvvvmsmvvvvm (k : Nat) (qb1 : Int) (fuse2 : Int) (qh3 : Bool) (qd4 : Int) (x6 : (List ((List UInt8) × Zaf))) (qb9 : Int) (qg10 : Int) (qh11 : Bool) (qd12 : Int) (x14 : (List ((List UInt8) × Zaf))) : Option ((Bool)) :=
 Option.bind (
  Option.bind (Zax k qb1 fuse2 qh3 qd4 x6) fun _ =>
  Option.bind (Zax k qb9 qg10 qh11 qd12 x14) fun _ =>
  some ()
 ) fun _ =>
  Option.bind (
   Option.bind (disk_Disk_Files_p_smvvvvm k qb1 fuse2 qh3 qd4 x6) fun (v22,x23) =>
   Option.bind (disk_Disk_Files_1_ypp_loo k (fun (s : Unit) (u : (List UInt8) × Int)=>disk_Disk_Same_pp_smvvvvmsmvvvvm.y1 k x6 x14 u.1 u.2) (Sum.inl ()) v22 x23) fun tv3=>match tv3 with
   | (.inl _) =>
    some (.inl ())
   | (.inr _) =>
    some (.inr false)
   : Option ((Unit) ⊕ ((Bool)))) fun t=>match t with
  | (.inl _) =>
   Option.bind (
    lt1 ((qb1 == qb9)) fun v49 =>
    if v49 = true then
     lt1 (((List.length (Option.getD (some x6) []) : Int) == (List.length (Option.getD (some x14) []) : Int))) fun v50 =>
     some v50
    else
     some false
   ) fun x51 =>
    some x51
  | (.inr q) =>
   some q

def ref05_Disk_Room_p_sovvvv.b1 (k : Nat) (x6 : (List Zah)) (n9 : Int) (i10 : Int) : Option ((Int × Int) ⊕ ((Int))) :=
 lt1 (decide (i10 < (List.length x6 : Int))) fun v11 =>
 if v11 = true then
  Option.bind (inO x6 i10) fun i12 =>
  Option.bind (x6[i12]?) fun u13 =>
  lt1 (w64 (n9 - (List.length u13.B : Int))) fun v14 =>
  lt1 (w64 (i10 + (1 : Int))) fun v15 =>
  some (.inl (v14,v15))
 else
  some (.inr n9)

def ref05_Disk_Room_p_sovvvv (k : Nat) (qc1 : Int) (ql2 : Int) (qj3 : Bool) (qe4 : Int) (x6 : (List Zah)) : Option ((Int)) :=
 Option.bind (
  Zcl (fun s=>ref05_Disk_Room_p_sovvvv.b1 k x6 s.1 s.2) k (qc1,(0 : Int))
 ) fun n16 =>
  some n16

def law05_once_ppv_smvvvvmsovvvv.y1 (k : Nat) (x15 : (List Zah)) (qo1 : Int) (n30 : Int) (a31 : (List UInt8)) (a32 : Int) : Option ((Int) ⊕ ((Bool × Int))) :=
 Option.bind (
  lt1 (decide (n30 ≥ (List.length x15 : Int))) fun v33 =>
  if v33 = true then
   some true
  else
   Option.bind (inO x15 n30) fun i34 =>
   Option.bind (x15[i34]?) fun u35 =>
   lt1 ((a31 != u35.Name)) fun v36 =>
   if v36 = true then
    some true
   else
    Option.bind (inO x15 n30) fun i37 =>
    Option.bind (x15[i37]?) fun u38 =>
    lt1 ((a32 != (List.length u38.B : Int))) fun v39 =>
    some v39
 ) fun x40 =>
  if x40 = true then
   some (.inr (false,n30))
  else
   lt1 (w64 (n30 + (1 : Int))) fun v41 =>
   lt1 ((v41 == qo1)) fun v42 =>
   if v42 = true then
    some (.inr (true,v41))
   else
    some (.inl v41)

def law05_once_ppv_smvvvvmsovvvv (k : Nat) (qo1 : Int) (qb2 : Int) (qg3 : Int) (qh4 : Bool) (qd5 : Int) (x7 : (List ((List UInt8) × Zaf))) (qc10 : Int) (ql11 : Int) (qj12 : Bool) (qe13 : Int) (x15 : (List Zah)) : Option ((Bool)) :=
 Option.bind (disk_Disk_Files_p_smvvvvm k qb2 qg3 qh4 qd5 x7) fun (v22,x23) =>
 Option.bind (
  Option.bind (disk_Disk_Files_1_ypp_loo k (fun (s : Int) (u : (List UInt8) × Int)=>law05_once_ppv_smvvvvmsovvvv.y1 k x15 qo1 s u.1 u.2) (Sum.inl (0 : Int)) v22 x23) fun tv2=>match tv2 with
  | (.inl n44) =>
   some (.inl n44)
  | (.inr (x45,x46)) =>
   some (.inr x45)
  : Option ((Int) ⊕ ((Bool)))) fun t=>match t with
 | (.inl n47) =>
  lt1 ((n47 == (List.length x15 : Int))) fun v49 =>
  some v49
 | (.inr q) =>
  some q

def law05_looks_ppvv_smvvvvmsovvvv.b1 (k : Nat) (x45 : (List UInt8)) (x46 : Int) : Option (((List UInt8) × Int) ⊕ ((Unit))) :=
 lt1 (decide (x46 < (List.length x45 : Int))) fun v47 =>
 if v47 = true then
  Option.bind (inO x45 x46) fun i48 =>
  Option.bind (x45[i48]?) fun v49 =>
  lt1 ((v49 + (1 : UInt8))) fun v50 =>
  Option.bind (inO x45 x46) fun i51 =>
  Option.bind (ZfP x45 i51 v50) fun x52 =>
  lt1 (w64 (x46 + (1 : Int))) fun v53 =>
  some (.inl (x52,v53))
 else
  some (.inr ())

def law05_looks_ppvv_smvvvvmsovvvv (k : Nat) (a1 : (List UInt8)) (a2 : Int) (qb3 : Int) (qg4 : Int) (qh5 : Bool) (qd6 : Int) (x8 : (List ((List UInt8) × Zaf))) (qc11 : Int) (ql12 : Int) (qj13 : Bool) (qe14 : Int) (x16 : (List Zah)) : Option ((Bool)) :=
 Option.bind (ZaP k a1 qb3 qg4 qh5 qd6 x8) fun (v19,v20) =>
 Option.bind (Za1 k a1 qb3 qg4 qh5 qd6 x8) fun (v23,v24) =>
 Option.bind (ZaO k a1 qc11 ql12 qj13 qe14 x16) fun (v25,v26) =>
 Option.bind (
  Option.bind (ZaX k v20) fun _ =>
  lt1 ((v20 != v26)) fun v28 =>
  Option.bind (if (!v28) = true then ZaX k v24 else some default) fun _ =>
  lt1 ((v24 != v26)) fun v30 =>
  lt1 (bif v28 then true else v30) fun v31 =>
  some v31
 ) fun x32 =>
  if x32 = true then
   some false
  else
   Option.bind (
    lt1 ((v26 != (0 : Int))) fun v33 =>
    if v33 = true then
     Option.bind (
      lt1 (((List.length v19 : Int) != (0 : Int))) fun v34 =>
      lt1 ((v23 != (0 : Int))) fun v35 =>
      lt1 (bif v34 then true else v35) fun v36 =>
      some v36
     ) fun x37 =>
      if x37 = true then
       some (.inr false)
      else
       some (.inl ())
    else
     Option.bind (
      Option.bind (inO x16 v25) fun i38 =>
      Option.bind (x16[i38]?) fun u39 =>
      lt1 ((v19 != u39.B)) fun v40 =>
      if v40 = true then
       some true
      else
       Option.bind (inO x16 v25) fun i41 =>
       Option.bind (x16[i41]?) fun u42 =>
       lt1 ((v23 != u42.Lasts)) fun v43 =>
       some v43
     ) fun x44 =>
      if x44 = true then
       some (.inr false)
      else
       some (.inl ())
    : Option ((Unit) ⊕ ((Bool)))) fun t=>match t with
   | (.inl _) =>
    Option.bind (
     Zcl (fun s=>law05_looks_ppvv_smvvvvmsovvvv.b1 k s.1 s.2) k (v19,(0 : Int))
    ) fun _ =>
     Option.bind (
      Option.bind (disk_Disk_Room_p_smvvvvm k qb3 qg4 qh5 qd6 x8) fun v54 =>
      Option.bind (ref05_Disk_Room_p_sovvvv k qc11 ql12 qj13 qe14 x16) fun v55 =>
      lt1 ((v54 == v55)) fun v56 =>
      if v56 = true then
       Option.bind (ZbA k qb3 qg4 qh5 qd6 x8) fun _ =>
       lt1 ((qh5 == qj13)) fun v58 =>
       if v58 = true then
        Option.bind (Zbp k qb3 qg4 qh5 qd6 x8) fun _ =>
        lt1 ((qd6 == qe14)) fun v60 =>
        if v60 = true then
         Option.bind (law05_once_ppv_smvvvvmsovvvv k a2 qb3 qg4 qh5 qd6 x8 qc11 ql12 qj13 qe14 x16) fun v61 =>
         if v61 = true then
          Option.bind (law05_once_ppv_smvvvvmsovvvv k (0 : Int) qb3 qg4 qh5 qd6 x8 qc11 ql12 qj13 qe14 x16) fun v62 =>
          some v62
         else
          some false
        else
         some false
       else
        some false
      else
       some false
     ) fun x63 =>
      some x63
   | (.inr q) =>
    some q

def Zay (k : Nat) (a1 : (List UInt8)) (a2 : (List UInt8)) (qc3 : Int) (ql4 : Int) (qj5 : Bool) (qe6 : Int) (x8 : (List Zah)) : Option ((Int × (List Zah) × Int × Bool × Int)) :=
 Option.bind (ref05_MayName k a1) fun v11 =>
 lt1 ((!v11)) fun v12 =>
 if v12 = true then
  some ((2 : Int),x8,ql4,qj5,qe6)
 else
  Option.bind (ref05_Disk_at_pv_sovvvv k a1 qc3 ql4 qj5 qe6 x8) fun (v13,v14) =>
  Option.bind (
   Option.bind (ref05_Disk_Room_p_sovvvv k qc3 ql4 qj5 qe6 x8) fun v15 =>
   lt1 (decide ((List.length a2 : Int) > v15)) fun v16 =>
   lt1 ((!v14)) fun v17 =>
   if v16 = true then
    some true
   else
    if v17 = true then
     lt1 (decide ((List.length x8 : Int) ≥ (64 : Int))) fun v18 =>
     some v18
    else
     some false
  ) fun x19 =>
   if x19 = true then
    some ((5 : Int),x8,ql4,qj5,qe6)
   else
    Option.bind (ZaK k qc3 ql4 qj5 qe6 x8) fun (v20,v21,x22,x23,x24) =>
    Option.bind (
     Option.bind (
      lt1 (bif v20 then true else v21) fun v25 =>
      some v25
     ) fun x26 =>
      if x26 = true then
       Option.bind (
        lt1 ((!v14)) fun v27 =>
        if v27 = true then
         Option.bind (subL x8 (0) v13) fun v28 =>
         Option.bind (apL 48 ([] : (List Zah)) v28) fun v29 =>
         Option.bind (apL 48 v29 ([(Zah.mk a1 ([] : (List UInt8)) (0 : Int))] : (List Zah))) fun x32 =>
         Option.bind (subL x8 v13 (List.length x8 : Int)) fun v35 =>
         Option.bind (apL 48 x32 v35) fun x36 =>
         some x36
        else
         some x8
       ) fun L39 =>
        Option.bind (inO L39 v13) fun i42 =>
        Option.bind (L39[i42]?) fun u43 =>
        Option.bind (apL 1 ([] : (List UInt8)) u43.B) fun v44 =>
        Option.bind (apL 1 v44 a2) fun x47 =>
        Option.bind (inO L39 v13) fun i50 =>
        Option.bind (setF L39 i50 (fun u=>{ u with B:=x47 })) fun x51 =>
        some x51
      else
       some x8
    ) fun x52 =>
     Option.bind (Zc3 k v20) fun v55 =>
     some (v55,x52,x22,x23,x24)

def Zaz (k : Nat) (a1 : (List UInt8)) (a2 : (List UInt8)) (qc3 : Int) (ql4 : Int) (qj5 : Bool) (qe6 : Int) (x8 : (List Zah)) : Option ((Int × (List Zah) × Int × Bool × Int)) :=
 Option.bind (ZaO k a1 qc3 ql4 qj5 qe6 x8) fun (v11,v12) =>
 Option.bind (
  lt1 ((v12 == (2 : Int))) fun v13 =>
  Option.bind (if (!v13) = true then ref05_MayName k a2 else some default) fun v14 =>
  lt1 ((!v14)) fun v15 =>
  lt1 (bif v13 then true else v15) fun v16 =>
  some v16
 ) fun x17 =>
  if x17 = true then
   some ((2 : Int),x8,ql4,qj5,qe6)
  else
   lt1 ((v12 != (0 : Int))) fun v18 =>
   if v18 = true then
    some (v12,x8,ql4,qj5,qe6)
   else
    Option.bind (ZaK k qc3 ql4 qj5 qe6 x8) fun (v19,v20,x21,x22,x23) =>
    Option.bind (
     Option.bind (
      lt1 ((a1 != a2)) fun v24 =>
      lt1 (bif v19 then v24 else false) fun v25 =>
      some v25
     ) fun x26 =>
      if x26 = true then
       Option.bind (inO x8 v11) fun i27 =>
       Option.bind (x8[i27]?) fun v28 =>
       lt1 ({ v28 with Name:=a2 }) fun x30 =>
       Option.bind (Zbl k v11 qc3 x21 x22 x23 x8) fun x31 =>
       Option.bind (ref05_Disk_at_pv_sovvvv k a2 qc3 x21 x22 x23 x31) fun (v34,v35) =>
       Option.bind (
        if v35 = true then
         Option.bind (Zbl k v34 qc3 x21 x22 x23 x31) fun x36 =>
         some x36
        else
         some x31
       ) fun L39 =>
        Option.bind (subL L39 (0) v34) fun v42 =>
        Option.bind (apL 48 ([] : (List Zah)) v42) fun v43 =>
        Option.bind (apL 48 v43 ([x30] : (List Zah))) fun x46 =>
        Option.bind (subL L39 v34 (List.length L39 : Int)) fun v49 =>
        Option.bind (apL 48 x46 v49) fun x50 =>
        some x50
      else
       some x8
    ) fun x53 =>
     Option.bind (Zc3 k v19) fun v56 =>
     some (v56,x53,x21,x22,x23)

def Zbd (k : Nat) (qn1 : (List UInt8)) (qc2 : Int) (ql3 : Int) (qj4 : Bool) (qe5 : Int) (x7 : (List Zah)) : Option ((Int × (List Zah) × Int × Bool × Int)) :=
 Option.bind (ZaO k qn1 qc2 ql3 qj4 qe5 x7) fun (v10,v11) =>
 lt1 ((v11 != (0 : Int))) fun v12 =>
 if v12 = true then
  some (v11,x7,ql3,qj4,qe5)
 else
  Option.bind (ZaK k qc2 ql3 qj4 qe5 x7) fun (v13,v14,x15,x16,x17) =>
  Option.bind (
   if v13 = true then
    Option.bind (Zbl k v10 qc2 x15 x16 x17 x7) fun x18 =>
    some x18
   else
    some x7
  ) fun x21 =>
   Option.bind (Zc3 k v13) fun v24 =>
   some (v24,x21,x15,x16,x17)

def ZbL (k : Nat) (n1 : Int) (qc2 : Int) (ql3 : Int) (qj4 : Bool) (qe5 : Int) (x7 : (List Zah)) : Option ((Int)) :=
 lt1 (decide (n1 < (0 : Int))) fun v10 =>
 if v10 = true then
  some (-1 : Int)
 else
  some n1

def ref05_Disk_Crash_pv_sovvvv.b1 (k : Nat) (x7 : (List Zah)) (a1 : (List Int)) (L11 : (List Zah)) (x12 : Int) (x13 : Int) : Option (((List Zah) × Int × Int) ⊕ (((List Zah)))) :=
 lt1 (decide (x13 < (List.length x7 : Int))) fun v16 =>
 if v16 = true then
  Option.bind (inO x7 x13) fun i17 =>
  Option.bind (x7[i17]?) fun v18 =>
  lt1 (w64 ((List.length v18.B : Int) - v18.Lasts)) fun v20 =>
  Option.bind (
   lt1 (decide (v20 > (0 : Int))) fun v21 =>
   if v21 = true then
    Option.bind (
     Option.bind (
      lt1 (decide (x12 < (List.length a1 : Int))) fun v22 =>
      Option.bind (if v22 = true then idxL a1 x12 else some default) fun v23 =>
      lt1 (decide (v23 > (0 : Int))) fun v24 =>
      lt1 (bif v22 then v24 else false) fun v25 =>
      some v25
     ) fun x26 =>
      if x26 = true then
       Option.bind (idxL a1 x12) fun v27 =>
       lt1 (w64 (v20 + (1 : Int))) fun v28 =>
       Option.bind (modI v27 v28) fun v29 =>
       lt1 (w64 (v18.Lasts + v29)) fun v30 =>
       some v30
      else
       some v18.Lasts
    ) fun x31 =>
     lt1 (w64 (x12 + (1 : Int))) fun v32 =>
     some (v32,x31)
   else
    some (x12,v18.Lasts)
  ) fun (x33,x34) =>
   Option.bind (subL v18.B (0) x34) fun v35 =>
   lt1 ({ v18 with B:=v35 }) fun x36 =>
   lt1 ({ x36 with Lasts:=x34 }) fun x37 =>
   Option.bind (apL 48 L11 ([x37] : (List Zah))) fun x38 =>
   lt1 (w64 (x13 + (1 : Int))) fun v41 =>
   some (.inl (x38,x33,v41))
 else
  some (.inr L11)

def ref05_Disk_Crash_pv_sovvvv (k : Nat) (a1 : (List Int)) (qc2 : Int) (ql3 : Int) (qj4 : Bool) (qe5 : Int) (x7 : (List Zah)) : Option (((List Zah))) :=
 Option.bind (
  Zcl (fun s=>ref05_Disk_Crash_pv_sovvvv.b1 k x7 a1 s.1 s.2.1 s.2.2) k (([] : (List Zah)),(0 : Int),(0 : Int))
 ) fun L42 =>
  some L42

def ZaD (k : Nat) (a1 : Za7) (qc2 : Int) (ql3 : Int) (qj4 : Bool) (qe5 : Int) (x7 : (List Zah)) : Option ((Int × (List Zah) × Int × Bool × Int)) :=
 Option.bind (
  lt1 ((a1.Kind == (1 : Int))) fun v11 =>
  if v11 = true then
   Option.bind (Zay k a1.Name a1.B qc2 ql3 qj4 qe5 x7) fun (v12,x13,x14,x15,x16) =>
   some (.inr (v12,x13,x14,x15,x16))
  else
   lt1 ((a1.Kind == (2 : Int))) fun v19 =>
   if v19 = true then
    Option.bind (Zbk k a1.Name qc2 ql3 qj4 qe5 x7) fun (v20,x21,x22,x23,x24) =>
    some (.inr (v20,x21,x22,x23,x24))
   else
    lt1 ((a1.Kind == (3 : Int))) fun v25 =>
    if v25 = true then
     Option.bind (ZaI k a1.Name a1.N qc2 ql3 qj4 qe5 x7) fun (v26,x27,x28,x29,x30) =>
     some (.inr (v26,x27,x28,x29,x30))
    else
     lt1 ((a1.Kind == (4 : Int))) fun v31 =>
     if v31 = true then
      Option.bind (Zaz k a1.Name a1.To qc2 ql3 qj4 qe5 x7) fun (v32,x33,x34,x35,x36) =>
      some (.inr (v32,x33,x34,x35,x36))
     else
      lt1 ((a1.Kind == (5 : Int))) fun v39 =>
      if v39 = true then
       Option.bind (Zbd k a1.Name qc2 ql3 qj4 qe5 x7) fun (v40,x41,x42,x43,x44) =>
       some (.inr (v40,x41,x42,x43,x44))
      else
       lt1 ((a1.Kind == (6 : Int))) fun v47 =>
       if v47 = true then
        lt1 ((!qj4)) fun v48 =>
        if v48 = true then
         Option.bind (ZbL k a1.N qc2 ql3 qj4 qe5 x7) fun x49 =>
         some (.inl x49)
        else
         some (.inl ql3)
       else
        lt1 ((a1.Kind == (7 : Int))) fun v50 =>
        if v50 = true then
         Option.bind (ref05_Disk_Crash_pv_sovvvv k a1.Keep qc2 ql3 qj4 qe5 x7) fun v51 =>
         some (.inr ((0 : Int),v51,(-1 : Int),false,(0 : Int)))
        else
         some (.inl ql3)
  : Option ((Int) ⊕ ((Int × (List Zah) × Int × Bool × Int)))) fun t=>match t with
 | (.inl ql55) =>
  some ((0 : Int),x7,ql55,qj4,qe5)
 | (.inr q) =>
  some q

def ref05_Disk_Same_pp_sovvvvsovvvv.b1 (k : Nat) (x6 : (List Zah)) (x14 : (List Zah)) (x20 : Int) : Option ((Int) ⊕ ((Unit) ⊕ ((Bool)))) :=
 lt1 (decide (x20 < (List.length x6 : Int))) fun v21 =>
 if v21 = true then
  Option.bind (
   Option.bind (inO x6 x20) fun i22 =>
   Option.bind (x6[i22]?) fun u23 =>
   Option.bind (inO x14 x20) fun i24 =>
   Option.bind (x14[i24]?) fun u25 =>
   lt1 ((u23.Name != u25.Name)) fun v26 =>
   if v26 = true then
    some true
   else
    Option.bind (inO x6 x20) fun i27 =>
    Option.bind (x6[i27]?) fun u28 =>
    Option.bind (inO x14 x20) fun i29 =>
    Option.bind (x14[i29]?) fun u30 =>
    lt1 ((u28.B != u30.B)) fun v31 =>
    if v31 = true then
     some true
    else
     Option.bind (inO x6 x20) fun i32 =>
     Option.bind (x6[i32]?) fun u33 =>
     Option.bind (inO x14 x20) fun i34 =>
     Option.bind (x14[i34]?) fun u35 =>
     lt1 ((u33.Lasts != u35.Lasts)) fun v36 =>
     some v36
  ) fun x37 =>
   if x37 = true then
    some (.inr (.inr false))
   else
    lt1 (w64 (x20 + (1 : Int))) fun v38 =>
    some (.inl v38)
 else
  some (.inr (.inl ()))

def ref05_Disk_Same_pp_sovvvvsovvvv (k : Nat) (qc1 : Int) (ql2 : Int) (qj3 : Bool) (qe4 : Int) (x6 : (List Zah)) (qc9 : Int) (ql10 : Int) (qj11 : Bool) (qe12 : Int) (x14 : (List Zah)) : Option ((Bool)) :=
 Option.bind (
  lt1 ((qc1 != qc9)) fun v17 =>
  if v17 = true then
   some true
  else
   lt1 (((List.length x6 : Int) != (List.length x14 : Int))) fun v18 =>
   some v18
 ) fun x19 =>
  if x19 = true then
   some false
  else
   Option.bind (
    Option.bind (Zcl (fun s=>ref05_Disk_Same_pp_sovvvvsovvvv.b1 k x6 x14 s) k (0 : Int)) fun t=>match t with
    | (.inl _) =>
     some (.inl ())
    | (.inr q) =>
     some (.inr q)
    : Option ((Unit) ⊕ ((Bool)))) fun t=>match t with
   | (.inl _) =>
    some true
   | (.inr q) =>
    some q

def ZbN (k : Nat) (qc1 : Int) (ql2 : Int) (qj3 : Bool) (qe4 : Int) (x6 : (List Zah)) : Option (((List Zah))) :=
 Option.bind (apL 48 ([] : (List Zah)) x6) fun v10 =>
 some v10

def law05_DiskPlays.b1 (k : Nat) (a2 : (List Za7)) (t1 : Int) (a3 : Int) (x17 : (List ((List UInt8) × Zaf))) (qg18 : Int) (qh19 : Bool) (qd20 : Int) (L21 : (List Zah)) (ql22 : Int) (qj23 : Bool) (qe24 : Int) (x25 : Int) : Option (((List ((List UInt8) × Zaf)) × Int × Bool × Int × (List Zah) × Int × Bool × Int × Int) ⊕ ((Unit) ⊕ ((Bool)))) :=
 lt1 (decide (x25 < (List.length a2 : Int))) fun v32 =>
 if v32 = true then
  Option.bind (disk_Disk_Copy_p_smvvvvm k t1 qg18 qh19 qd20 x17) fun v33 =>
  Option.bind (idxL a2 x25) fun v37 =>
  Option.bind (law05_do_pv_smvvvvm k v37 t1 qg18 qh19 qd20 x17) fun (v38,v39,x40,x41,x42) =>
  Option.bind (ZbN k t1 ql22 qj23 qe24 L21) fun v46 =>
  Option.bind (idxL a2 x25) fun v50 =>
  Option.bind (ZaD k v50 t1 ql22 qj23 qe24 L21) fun (v51,v52,x53,x54,x55) =>
  Option.bind (
   lt1 ((v38 != v51)) fun v59 =>
   Option.bind (if (!v59) = true then idxL a2 x25 else some default) fun v60 =>
   if v59 = true then
    some true
   else
    Option.bind (law05_looks_ppvv_smvvvvmsovvvv k v60.Name a3 t1 x40 x41 x42 (v39) t1 x53 x54 x55 v52) fun v61 =>
    lt1 ((!v61)) fun v62 =>
    if v62 = true then
     some true
    else
     Option.bind (disk_Disk_Same_pp_smvvvvmsmvvvvm k t1 x40 x41 x42 (v39) t1 qg18 qh19 qd20 (v33)) fun v63 =>
     Option.bind (ref05_Disk_Same_pp_sovvvvsovvvv k t1 x53 x54 x55 v52 t1 ql22 qj23 qe24 v46) fun v64 =>
     lt1 ((v63 != v64)) fun v65 =>
     Option.bind (if (!v65) = true then idxL a2 x25 else some default) fun v66 =>
     if v65 = true then
      some true
     else
      Option.bind (law05_looks_ppvv_smvvvvmsovvvv k v66.Name (0 : Int) t1 qg18 qh19 qd20 (v33) t1 ql22 qj23 qe24 v46) fun v67 =>
      lt1 ((!v67)) fun v68 =>
      Option.bind (if (!v68) = true then idxL a2 x25 else some default) fun v69 =>
      Option.bind (if (!v68) = true then disk_MayName k v69.Name else some default) fun v70 =>
      Option.bind (if (!v68) = true then idxL a2 x25 else some default) fun v71 =>
      Option.bind (if (!v68) = true then ref05_MayName k v71.Name else some default) fun v72 =>
      lt1 ((v70 != v72)) fun v73 =>
      lt1 (bif v68 then true else v73) fun v74 =>
      some v74
  ) fun x75 =>
   if x75 = true then
    some (.inr (.inr false))
   else
    lt1 (w64 (x25 + (1 : Int))) fun v76 =>
    some (.inl ((v39),x40,x41,x42,v52,x53,x54,x55,v76))
 else
  some (.inr (.inl ()))

def law05_DiskPlays (k : Nat) (t1 : Int) (a2 : (List Za7)) (a3 : Int) : Option ((Bool)) :=
 Option.bind (Zdx k t1) fun t=>match t with
 | (.inl _) =>
  Option.bind (
   lt1 (decide (t1 < (1 : Int))) fun v6 =>
   lt1 (decide (t1 > (16777216 : Int))) fun v7 =>
   lt1 (bif v6 then true else v7) fun v8 =>
   some v8
  ) fun x9 =>
   if x9 = true then
    Option.bind (
     some ()
    ) fun _ =>
     some false
   else
    Option.bind (ref05_Much k a2 (150 : Int)) fun v10 =>
    if v10 = true then
     Option.bind (ZcG k) fun v11 =>
     some v11
    else
     Option.bind (
      Option.bind (ZaX k (0 : Int)) fun _ =>
      Option.bind (law05_looks_ppvv_smvvvvmsnvvvv k ([97] : List UInt8) a3 t1 (-1 : Int) false (0 : Int) ([] : (List ((List UInt8) × Zaf))) t1 (-1 : Int) false (0 : Int)) fun v14 =>
      lt1 ((!v14)) fun v15 =>
      some v15
     ) fun x16 =>
      if x16 = true then
       some false
      else
       Option.bind (
        Option.bind (Zcl (fun s=>law05_DiskPlays.b1 k a2 t1 a3 s.1 s.2.1 s.2.2.1 s.2.2.2.1 s.2.2.2.2.1 s.2.2.2.2.2.1 s.2.2.2.2.2.2.1 s.2.2.2.2.2.2.2.1 s.2.2.2.2.2.2.2.2) k (([] : (List ((List UInt8) × Zaf))),(-1 : Int),false,(0 : Int),([] : (List Zah)),(-1 : Int),false,(0 : Int),(0 : Int))) fun t=>match t with
        | (.inl _) =>
         some (.inl ())
        | (.inr q) =>
         some (.inr q)
        : Option ((Unit) ⊕ ((Bool)))) fun t=>match t with
       | (.inl _) =>
        Option.bind (ZcG k) fun v77 =>
        some v77
       | (.inr q) =>
        some q
 | (.inr _) =>
  Option.bind (
   lt1 (decide (t1 < (1 : Int))) fun v78 =>
   lt1 (decide (t1 > (16777216 : Int))) fun v79 =>
   lt1 (bif v78 then true else v79) fun v80 =>
   some v80
  ) fun x81 =>
   if x81 = true then
    Option.bind (
     Option.bind (ZaX k (2 : Int)) fun _ =>
     Option.bind (ZcG k) fun v83 =>
     some v83
    ) fun x84 =>
     some x84
   else
    Option.bind (ref05_Much k a2 (150 : Int)) fun v85 =>
    if v85 = true then
     Option.bind (ZcG k) fun v86 =>
     some v86
    else
     Option.bind (
      some ()
     ) fun _ =>
      some false

end
end Go.Proofs.Ytipchpbcjkhnaaa
