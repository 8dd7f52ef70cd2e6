/- The functions as plain Lean functions: no program and no memory here. -/
import Derived.Test.YtklnihlchhhhlaaGreatFp
namespace Go.Proofs.YtklnihlchhhhlaaGreat
open Fw
set_option linter.unusedVariables false
noncomputable section

structure Zah where
  Region : Int
  Count : UInt64
  deriving DecidableEq, Inhabited

def ZcS (x y : Zah) : Bool := ((x.Region == y.Region) && ((x.Count == y.Count) && true))
theorem ZeM {x y : Zah} : ZcS x y = true ↔ x = y := by
  cases x; cases y; simp [ZcS]

structure Zbs where
  Topic : (List UInt8)
  Device : (List UInt8)
  deriving DecidableEq, Inhabited

def Zef (x y : Zbs) : Bool := ((x.Topic == y.Topic) && ((x.Device == y.Device) && true))
theorem ZeL {x y : Zbs} : Zef x y = true ↔ x = y := by
  cases x; cases y; simp [Zef]

structure Zal where
  Dot : Zah
  Key : Zbs
  Gone : Bool
  deriving DecidableEq, Inhabited

def ZdQ (x y : Zal) : Bool := (ZcS x.Dot y.Dot && (Zef x.Key y.Key && ((x.Gone == y.Gone) && true)))
theorem Zh7 {x y : Zal} : ZdQ x y = true ↔ x = y := by
  cases x; cases y; simp [ZdQ, ZeM, ZeL]

structure ZaA where
  Dot : Zah
  Device : (List UInt8)
  deriving DecidableEq, Inhabited

def ZdP (x y : ZaA) : Bool := (ZcS x.Dot y.Dot && ((x.Device == y.Device) && true))
theorem ZhD {x y : ZaA} : ZdP x y = true ↔ x = y := by
  cases x; cases y; simp [ZdP, ZeM]

structure Zaq where
  ID : Zah
  Topic : (List UInt8)
  Payload : (List UInt8)
  Past : (Vector UInt64 16)
  To : (List ZaA)
  deriving DecidableEq, Inhabited

structure Zai where
  Kind : Int
  From : Int
  To : Int
  Items : (List Zal)
  Event : Zaq
  Past : (Vector UInt64 16)
  Seen : (Vector UInt64 16)
  Extra : (List Zah)
  Live : (List Zah)
  Hash : (Vector UInt8 32)
  Leaves : (List (Vector UInt8 32))
  Buckets : (List Int)
  Reply : Bool
  deriving DecidableEq, Inhabited

structure Zaf where
  write : (Option Nat)
  read : (Option Nat)
  deriving DecidableEq, Inhabited

structure Zht where
  b : (List UInt8)
  deriving DecidableEq, Inhabited

structure Zag where
  rest : (List UInt8)
  is : Bool
  made : Bool
  deriving DecidableEq, Inhabited

def Ze5 (k : Nat) (t1 : Zai) : Option ((Zai)) :=
 Option.bind (
  lt1 ((t1.Kind == (1 : Int))) fun v5 =>
  if v5 = true then
   some (Zai.mk t1.Kind t1.From t1.To t1.Items (Zaq.mk (Zah.mk (0 : Int) (0 : UInt64)) ([] : (List UInt8)) ([] : (List UInt8)) (Vector.replicate 16 (0 : UInt64)) ([] : (List ZaA))) (Vector.replicate 16 (0 : UInt64)) (Vector.replicate 16 (0 : UInt64)) ([] : (List Zah)) ([] : (List Zah)) (Vector.replicate 32 (0 : UInt8)) ([] : (List (Vector UInt8 32))) ([] : (List Int)) false)
  else
   lt1 ((t1.Kind == (2 : Int))) fun v6 =>
   if v6 = true then
    some (Zai.mk t1.Kind t1.From t1.To ([] : (List Zal)) t1.Event (Vector.replicate 16 (0 : UInt64)) (Vector.replicate 16 (0 : UInt64)) ([] : (List Zah)) ([] : (List Zah)) (Vector.replicate 32 (0 : UInt8)) ([] : (List (Vector UInt8 32))) ([] : (List Int)) false)
   else
    lt1 ((t1.Kind == (3 : Int))) fun v7 =>
    if v7 = true then
     some (Zai.mk t1.Kind t1.From t1.To ([] : (List Zal)) (Zaq.mk (Zah.mk (0 : Int) (0 : UInt64)) ([] : (List UInt8)) ([] : (List UInt8)) (Vector.replicate 16 (0 : UInt64)) ([] : (List ZaA))) t1.Past (Vector.replicate 16 (0 : UInt64)) ([] : (List Zah)) ([] : (List Zah)) (Vector.replicate 32 (0 : UInt8)) ([] : (List (Vector UInt8 32))) ([] : (List Int)) false)
    else
     lt1 ((t1.Kind == (4 : Int))) fun v8 =>
     if v8 = true then
      some (Zai.mk t1.Kind t1.From t1.To ([] : (List Zal)) (Zaq.mk (Zah.mk (0 : Int) (0 : UInt64)) ([] : (List UInt8)) ([] : (List UInt8)) (Vector.replicate 16 (0 : UInt64)) ([] : (List ZaA))) (Vector.replicate 16 (0 : UInt64)) t1.Seen t1.Extra t1.Live (Vector.replicate 32 (0 : UInt8)) ([] : (List (Vector UInt8 32))) ([] : (List Int)) false)
     else
      lt1 ((t1.Kind == (5 : Int))) fun v9 =>
      if v9 = true then
       some (Zai.mk t1.Kind t1.From t1.To ([] : (List Zal)) (Zaq.mk (Zah.mk (0 : Int) (0 : UInt64)) ([] : (List UInt8)) ([] : (List UInt8)) (Vector.replicate 16 (0 : UInt64)) ([] : (List ZaA))) (Vector.replicate 16 (0 : UInt64)) (Vector.replicate 16 (0 : UInt64)) ([] : (List Zah)) ([] : (List Zah)) t1.Hash ([] : (List (Vector UInt8 32))) ([] : (List Int)) false)
      else
       lt1 ((t1.Kind == (6 : Int))) fun v10 =>
       if v10 = true then
        some (Zai.mk t1.Kind t1.From t1.To ([] : (List Zal)) (Zaq.mk (Zah.mk (0 : Int) (0 : UInt64)) ([] : (List UInt8)) ([] : (List UInt8)) (Vector.replicate 16 (0 : UInt64)) ([] : (List ZaA))) (Vector.replicate 16 (0 : UInt64)) (Vector.replicate 16 (0 : UInt64)) ([] : (List Zah)) ([] : (List Zah)) (Vector.replicate 32 (0 : UInt8)) t1.Leaves ([] : (List Int)) false)
       else
        lt1 ((t1.Kind == (7 : Int))) fun v11 =>
        if v11 = true then
         some (Zai.mk t1.Kind t1.From t1.To t1.Items (Zaq.mk (Zah.mk (0 : Int) (0 : UInt64)) ([] : (List UInt8)) ([] : (List UInt8)) (Vector.replicate 16 (0 : UInt64)) ([] : (List ZaA))) (Vector.replicate 16 (0 : UInt64)) t1.Seen t1.Extra ([] : (List Zah)) (Vector.replicate 32 (0 : UInt8)) ([] : (List (Vector UInt8 32))) t1.Buckets t1.Reply)
        else
         some (Zai.mk t1.Kind t1.From t1.To ([] : (List Zal)) (Zaq.mk (Zah.mk (0 : Int) (0 : UInt64)) ([] : (List UInt8)) ([] : (List UInt8)) (Vector.replicate 16 (0 : UInt64)) ([] : (List ZaA))) (Vector.replicate 16 (0 : UInt64)) (Vector.replicate 16 (0 : UInt64)) ([] : (List Zah)) ([] : (List Zah)) (Vector.replicate 32 (0 : UInt8)) ([] : (List (Vector UInt8 32))) ([] : (List Int)) false)
 ) fun x12 =>
  some x12

def slices_Equalapi_Item_api_Item.b1 (k : Nat) (s1_1 : (List Zal)) (s2_2 : (List Zal)) (x4 : Int) : Option ((Int) ⊕ ((Unit) ⊕ ((Bool)))) :=
 lt1 (decide (x4 < (List.length s1_1 : Int))) fun v5 =>
 if v5 = true then
  Option.bind (idxL s1_1 x4) fun v6 =>
  Option.bind (idxL s2_2 x4) fun v7 =>
  lt1 ((!(ZdQ v6 v7))) fun v8 =>
  if v8 = true then
   some (.inr (.inr false))
  else
   lt1 (w64 (x4 + (1 : Int))) fun v9 =>
   some (.inl v9)
 else
  some (.inr (.inl ()))

def slices_Equalapi_Item_api_Item (k : Nat) (s1_1 : (List Zal)) (s2_2 : (List Zal)) : Option ((Bool)) :=
 lt1 (((List.length s1_1 : Int) != (List.length s2_2 : Int))) fun v3 =>
 if v3 = true then
  some false
 else
  Option.bind (
   Option.bind (Zbc (fun s => slices_Equalapi_Item_api_Item.b1 k s1_1 s2_2 s) k (0 : Int)) fun t => match t with
   | (.inl _) =>
    some (.inl ())
   | (.inr q) =>
    some (.inr q)
   : Option ((Unit) ⊕ ((Bool)))) fun t => match t with
  | (.inl _) =>
   some true
  | (.inr q) =>
   some q

def slices_Equalapi_Dot_api_Dot.b1 (k : Nat) (s1_1 : (List Zah)) (s2_2 : (List Zah)) (x4 : Int) : Option ((Int) ⊕ ((Unit) ⊕ ((Bool)))) :=
 lt1 (decide (x4 < (List.length s1_1 : Int))) fun v5 =>
 if v5 = true then
  Option.bind (idxL s1_1 x4) fun v6 =>
  Option.bind (idxL s2_2 x4) fun v7 =>
  lt1 ((!(ZcS v6 v7))) fun v8 =>
  if v8 = true then
   some (.inr (.inr false))
  else
   lt1 (w64 (x4 + (1 : Int))) fun v9 =>
   some (.inl v9)
 else
  some (.inr (.inl ()))

def slices_Equalapi_Dot_api_Dot (k : Nat) (s1_1 : (List Zah)) (s2_2 : (List Zah)) : Option ((Bool)) :=
 lt1 (((List.length s1_1 : Int) != (List.length s2_2 : Int))) fun v3 =>
 if v3 = true then
  some false
 else
  Option.bind (
   Option.bind (Zbc (fun s => slices_Equalapi_Dot_api_Dot.b1 k s1_1 s2_2 s) k (0 : Int)) fun t => match t with
   | (.inl _) =>
    some (.inl ())
   | (.inr q) =>
    some (.inr q)
   : Option ((Unit) ⊕ ((Bool)))) fun t => match t with
  | (.inl _) =>
   some true
  | (.inr q) =>
   some q

def slices_Equalapi_Hash_api_Hash.b1 (k : Nat) (s1_1 : (List (Vector UInt8 32))) (s2_2 : (List (Vector UInt8 32))) (x4 : Int) : Option ((Int) ⊕ ((Unit) ⊕ ((Bool)))) :=
 lt1 (decide (x4 < (List.length s1_1 : Int))) fun v5 =>
 if v5 = true then
  Option.bind (idxL s1_1 x4) fun v6 =>
  Option.bind (idxL s2_2 x4) fun v7 =>
  lt1 ((!((eqV (fun x y => x == y)) v6 v7))) fun v8 =>
  if v8 = true then
   some (.inr (.inr false))
  else
   lt1 (w64 (x4 + (1 : Int))) fun v9 =>
   some (.inl v9)
 else
  some (.inr (.inl ()))

def slices_Equalapi_Hash_api_Hash (k : Nat) (s1_1 : (List (Vector UInt8 32))) (s2_2 : (List (Vector UInt8 32))) : Option ((Bool)) :=
 lt1 (((List.length s1_1 : Int) != (List.length s2_2 : Int))) fun v3 =>
 if v3 = true then
  some false
 else
  Option.bind (
   Option.bind (Zbc (fun s => slices_Equalapi_Hash_api_Hash.b1 k s1_1 s2_2 s) k (0 : Int)) fun t => match t with
   | (.inl _) =>
    some (.inl ())
   | (.inr q) =>
    some (.inr q)
   : Option ((Unit) ⊕ ((Bool)))) fun t => match t with
  | (.inl _) =>
   some true
  | (.inr q) =>
   some q

def slices_Equalint_int.b1 (k : Nat) (s1_1 : (List Int)) (s2_2 : (List Int)) (x4 : Int) : Option ((Int) ⊕ ((Unit) ⊕ ((Bool)))) :=
 lt1 (decide (x4 < (List.length s1_1 : Int))) fun v5 =>
 if v5 = true then
  Option.bind (idxL s1_1 x4) fun v6 =>
  Option.bind (idxL s2_2 x4) fun v7 =>
  lt1 ((v6 != v7)) fun v8 =>
  if v8 = true then
   some (.inr (.inr false))
  else
   lt1 (w64 (x4 + (1 : Int))) fun v9 =>
   some (.inl v9)
 else
  some (.inr (.inl ()))

def slices_Equalint_int (k : Nat) (s1_1 : (List Int)) (s2_2 : (List Int)) : Option ((Bool)) :=
 lt1 (((List.length s1_1 : Int) != (List.length s2_2 : Int))) fun v3 =>
 if v3 = true then
  some false
 else
  Option.bind (
   Option.bind (Zbc (fun s => slices_Equalint_int.b1 k s1_1 s2_2 s) k (0 : Int)) fun t => match t with
   | (.inl _) =>
    some (.inl ())
   | (.inr q) =>
    some (.inr q)
   : Option ((Unit) ⊕ ((Bool)))) fun t => match t with
  | (.inl _) =>
   some true
  | (.inr q) =>
   some q

def slices_Equalbyte_byte.b1 (k : Nat) (s1_1 : (List UInt8)) (s2_2 : (List UInt8)) (x4 : Int) : Option ((Int) ⊕ ((Unit) ⊕ ((Bool)))) :=
 lt1 (decide (x4 < (List.length s1_1 : Int))) fun v5 =>
 if v5 = true then
  Option.bind (idxL s1_1 x4) fun v6 =>
  Option.bind (idxL s2_2 x4) fun v7 =>
  lt1 ((!(v6 == v7))) fun v8 =>
  if v8 = true then
   some (.inr (.inr false))
  else
   lt1 (w64 (x4 + (1 : Int))) fun v9 =>
   some (.inl v9)
 else
  some (.inr (.inl ()))

def slices_Equalbyte_byte (k : Nat) (s1_1 : (List UInt8)) (s2_2 : (List UInt8)) : Option ((Bool)) :=
 lt1 (((List.length s1_1 : Int) != (List.length s2_2 : Int))) fun v3 =>
 if v3 = true then
  some false
 else
  Option.bind (
   Option.bind (Zbc (fun s => slices_Equalbyte_byte.b1 k s1_1 s2_2 s) k (0 : Int)) fun t => match t with
   | (.inl _) =>
    some (.inl ())
   | (.inr q) =>
    some (.inr q)
   : Option ((Unit) ⊕ ((Bool)))) fun t => match t with
  | (.inl _) =>
   some true
  | (.inr q) =>
   some q

def slices_Equalapi_Dest_api_Dest.b1 (k : Nat) (s1_1 : (List ZaA)) (s2_2 : (List ZaA)) (x4 : Int) : Option ((Int) ⊕ ((Unit) ⊕ ((Bool)))) :=
 lt1 (decide (x4 < (List.length s1_1 : Int))) fun v5 =>
 if v5 = true then
  Option.bind (idxL s1_1 x4) fun v6 =>
  Option.bind (idxL s2_2 x4) fun v7 =>
  lt1 ((!(ZdP v6 v7))) fun v8 =>
  if v8 = true then
   some (.inr (.inr false))
  else
   lt1 (w64 (x4 + (1 : Int))) fun v9 =>
   some (.inl v9)
 else
  some (.inr (.inl ()))

def slices_Equalapi_Dest_api_Dest (k : Nat) (s1_1 : (List ZaA)) (s2_2 : (List ZaA)) : Option ((Bool)) :=
 lt1 (((List.length s1_1 : Int) != (List.length s2_2 : Int))) fun v3 =>
 if v3 = true then
  some false
 else
  Option.bind (
   Option.bind (Zbc (fun s => slices_Equalapi_Dest_api_Dest.b1 k s1_1 s2_2 s) k (0 : Int)) fun t => match t with
   | (.inl _) =>
    some (.inl ())
   | (.inr q) =>
    some (.inr q)
   : Option ((Unit) ⊕ ((Bool)))) fun t => match t with
  | (.inl _) =>
   some true
  | (.inr q) =>
   some q

def Ze2 (k : Nat) (a1 : Zaq) (b_2 : Zaq) : Option ((Bool)) :=
 Option.bind (
  lt1 ((ZcS a1.ID b_2.ID)) fun v5 =>
  lt1 ((a1.Topic == b_2.Topic)) fun v6 =>
  lt1 (bif v5 then v6 else false) fun v7 =>
  Option.bind (if v7 = true then slices_Equalbyte_byte k a1.Payload b_2.Payload else some default) fun v8 =>
  lt1 (bif v7 then v8 else false) fun v9 =>
  lt1 (((eqV (fun x y => x == y)) a1.Past b_2.Past)) fun v10 =>
  lt1 (bif v9 then v10 else false) fun v11 =>
  Option.bind (if v11 = true then slices_Equalapi_Dest_api_Dest k a1.To b_2.To else some default) fun v12 =>
  lt1 (bif v11 then v12 else false) fun v13 =>
  some v13
 ) fun x14 =>
  some x14

def Zed (k : Nat) (t1 : Zai) (a2 : Zai) : Option ((Bool)) :=
 Option.bind (
  lt1 ((t1.Kind == a2.Kind)) fun v5 =>
  lt1 ((t1.From == a2.From)) fun v6 =>
  lt1 (bif v5 then v6 else false) fun v7 =>
  lt1 ((t1.To == a2.To)) fun v8 =>
  lt1 (bif v7 then v8 else false) fun v9 =>
  lt1 (((eqV (fun x y => x == y)) t1.Past a2.Past)) fun v10 =>
  lt1 (bif v9 then v10 else false) fun v11 =>
  lt1 (((eqV (fun x y => x == y)) t1.Seen a2.Seen)) fun v12 =>
  lt1 (bif v11 then v12 else false) fun v13 =>
  lt1 (((eqV (fun x y => x == y)) t1.Hash a2.Hash)) fun v14 =>
  lt1 (bif v13 then v14 else false) fun v15 =>
  lt1 ((t1.Reply == a2.Reply)) fun v16 =>
  lt1 (bif v15 then v16 else false) fun v17 =>
  some v17
 ) fun x18 =>
  Option.bind (
   Option.bind (slices_Equalapi_Item_api_Item k t1.Items a2.Items) fun v19 =>
   Option.bind (if v19 = true then slices_Equalapi_Dot_api_Dot k t1.Extra a2.Extra else some default) fun v20 =>
   lt1 (bif v19 then v20 else false) fun v21 =>
   Option.bind (if v21 = true then slices_Equalapi_Dot_api_Dot k t1.Live a2.Live else some default) fun v22 =>
   lt1 (bif v21 then v22 else false) fun v23 =>
   Option.bind (if v23 = true then slices_Equalapi_Hash_api_Hash k t1.Leaves a2.Leaves else some default) fun v24 =>
   lt1 (bif v23 then v24 else false) fun v25 =>
   Option.bind (if v25 = true then slices_Equalint_int k t1.Buckets a2.Buckets else some default) fun v26 =>
   lt1 (bif v25 then v26 else false) fun v27 =>
   some v27
  ) fun x28 =>
   Option.bind (
    lt1 (bif x18 then x28 else false) fun v29 =>
    Option.bind (if v29 = true then Ze2 k t1.Event a2.Event else some default) fun v30 =>
    lt1 (bif v29 then v30 else false) fun v31 =>
    some v31
   ) fun x32 =>
    some x32

def ZfH (k : Nat) (d1 : Zah) : Option ((Bool)) :=
 Option.bind (
  lt1 (decide (d1.Region ≥ (1 : Int))) fun v3 =>
  lt1 (decide (d1.Region ≤ (16 : Int))) fun v4 =>
  lt1 (bif v3 then v4 else false) fun v5 =>
  lt1 (decide ((1 : UInt64) ≤ d1.Count)) fun v6 =>
  lt1 (bif v5 then v6 else false) fun v7 =>
  lt1 (decide (d1.Count ≤ (4611686018427387904 : UInt64))) fun v8 =>
  lt1 (bif v7 then v8 else false) fun v9 =>
  some v9
 ) fun x10 =>
  some x10

def Zct (k : Nat) (s1 : (List UInt8)) : Option ((Bool)) :=
 Option.bind (
  lt1 (decide ((List.length s1 : Int) ≥ (1 : Int))) fun v2 =>
  lt1 (decide ((List.length s1 : Int) ≤ (32 : Int))) fun v3 =>
  lt1 (bif v2 then v3 else false) fun v4 =>
  some v4
 ) fun x5 =>
  some x5

def Zdy (k : Nat) (i1 : Zal) : Option ((Bool)) :=
 if i1.Gone = true then
  Option.bind (
   Option.bind (ZfH k i1.Dot) fun v3 =>
   lt1 ((Zef i1.Key (Zbs.mk ([] : (List UInt8)) ([] : (List UInt8))))) fun v4 =>
   lt1 (bif v3 then v4 else false) fun v5 =>
   some v5
  ) fun x6 =>
   some x6
 else
  Option.bind (
   Option.bind (ZfH k i1.Dot) fun v7 =>
   Option.bind (if v7 = true then Zct k i1.Key.Topic else some default) fun v8 =>
   lt1 (bif v7 then v8 else false) fun v9 =>
   Option.bind (if v9 = true then Zct k i1.Key.Device else some default) fun v10 =>
   lt1 (bif v9 then v10 else false) fun v11 =>
   some v11
  ) fun x12 =>
   some x12

def Zdv (k : Nat) (i1 : Zal) : Option ((Bool)) :=
 Option.bind (Zdy k i1) fun v3 =>
 lt1 ((!v3)) fun v4 =>
 some v4

def slices_IndexFuncapi_Item_api_Item.b1 (k : Nat) (s1 : (List Zal)) (x2 : Int) : Option ((Int) ⊕ ((Unit) ⊕ ((Int)))) :=
 lt1 (decide (x2 < (List.length s1 : Int))) fun v3 =>
 if v3 = true then
  Option.bind (idxL s1 x2) fun v4 =>
  Option.bind (Zdv k v4) fun v5 =>
  if v5 = true then
   some (.inr (.inr x2))
  else
   lt1 (w64 (x2 + (1 : Int))) fun v6 =>
   some (.inl v6)
 else
  some (.inr (.inl ()))

def slices_IndexFuncapi_Item_api_Item (k : Nat) (s1 : (List Zal)) : Option ((Int)) :=
 Option.bind (
  Option.bind (Zbc (fun s => slices_IndexFuncapi_Item_api_Item.b1 k s1 s) k (0 : Int)) fun t => match t with
  | (.inl _) =>
   some (.inl ())
  | (.inr q) =>
   some (.inr q)
  : Option ((Unit) ⊕ ((Int)))) fun t => match t with
 | (.inl _) =>
  some (-1 : Int)
 | (.inr q) =>
  some q

def ZaQ (k : Nat) (s1 : (List Zal)) : Option ((Bool)) :=
 Option.bind (slices_IndexFuncapi_Item_api_Item k s1) fun v2 =>
 lt1 (decide (v2 ≥ (0 : Int))) fun v3 =>
 some v3

def ZdO (k : Nat) (f1 : Zai) : Option ((Bool)) :=
 Option.bind (
  lt1 (decide ((List.length f1.Items : Int) ≤ (4096 : Int))) fun v3 =>
  Option.bind (if v3 = true then ZaQ k f1.Items else some default) fun v4 =>
  lt1 ((!v4)) fun v5 =>
  lt1 (bif v3 then v5 else false) fun v6 =>
  some v6
 ) fun x7 =>
  some x7

def ZdX (k : Nat) (d1 : Zah) : Option ((Bool)) :=
 Option.bind (
  lt1 (decide (d1.Region ≥ (1 : Int))) fun v3 =>
  lt1 (decide (d1.Region ≤ (16 : Int))) fun v4 =>
  lt1 (bif v3 then v4 else false) fun v5 =>
  lt1 (decide ((1 : UInt64) ≤ d1.Count)) fun v6 =>
  lt1 (bif v5 then v6 else false) fun v7 =>
  lt1 (decide (d1.Count ≤ (4611686018427387904 : UInt64))) fun v8 =>
  lt1 (bif v7 then v8 else false) fun v9 =>
  some v9
 ) fun x10 =>
  some x10

def ZcI (k : Nat) (n1 : UInt64) : Option ((Bool)) :=
 lt1 (decide ((4611686018427387904 : UInt64) < n1)) fun v2 =>
 some v2

def slices_IndexFuncuint64_uint64.b1 (k : Nat) (s1 : (List UInt64)) (x2 : Int) : Option ((Int) ⊕ ((Unit) ⊕ ((Int)))) :=
 lt1 (decide (x2 < (List.length s1 : Int))) fun v3 =>
 if v3 = true then
  Option.bind (idxL s1 x2) fun v4 =>
  Option.bind (ZcI k v4) fun v5 =>
  if v5 = true then
   some (.inr (.inr x2))
  else
   lt1 (w64 (x2 + (1 : Int))) fun v6 =>
   some (.inl v6)
 else
  some (.inr (.inl ()))

def slices_IndexFuncuint64_uint64 (k : Nat) (s1 : (List UInt64)) : Option ((Int)) :=
 Option.bind (
  Option.bind (Zbc (fun s => slices_IndexFuncuint64_uint64.b1 k s1 s) k (0 : Int)) fun t => match t with
  | (.inl _) =>
   some (.inl ())
  | (.inr q) =>
   some (.inr q)
  : Option ((Unit) ⊕ ((Int)))) fun t => match t with
 | (.inl _) =>
  some (-1 : Int)
 | (.inr q) =>
  some q

def Zbk (k : Nat) (s1 : (List UInt64)) : Option ((Bool)) :=
 Option.bind (slices_IndexFuncuint64_uint64 k s1) fun v2 =>
 lt1 (decide (v2 ≥ (0 : Int))) fun v3 =>
 some v3

def ZcH (k : Nat) (v1 : (Vector UInt64 16)) : Option ((Bool)) :=
 Option.bind (subL (Vector.toList v1) (0 : Int) (16 : Int)) fun v3 =>
 Option.bind (Zbk k v3) fun v4 =>
 lt1 ((!v4)) fun v5 =>
 some v5

def Zd0 (k : Nat) (x1 : Int) : Option ((Bool)) :=
 lt1 ((x1 != x1)) fun v2 =>
 some v2

def ZcT (k : Nat) (x1 : Int) (y2 : Int) : Option ((Int)) :=
 Option.bind (Zd0 k x1) fun v3 =>
 Option.bind (Zd0 k y2) fun v4 =>
 if v3 = true then
  if v4 = true then
   some (0 : Int)
  else
   some (-1 : Int)
 else
  if v4 = true then
   some (1 : Int)
  else
   lt1 (decide (x1 < y2)) fun v5 =>
   if v5 = true then
    some (-1 : Int)
   else
    lt1 (decide (x1 > y2)) fun v6 =>
    if v6 = true then
     some (1 : Int)
    else
     some (0 : Int)

def Zc6 (k : Nat) (x1 : UInt64) : Option ((Bool)) :=
 lt1 ((!(x1 == x1))) fun v2 =>
 some v2

def Zb8 (k : Nat) (x1 : UInt64) (y2 : UInt64) : Option ((Int)) :=
 Option.bind (Zc6 k x1) fun v3 =>
 Option.bind (Zc6 k y2) fun v4 =>
 if v3 = true then
  if v4 = true then
   some (0 : Int)
  else
   some (-1 : Int)
 else
  if v4 = true then
   some (1 : Int)
  else
   lt1 (decide (x1 < y2)) fun v5 =>
   if v5 = true then
    some (-1 : Int)
   else
    lt1 (decide (y2 < x1)) fun v6 =>
    if v6 = true then
     some (1 : Int)
    else
     some (0 : Int)

def cmp_Orint.b1 (k : Nat) (vals1 : (List Int)) (x2 : Int) : Option ((Int) ⊕ ((Unit) ⊕ ((Int)))) :=
 lt1 (decide (x2 < (List.length vals1 : Int))) fun v3 =>
 if v3 = true then
  Option.bind (idxL vals1 x2) fun v4 =>
  lt1 ((v4 != (0 : Int))) fun v5 =>
  if v5 = true then
   some (.inr (.inr v4))
  else
   lt1 (w64 (x2 + (1 : Int))) fun v6 =>
   some (.inl v6)
 else
  some (.inr (.inl ()))

def cmp_Orint (k : Nat) (vals1 : (List Int)) : Option ((Int)) :=
 Option.bind (
  Option.bind (Zbc (fun s => cmp_Orint.b1 k vals1 s) k (0 : Int)) fun t => match t with
  | (.inl _) =>
   some (.inl ())
  | (.inr q) =>
   some (.inr q)
  : Option ((Unit) ⊕ ((Int)))) fun t => match t with
 | (.inl _) =>
  some (0 : Int)
 | (.inr q) =>
  some q

def Zei (k : Nat) (a1 : Zah) (b_2 : Zah) : Option ((Bool)) :=
 Option.bind (ZcT k a1.Region b_2.Region) fun v5 =>
 Option.bind (Zb8 k a1.Count b_2.Count) fun v6 =>
 Option.bind (cmp_Orint k ([v5, v6] : (List Int))) fun v7 =>
 lt1 (decide (v7 < (0 : Int))) fun v8 =>
 some v8

def event_May.b1 (k : Nat) (t1 : Zaq) (x21 : Bool) (x22 : Int) : Option ((Bool × Int) ⊕ ((Bool))) :=
 lt1 (decide (x22 < (List.length t1.To : Int))) fun v23 =>
 if v23 = true then
  Option.bind (idxL t1.To x22) fun v24 =>
  Option.bind (
   Option.bind (ZdX k v24.Dot) fun v26 =>
   Option.bind (if v26 = true then Zct k v24.Device else some default) fun v27 =>
   lt1 (bif v26 then v27 else false) fun v28 =>
   lt1 ((x22 == (0 : Int))) fun v29 =>
   lt1 (w64 (x22 - (1 : Int))) fun v30 =>
   Option.bind (if (v28 && (!v29)) = true then idxL t1.To v30 else some default) fun v31 =>
   Option.bind (if (v28 && (!v29)) = true then Zei k v31.Dot v24.Dot else some default) fun v32 =>
   lt1 (bif v29 then true else v32) fun v33 =>
   lt1 (bif v28 then v33 else false) fun v34 =>
   some v34
  ) fun x35 =>
   lt1 ((!x35)) fun v36 =>
   if v36 = true then
    some (.inr x35)
   else
    lt1 (w64 (x22 + (1 : Int))) fun v37 =>
    some (.inl (x35, v37))
 else
  some (.inr x21)

def event_May (k : Nat) (t1 : Zaq) : Option ((Bool)) :=
 Option.bind (
  Option.bind (ZdX k t1.ID) fun v3 =>
  lt1 ((!v3)) fun v4 =>
  Option.bind (if (!v4) = true then ZcH k t1.Past else some default) fun v5 =>
  lt1 ((!v5)) fun v6 =>
  lt1 (bif v4 then true else v6) fun v7 =>
  lt1 (w64 (t1.ID.Region - (1 : Int))) fun v8 =>
  if v7 = true then
   some true
  else
   Option.bind (inV 16 v8) fun i9 =>
   lt1 ((getV t1.Past i9)) fun v10 =>
   lt1 ((t1.ID.Count - (1 : UInt64))) fun v11 =>
   lt1 ((!(v10 == v11))) fun v12 =>
   some v12
 ) fun x13 =>
  if x13 = true then
   some false
  else
   Option.bind (
    Option.bind (Zct k t1.Topic) fun v14 =>
    lt1 ((!v14)) fun v15 =>
    lt1 (decide ((List.length t1.Payload : Int) > (512 : Int))) fun v16 =>
    lt1 (bif v15 then true else v16) fun v17 =>
    lt1 (decide ((List.length t1.To : Int) > (1024 : Int))) fun v18 =>
    lt1 (bif v17 then true else v18) fun v19 =>
    some v19
   ) fun x20 =>
    if x20 = true then
     some false
    else
     Option.bind (
      Zbc (fun s => event_May.b1 k t1 s.1 s.2) k (true, (0 : Int))
     ) fun x38 =>
      some x38

def Zgq (k : Nat) (n1 : UInt64) : Option ((Bool)) :=
 lt1 (decide ((4611686018427387904 : UInt64) < n1)) fun v2 =>
 some v2

def slices_IndexFuncuint64_uint64'2.b1 (k : Nat) (s1 : (List UInt64)) (x2 : Int) : Option ((Int) ⊕ ((Unit) ⊕ ((Int)))) :=
 lt1 (decide (x2 < (List.length s1 : Int))) fun v3 =>
 if v3 = true then
  Option.bind (idxL s1 x2) fun v4 =>
  Option.bind (Zgq k v4) fun v5 =>
  if v5 = true then
   some (.inr (.inr x2))
  else
   lt1 (w64 (x2 + (1 : Int))) fun v6 =>
   some (.inl v6)
 else
  some (.inr (.inl ()))

def slices_IndexFuncuint64_uint64'2 (k : Nat) (s1 : (List UInt64)) : Option ((Int)) :=
 Option.bind (
  Option.bind (Zbc (fun s => slices_IndexFuncuint64_uint64'2.b1 k s1 s) k (0 : Int)) fun t => match t with
  | (.inl _) =>
   some (.inl ())
  | (.inr q) =>
   some (.inr q)
  : Option ((Unit) ⊕ ((Int)))) fun t => match t with
 | (.inl _) =>
  some (-1 : Int)
 | (.inr q) =>
  some q

def Za2 (k : Nat) (s1 : (List UInt64)) : Option ((Bool)) :=
 Option.bind (slices_IndexFuncuint64_uint64'2 k s1) fun v2 =>
 lt1 (decide (v2 ≥ (0 : Int))) fun v3 =>
 some v3

def Zc7 (k : Nat) (i1 : Int) (less2 : Bool) : Option ((Bool)) :=
 Option.bind (
  lt1 ((i1 == (0 : Int))) fun v3 =>
  lt1 (bif v3 then true else less2) fun v4 =>
  some v4
 ) fun x5 =>
  some x5

def ZgN (k : Nat) (a1 : Zah) (b_2 : Zah) : Option ((Int)) :=
 Option.bind (ZcT k a1.Region b_2.Region) fun v5 =>
 Option.bind (Zb8 k a1.Count b_2.Count) fun v6 =>
 Option.bind (cmp_Orint k ([v5, v6] : (List Int))) fun v7 =>
 some v7

def Zfm (k : Nat) (a1 : Zah) (b_2 : Zah) : Option ((Bool)) :=
 Option.bind (ZgN k a1 b_2) fun v5 =>
 lt1 (decide (v5 < (0 : Int))) fun v6 =>
 some v6

def ZbM (k : Nat) (s1 : (List Zah)) : Option (((List Zah))) :=
 Option.bind (apL 16 ([] : (List Zah)) s1) fun x3 =>
 some x3

def ctx_Of.b1 (k : Nat) (v1 : (Vector UInt64 16)) (x4 : Int) : Option ((Int) ⊕ ((Unit) ⊕ (((List Zah)) ⊕ (Int)))) :=
 lt1 (decide (x4 < (16 : Int))) fun v5 =>
 if v5 = true then
  Option.bind (idxV v1 x4) fun v6 =>
  lt1 (decide ((4611686018427387904 : UInt64) < v6)) fun v7 =>
  if v7 = true then
   some (.inr (.inr (.inr (2 : Int))))
  else
   lt1 (w64 (x4 + (1 : Int))) fun v8 =>
   some (.inl v8)
 else
  some (.inr (.inl ()))

def ctx_Of.b2 (k : Nat) (extra2 : (List Zah)) (v1 : (Vector UInt64 16)) (x9 : Int) : Option ((Int) ⊕ ((Unit) ⊕ (((List Zah)) ⊕ (Int)))) :=
 lt1 (decide (x9 < (List.length extra2 : Int))) fun v10 =>
 if v10 = true then
  Option.bind (idxL extra2 x9) fun v11 =>
  Option.bind (
   Option.bind (ZfH k v11) fun v13 =>
   lt1 ((!v13)) fun v14 =>
   lt1 (decide (x9 > (0 : Int))) fun v15 =>
   lt1 (w64 (x9 - (1 : Int))) fun v16 =>
   Option.bind (if ((!v14) && v15) = true then idxL extra2 v16 else some default) fun v17 =>
   Option.bind (if ((!v14) && v15) = true then Zfm k v17 v11 else some default) fun v18 =>
   lt1 ((!v18)) fun v19 =>
   lt1 (bif v15 then v19 else false) fun v20 =>
   lt1 (bif v14 then true else v20) fun v21 =>
   lt1 (w64 (v11.Region - (1 : Int))) fun v22 =>
   if v21 = true then
    some true
   else
    Option.bind (inV 16 v22) fun i23 =>
    lt1 ((getV v1 i23)) fun v24 =>
    lt1 ((v24 + (1 : UInt64))) fun v25 =>
    lt1 (decide (v11.Count ≤ v25)) fun v26 =>
    some v26
  ) fun x27 =>
   if x27 = true then
    some (.inr (.inr (.inr (2 : Int))))
   else
    lt1 (w64 (x9 + (1 : Int))) fun v28 =>
    some (.inl v28)
 else
  some (.inr (.inl ()))

def ctx_Of (k : Nat) (v1 : (Vector UInt64 16)) (extra2 : (List Zah)) : Option (((List Zah)) ⊕ (Int)) :=
 Option.bind (
  Option.bind (Zbc (fun s => ctx_Of.b1 k v1 s) k (0 : Int)) fun t => match t with
  | (.inl _) =>
   some (.inl ())
  | (.inr q) =>
   some (.inr q)
  : Option ((Unit) ⊕ (((List Zah)) ⊕ (Int)))) fun t => match t with
 | (.inl _) =>
  Option.bind (
   Option.bind (Zbc (fun s => ctx_Of.b2 k extra2 v1 s) k (0 : Int)) fun t => match t with
   | (.inl _) =>
    some (.inl ())
   | (.inr q) =>
    some (.inr q)
   : Option ((Unit) ⊕ (((List Zah)) ⊕ (Int)))) fun t => match t with
  | (.inl _) =>
   lt1 (decide ((List.length extra2 : Int) > (4096 : Int))) fun v29 =>
   if v29 = true then
    some (.inr (5 : Int))
   else
    Option.bind (ZbM k extra2) fun v30 =>
    some (.inl v30)
  | (.inr q) =>
   some q
 | (.inr q) =>
  some q

def Zeg (k : Nat) (f1 : Zai) : Option ((Bool)) :=
 Option.bind (ctx_Of k f1.Seen f1.Extra) fun t => match t with
 | (.inl v3) =>
  some true
 | (.inr v7) =>
  lt1 ((v7 == (0 : Int))) fun v8 =>
  some v8

def frame_May.b1 (k : Nat) (t1 : Zai) (x29 : Int) : Option ((Int) ⊕ ((Unit) ⊕ ((Bool)))) :=
 lt1 (decide (x29 < (List.length t1.Live : Int))) fun v30 =>
 if v30 = true then
  Option.bind (idxL t1.Live x29) fun v31 =>
  Option.bind (
   Option.bind (ZfH k v31) fun v33 =>
   lt1 ((!v33)) fun v34 =>
   lt1 (decide (x29 > (0 : Int))) fun v35 =>
   lt1 (w64 (x29 - (1 : Int))) fun v36 =>
   Option.bind (if ((!v34) && v35) = true then idxL t1.Live v36 else some default) fun v37 =>
   Option.bind (if ((!v34) && v35) = true then Zfm k v37 v31 else some default) fun v38 =>
   lt1 (bif v35 then v38 else false) fun v39 =>
   Option.bind (if (!v34) = true then Zc7 k x29 v39 else some default) fun v40 =>
   lt1 ((!v40)) fun v41 =>
   lt1 (bif v34 then true else v41) fun v42 =>
   some v42
  ) fun x43 =>
   if x43 = true then
    some (.inr (.inr false))
   else
    lt1 (w64 (x29 + (1 : Int))) fun v44 =>
    some (.inl v44)
 else
  some (.inr (.inl ()))

def frame_May.b2 (k : Nat) (t1 : Zai) (x53 : Int) : Option ((Int) ⊕ ((Unit) ⊕ ((Bool)))) :=
 lt1 (decide (x53 < (List.length t1.Buckets : Int))) fun v54 =>
 if v54 = true then
  Option.bind (idxL t1.Buckets x53) fun v55 =>
  Option.bind (
   lt1 (decide (v55 < (0 : Int))) fun v56 =>
   lt1 (decide (v55 ≥ (64 : Int))) fun v57 =>
   lt1 (bif v56 then true else v57) fun v58 =>
   lt1 (decide (x53 > (0 : Int))) fun v59 =>
   lt1 (w64 (x53 - (1 : Int))) fun v60 =>
   Option.bind (if ((!v58) && v59) = true then idxL t1.Buckets v60 else some default) fun v61 =>
   lt1 (decide (v61 < v55)) fun v62 =>
   lt1 (bif v59 then v62 else false) fun v63 =>
   Option.bind (if (!v58) = true then Zc7 k x53 v63 else some default) fun v64 =>
   lt1 ((!v64)) fun v65 =>
   lt1 (bif v58 then true else v65) fun v66 =>
   some v66
  ) fun x67 =>
   if x67 = true then
    some (.inr (.inr false))
   else
    lt1 (w64 (x53 + (1 : Int))) fun v68 =>
    some (.inl v68)
 else
  some (.inr (.inl ()))

def frame_May.b3 (k : Nat) (t1 : Zai) (x69 : Int) : Option ((Int) ⊕ ((Unit) ⊕ ((Bool)))) :=
 lt1 (decide (x69 < (List.length t1.Items : Int))) fun v70 =>
 if v70 = true then
  Option.bind (idxL t1.Items x69) fun v71 =>
  Option.bind (
   lt1 (decide (x69 > (0 : Int))) fun v73 =>
   lt1 (w64 (x69 - (1 : Int))) fun v74 =>
   Option.bind (if v73 = true then idxL t1.Items v74 else some default) fun v75 =>
   Option.bind (if v73 = true then Zfm k v75.Dot v71.Dot else some default) fun v76 =>
   lt1 (bif v73 then v76 else false) fun v77 =>
   Option.bind (Zc7 k x69 v77) fun v78 =>
   lt1 ((!v78)) fun v79 =>
   some v79
  ) fun x80 =>
   if x80 = true then
    some (.inr (.inr false))
   else
    lt1 (w64 (x69 + (1 : Int))) fun v81 =>
    some (.inl v81)
 else
  some (.inr (.inl ()))

def frame_May (k : Nat) (t1 : Zai) : Option ((Bool)) :=
 Option.bind (
  lt1 (decide (t1.From < (1 : Int))) fun v3 =>
  lt1 (decide (t1.From > (16 : Int))) fun v4 =>
  lt1 (bif v3 then true else v4) fun v5 =>
  lt1 (decide (t1.To < (1 : Int))) fun v6 =>
  lt1 (bif v5 then true else v6) fun v7 =>
  lt1 (decide (t1.To > (16 : Int))) fun v8 =>
  lt1 (bif v7 then true else v8) fun v9 =>
  lt1 ((t1.From == t1.To)) fun v10 =>
  lt1 (bif v9 then true else v10) fun v11 =>
  Option.bind (if (!v11) = true then Ze5 k t1 else some default) fun v12 =>
  Option.bind (if (!v11) = true then Zed k t1 v12 else some default) fun v13 =>
  lt1 ((!v13)) fun v14 =>
  lt1 (bif v11 then true else v14) fun v15 =>
  some v15
 ) fun x16 =>
  if x16 = true then
   some false
  else
   Option.bind (
    lt1 ((t1.Kind == (1 : Int))) fun v17 =>
    if v17 = true then
     Option.bind (
      lt1 (decide ((List.length t1.Items : Int) > (0 : Int))) fun v18 =>
      Option.bind (if v18 = true then ZdO k t1 else some default) fun v19 =>
      lt1 (bif v18 then v19 else false) fun v20 =>
      some v20
     ) fun x21 =>
      some (.inr x21)
    else
     lt1 ((t1.Kind == (2 : Int))) fun v22 =>
     if v22 = true then
      Option.bind (event_May k t1.Event) fun v23 =>
      some (.inr v23)
     else
      lt1 ((t1.Kind == (3 : Int))) fun v24 =>
      if v24 = true then
       Option.bind (subL (Vector.toList t1.Past) (0 : Int) (16 : Int)) fun v25 =>
       Option.bind (Za2 k v25) fun v26 =>
       lt1 ((!v26)) fun v27 =>
       some (.inr v27)
      else
       lt1 ((t1.Kind == (4 : Int))) fun v28 =>
       if v28 = true then
        Option.bind (
         Option.bind (Zbc (fun s => frame_May.b1 k t1 s) k (0 : Int)) fun t => match t with
         | (.inl _) =>
          some (.inl ())
         | (.inr q) =>
          some (.inr q)
         : Option ((Unit) ⊕ ((Bool)))) fun t => match t with
        | (.inl _) =>
         Option.bind (
          lt1 (decide ((List.length t1.Live : Int) ≤ (1024 : Int))) fun v45 =>
          Option.bind (if v45 = true then Zeg k t1 else some default) fun v46 =>
          lt1 (bif v45 then v46 else false) fun v47 =>
          some v47
         ) fun x48 =>
          some (.inr x48)
        | (.inr q) =>
         some (.inr q)
       else
        lt1 ((t1.Kind == (5 : Int))) fun v49 =>
        if v49 = true then
         some (.inr true)
        else
         lt1 ((t1.Kind == (6 : Int))) fun v50 =>
         if v50 = true then
          lt1 (((List.length t1.Leaves : Int) == (64 : Int))) fun v51 =>
          some (.inr v51)
         else
          lt1 ((t1.Kind == (7 : Int))) fun v52 =>
          if v52 = true then
           Option.bind (
            Option.bind (Zbc (fun s => frame_May.b2 k t1 s) k (0 : Int)) fun t => match t with
            | (.inl _) =>
             some (.inl ())
            | (.inr q) =>
             some (.inr q)
            : Option ((Unit) ⊕ ((Bool)))) fun t => match t with
           | (.inl _) =>
            Option.bind (
             Option.bind (Zbc (fun s => frame_May.b3 k t1 s) k (0 : Int)) fun t => match t with
             | (.inl _) =>
              some (.inl ())
             | (.inr q) =>
              some (.inr q)
             : Option ((Unit) ⊕ ((Bool)))) fun t => match t with
            | (.inl _) =>
             Option.bind (
              lt1 (decide ((List.length t1.Buckets : Int) > (0 : Int))) fun v82 =>
              Option.bind (if v82 = true then ZdO k t1 else some default) fun v83 =>
              lt1 (bif v82 then v83 else false) fun v84 =>
              Option.bind (if v84 = true then Zeg k t1 else some default) fun v85 =>
              lt1 (bif v84 then v85 else false) fun v86 =>
              some v86
             ) fun x87 =>
              some (.inr x87)
            | (.inr q) =>
             some (.inr q)
           | (.inr q) =>
            some (.inr q)
          else
           some (.inl ())
    : Option ((Unit) ⊕ ((Bool)))) fun t => match t with
   | (.inl _) =>
    some false
   | (.inr q) =>
    some q

def Zet (k : Nat) : Option (((List (Int × Zaf)))) :=
 lt1 (mput (1 : Int) (Zaf.mk (some 92 : Option Nat) (some 93 : Option Nat)) ([] : (List (Int × Zaf)))) fun x2 =>
 lt1 (mput (2 : Int) (Zaf.mk (some 94 : Option Nat) (some 95 : Option Nat)) x2) fun x3 =>
 lt1 (mput (3 : Int) (Zaf.mk (some 96 : Option Nat) (some 97 : Option Nat)) x3) fun x4 =>
 lt1 (mput (4 : Int) (Zaf.mk (some 98 : Option Nat) (some 99 : Option Nat)) x4) fun x5 =>
 lt1 (mput (5 : Int) (Zaf.mk (some 100 : Option Nat) (some 101 : Option Nat)) x5) fun x6 =>
 lt1 (mput (6 : Int) (Zaf.mk (some 102 : Option Nat) (some 103 : Option Nat)) x6) fun x7 =>
 lt1 (mput (7 : Int) (Zaf.mk (some 104 : Option Nat) (some 105 : Option Nat)) x7) fun x8 =>
 some x8

def wire_Put.b1 (k : Nat) (size2 : Int) (n1 : UInt64) (b13 : (List UInt8)) (x14 : Int) : Option (((List UInt8) × Int) ⊕ (((List UInt8)))) :=
 lt1 (decide (x14 < size2)) fun v17 =>
 if v17 = true then
  lt1 (w64 (size2 - (1 : Int))) fun v18 =>
  lt1 (w64 (v18 - x14)) fun v19 =>
  lt1 (w64 ((8 : Int) * v19)) fun v20 =>
  Option.bind (shrU n1 v20) fun v21 =>
  lt1 ((UN.to v21 : UInt8)) fun v22 =>
  Option.bind (apL 1 b13 ([v22] : (List UInt8))) fun b23 =>
  lt1 (w64 (x14 + (1 : Int))) fun v26 =>
  some (.inl (b23, v26))
 else
  some (.inr b13)

def wire_Put (k : Nat) (n1 : UInt64) (size2 : Int) : Option (((List UInt8) × Int)) :=
 Option.bind (
  lt1 (decide (size2 < (1 : Int))) fun v3 =>
  lt1 (decide (size2 > (8 : Int))) fun v4 =>
  lt1 (bif v3 then true else v4) fun v5 =>
  lt1 (decide (size2 < (8 : Int))) fun v6 =>
  lt1 (w64 ((8 : Int) * size2)) fun v7 =>
  Option.bind (if ((!v5) && v6) = true then shrU n1 v7 else some default) fun v8 =>
  lt1 ((!(v8 == (0 : UInt64)))) fun v9 =>
  lt1 (bif v6 then v9 else false) fun v10 =>
  lt1 (bif v5 then true else v10) fun v11 =>
  some v11
 ) fun x12 =>
  if x12 = true then
   some (([] : (List UInt8)), (2 : Int))
  else
   Option.bind (
    Zbc (fun s => wire_Put.b1 k size2 n1 s.1 s.2) k (([] : (List UInt8)), (0 : Int))
   ) fun b27 =>
    some (b27, (0 : Int))

def ZaK (k : Nat) (b_1 : (List UInt8)) (v2 : Int) (x4 : (List UInt8)) : Option (((List UInt8))) :=
 Option.bind (apL 1 x4 b_1) fun x7 =>
 some x7

def Zec (k : Nat) (d1 : Zah) : Option (((List UInt8) × Int)) :=
 Option.bind (
  lt1 (decide (d1.Region < (0 : Int))) fun v3 =>
  lt1 (decide (d1.Region > (255 : Int))) fun v4 =>
  lt1 (bif v3 then true else v4) fun v5 =>
  some v5
 ) fun x6 =>
  if x6 = true then
   some (([] : (List UInt8)), (2 : Int))
  else
   Option.bind (wire_Put k d1.Count (8 : Int)) fun (v7, v8) =>
   lt1 ((UN.ofI d1.Region : UInt8)) fun v11 =>
   Option.bind (apL 1 ([v11] : (List UInt8)) v7) fun x13 =>
   some (x13, (0 : Int))

def ZbI (k : Nat) (is1 : Bool) (x3 : (List UInt8)) : Option (((List UInt8))) :=
 Option.bind (
  if is1 = true then
   some (1 : UInt8)
  else
   some (0 : UInt8)
 ) fun b6 =>
  Option.bind (apL 1 x3 ([b6] : (List UInt8))) fun x7 =>
  some x7

def Zdn (k : Nat) (b_1 : (List UInt8)) : Option (((List UInt8) × Int)) :=
 lt1 (decide ((List.length b_1 : Int) > (65535 : Int))) fun v2 =>
 if v2 = true then
  some (([] : (List UInt8)), (3 : Int))
 else
  lt1 ((UN.ofI (List.length b_1 : Int) : UInt64)) fun v3 =>
  Option.bind (wire_Put k v3 (2 : Int)) fun (v4, v5) =>
  Option.bind (apL 1 v4 b_1) fun n8 =>
  some (n8, (0 : Int))

def frame_writer_items'3.b1 (k : Nat) (l1 : (List Zal)) (b14 : (List UInt8)) (x15 : Int) : Option (((List UInt8) × Int) ⊕ (((List UInt8)))) :=
 lt1 (decide (x15 < (List.length l1 : Int))) fun v18 =>
 if v18 = true then
  Option.bind (
   Option.bind (idxL l1 x15) fun v19 =>
   Option.bind (Zec k v19.Dot) fun (v21, v22) =>
   Option.bind (ZaK k v21 v22 b14) fun x25 =>
   Option.bind (ZbI k v19.Gone x25) fun x28 =>
   lt1 ((!v19.Gone)) fun v31 =>
   if v31 = true then
    Option.bind (Zdn k v19.Key.Topic) fun (v32, v33) =>
    Option.bind (ZaK k v32 v33 x28) fun x36 =>
    Option.bind (Zdn k v19.Key.Device) fun (v39, v40) =>
    Option.bind (ZaK k v39 v40 x36) fun x43 =>
    some x43
   else
    some x28
  ) fun b46 =>
   lt1 (w64 (x15 + (1 : Int))) fun v49 =>
   some (.inl (b46, v49))
 else
  some (.inr b14)

def frame_writer_items'3 (k : Nat) (l1 : (List Zal)) (x3 : (List UInt8)) : Option (((List UInt8))) :=
 lt1 ((UN.ofI (List.length l1 : Int) : UInt64)) fun v6 =>
 Option.bind (wire_Put k v6 (2 : Int)) fun (v7, v8) =>
 Option.bind (ZaK k v7 v8 x3) fun x11 =>
 Zbc (fun s => frame_writer_items'3.b1 k l1 s.1 s.2) k (x11, (0 : Int))

def Zcz (k : Nat) (f1 : Zai) (x3 : (List UInt8)) : Option (((List UInt8))) :=
 Option.bind (frame_writer_items'3 k f1.Items x3) fun x7 =>
 some x7

def Zea (k : Nat) (x1 : (List UInt8)) (v2 : Int) : Option (((List UInt8))) :=
 Option.bind (apL 1 ([] : (List UInt8)) x1) fun v4 =>
 some v4

def ZbC (k : Nat) (x1 : (List UInt8)) (v2 : Int) (x4 : (List UInt8)) : Option (((List UInt8))) :=
 Option.bind (apL 1 x4 x1) fun x7 =>
 some x7

def wire_Vector.b1 (k : Nat) (v1 : (Vector UInt64 16)) (b_3 : (List UInt8)) (x4 : Int) : Option (((List UInt8) × Int) ⊕ (((List UInt8)))) :=
 lt1 (decide (x4 < (16 : Int))) fun v7 =>
 if v7 = true then
  Option.bind (idxV v1 x4) fun v8 =>
  Option.bind (wire_Put k v8 (8 : Int)) fun (v9, v10) =>
  Option.bind (apL 1 b_3 v9) fun b13 =>
  lt1 (w64 (x4 + (1 : Int))) fun v16 =>
  some (.inl (b13, v16))
 else
  some (.inr b_3)

def wire_Vector (k : Nat) (v1 : (Vector UInt64 16)) : Option (((List UInt8))) :=
 Option.bind (
  Zbc (fun s => wire_Vector.b1 k v1 s.1 s.2) k (([] : (List UInt8)), (0 : Int))
 ) fun b17 =>
  some b17

def event_bytes.b1 (k : Nat) (t1 : Zaq) (x39 : (List UInt8)) (x40 : Int) : Option (((List UInt8) × Int) ⊕ (((List UInt8)))) :=
 lt1 (decide (x40 < (List.length t1.To : Int))) fun v43 =>
 if v43 = true then
  Option.bind (idxL t1.To x40) fun v44 =>
  Option.bind (Zec k v44.Dot) fun (v46, v47) =>
  Option.bind (ZbC k v46 v47 x39) fun x50 =>
  Option.bind (Zdn k v44.Device) fun (v53, v54) =>
  Option.bind (ZbC k v53 v54 x50) fun x57 =>
  lt1 (w64 (x40 + (1 : Int))) fun v60 =>
  some (.inl (x57, v60))
 else
  some (.inr x39)

def event_bytes (k : Nat) (t1 : Zaq) : Option (((List UInt8))) :=
 Option.bind (Zec k t1.ID) fun (v4, v5) =>
 Option.bind (Zea k v4 v5) fun x8 =>
 Option.bind (Zdn k t1.Topic) fun (v11, v12) =>
 Option.bind (ZbC k v11 v12 x8) fun x15 =>
 Option.bind (Zdn k t1.Payload) fun (v18, v19) =>
 Option.bind (ZbC k v18 v19 x15) fun x22 =>
 Option.bind (wire_Vector k t1.Past) fun v25 =>
 Option.bind (ZbC k v25 (0 : Int) x22) fun x28 =>
 lt1 ((UN.ofI (List.length t1.To : Int) : UInt64)) fun v31 =>
 Option.bind (wire_Put k v31 (2 : Int)) fun (v32, v33) =>
 Option.bind (ZbC k v32 v33 x28) fun x36 =>
 Option.bind (
  Zbc (fun s => event_bytes.b1 k t1 s.1 s.2) k (x36, (0 : Int))
 ) fun x61 =>
  some x61

def Zfq (k : Nat) (e1 : Zaq) : Option (((List UInt8) × Int)) :=
 Option.bind (event_May k e1) fun v3 =>
 lt1 ((!v3)) fun v4 =>
 if v4 = true then
  some (([] : (List UInt8)), (2 : Int))
 else
  Option.bind (event_bytes k e1) fun v5 =>
  some (v5, (0 : Int))

def Zcu (k : Nat) (f1 : Zai) (x3 : (List UInt8)) : Option (((List UInt8))) :=
 Option.bind (Zfq k f1.Event) fun (v7, v8) =>
 lt1 ((UN.ofI (List.length v7 : Int) : UInt64)) fun v11 =>
 Option.bind (wire_Put k v11 (4 : Int)) fun (v12, v13) =>
 Option.bind (ZaK k v12 v13 x3) fun x16 =>
 Option.bind (apL 1 x16 v7) fun x19 =>
 some x19

def Zc8 (k : Nat) (f1 : Zai) (x3 : (List UInt8)) : Option (((List UInt8))) :=
 Option.bind (wire_Vector k f1.Past) fun v7 =>
 Option.bind (ZaK k v7 (0 : Int) x3) fun x10 =>
 some x10

def frame_writer_dots.b1 (k : Nat) (l1 : (List Zah)) (b14 : (List UInt8)) (x15 : Int) : Option (((List UInt8) × Int) ⊕ (((List UInt8)))) :=
 lt1 (decide (x15 < (List.length l1 : Int))) fun v18 =>
 if v18 = true then
  Option.bind (idxL l1 x15) fun v19 =>
  Option.bind (Zec k v19) fun (v21, v22) =>
  Option.bind (ZaK k v21 v22 b14) fun x25 =>
  lt1 (w64 (x15 + (1 : Int))) fun v28 =>
  some (.inl (x25, v28))
 else
  some (.inr b14)

def frame_writer_dots (k : Nat) (l1 : (List Zah)) (x3 : (List UInt8)) : Option (((List UInt8))) :=
 lt1 ((UN.ofI (List.length l1 : Int) : UInt64)) fun v6 =>
 Option.bind (wire_Put k v6 (2 : Int)) fun (v7, v8) =>
 Option.bind (ZaK k v7 v8 x3) fun x11 =>
 Zbc (fun s => frame_writer_dots.b1 k l1 s.1 s.2) k (x11, (0 : Int))

def Zb7 (k : Nat) (f1 : Zai) (x3 : (List UInt8)) : Option (((List UInt8))) :=
 Option.bind (wire_Vector k f1.Seen) fun v7 =>
 Option.bind (ZaK k v7 (0 : Int) x3) fun x10 =>
 Option.bind (frame_writer_dots k f1.Extra x10) fun x13 =>
 some x13

def ZcZ (k : Nat) (f1 : Zai) (x3 : (List UInt8)) : Option (((List UInt8))) :=
 Option.bind (Zb7 k f1 x3) fun x7 =>
 Option.bind (frame_writer_dots k f1.Live x7) fun x10 =>
 some x10

def Zc9 (k : Nat) (f1 : Zai) (x3 : (List UInt8)) : Option (((List UInt8))) :=
 Option.bind (subL (Vector.toList f1.Hash) (0 : Int) (32 : Int)) fun v7 =>
 Option.bind (apL 1 x3 v7) fun x8 =>
 some x8

def frame_writer_leaves.b1 (k : Nat) (f1 : Zai) (b7 : (List UInt8)) (x8 : Int) : Option (((List UInt8) × Int) ⊕ (((List UInt8)))) :=
 lt1 (decide (x8 < (List.length f1.Leaves : Int))) fun v11 =>
 if v11 = true then
  Option.bind (idxL f1.Leaves x8) fun v12 =>
  Option.bind (subL (Vector.toList v12) (0 : Int) (32 : Int)) fun v14 =>
  Option.bind (apL 1 b7 v14) fun x15 =>
  lt1 (w64 (x8 + (1 : Int))) fun v18 =>
  some (.inl (x15, v18))
 else
  some (.inr b7)

def frame_writer_leaves (k : Nat) (f1 : Zai) (x3 : (List UInt8)) : Option (((List UInt8))) :=
 Zbc (fun s => frame_writer_leaves.b1 k f1 s.1 s.2) k (x3, (0 : Int))

def frame_writer_buckets.b1 (k : Nat) (f1 : Zai) (b11 : (List UInt8)) (x12 : Int) : Option (((List UInt8) × Int) ⊕ (((List UInt8)))) :=
 lt1 (decide (x12 < (List.length f1.Buckets : Int))) fun v15 =>
 if v15 = true then
  Option.bind (idxL f1.Buckets x12) fun v16 =>
  lt1 ((UN.ofI v16 : UInt8)) fun v17 =>
  Option.bind (apL 1 b11 ([v17] : (List UInt8))) fun x18 =>
  lt1 (w64 (x12 + (1 : Int))) fun v21 =>
  some (.inl (x18, v21))
 else
  some (.inr b11)

def frame_writer_buckets (k : Nat) (f1 : Zai) (x3 : (List UInt8)) : Option (((List UInt8))) :=
 lt1 ((UN.ofI (List.length f1.Buckets : Int) : UInt8)) fun v7 =>
 Option.bind (apL 1 x3 ([v7] : (List UInt8))) fun x8 =>
 Option.bind (
  Zbc (fun s => frame_writer_buckets.b1 k f1 s.1 s.2) k (x8, (0 : Int))
 ) fun b22 =>
  Option.bind (frame_writer_items'3 k f1.Items b22) fun x25 =>
  Option.bind (Zb7 k f1 x25) fun x28 =>
  Option.bind (ZbI k f1.Reply x28) fun x31 =>
  some x31

def crc_fours.b2 (k : Nat) (x5 : UInt32) (x6 : Int) : Option ((UInt32 × Int) ⊕ ((UInt32))) :=
 lt1 (decide (x6 < (4 : Int))) fun v7 =>
 if v7 = true then
  Option.bind (
   lt1 ((x5 &&& (1 : UInt32))) fun v8 =>
   lt1 ((v8 == (1 : UInt32))) fun v9 =>
   if v9 = true then
    lt1 (UN.shr x5 (UN.toN (1 : UInt64))) fun v10 =>
    lt1 ((v10 ^^^ (2197175160 : UInt32))) fun v11 =>
    some v11
   else
    lt1 (UN.shr x5 (UN.toN (1 : UInt64))) fun v12 =>
    some v12
  ) fun x13 =>
   lt1 (w64 (x6 + (1 : Int))) fun v14 =>
   some (.inl (x13, v14))
 else
  some (.inr x5)

def crc_fours.b1 (k : Nat) (f2 : (Vector UInt32 16)) (x3 : UInt32) : Option (((Vector UInt32 16) × UInt32) ⊕ (((Vector UInt32 16)))) :=
 lt1 (decide (x3 < (16 : UInt32))) fun v4 =>
 if v4 = true then
  Option.bind (
   Option.bind (
    Zbc (fun s => crc_fours.b2 k s.1 s.2) k (x3, (0 : Int))
   ) fun x15 =>
    Option.bind (inN 16 (UN.toN x3)) fun i16 =>
    lt1 ((putV f2 i16 x15)) fun f17 =>
    some f17
  ) fun f18 =>
   lt1 ((x3 + (1 : UInt32))) fun v19 =>
   some (.inl (f18, v19))
 else
  some (.inr f2)

def crc_fours (k : Nat) : Option (((Vector UInt32 16))) :=
 Option.bind (
  Zbc (fun s => crc_fours.b1 k s.1 s.2) k ((Vector.replicate 16 (0 : UInt32)), (0 : UInt32))
 ) fun f20 =>
  some f20

def crc_sum.b1 (k : Nat) (b_2 : (List UInt8)) (v3 : (Vector UInt32 16)) (x6 : UInt32) (x7 : Int) : Option ((UInt32 × Int) ⊕ ((UInt32))) :=
 lt1 (decide (x7 < (List.length b_2 : Int))) fun v8 =>
 if v8 = true then
  Option.bind (idxL b_2 x7) fun v9 =>
  lt1 ((UN.to v9 : UInt32)) fun v10 =>
  lt1 ((x6 ^^^ v10)) fun v11 =>
  lt1 ((v11 &&& (15 : UInt32))) fun v12 =>
  Option.bind (inN 16 (UN.toN v12)) fun i13 =>
  lt1 ((getV v3 i13)) fun v14 =>
  lt1 (UN.shr v11 (UN.toN (4 : UInt64))) fun v15 =>
  lt1 ((v14 ^^^ v15)) fun v16 =>
  lt1 ((v16 &&& (15 : UInt32))) fun v17 =>
  Option.bind (inN 16 (UN.toN v17)) fun i18 =>
  lt1 ((getV v3 i18)) fun v19 =>
  lt1 (UN.shr v16 (UN.toN (4 : UInt64))) fun v20 =>
  lt1 ((v19 ^^^ v20)) fun v21 =>
  lt1 (w64 (x7 + (1 : Int))) fun v22 =>
  some (.inl (v21, v22))
 else
  some (.inr x6)

def crc_sum (k : Nat) (was1 : UInt32) (b_2 : (List UInt8)) : Option ((UInt32)) :=
 Option.bind (crc_fours k) fun v3 =>
 lt1 ((UN.not was1)) fun v4 =>
 Option.bind (
  Zbc (fun s => crc_sum.b1 k b_2 v3 s.1 s.2) k (v4, (0 : Int))
 ) fun x23 =>
  lt1 ((UN.not x23)) fun v24 =>
  some v24

def crc_Sum.b1 (k : Nat) (l1 : (List (List UInt8))) (s2 : UInt32) (x3 : Int) : Option ((UInt32 × Int) ⊕ ((UInt32))) :=
 lt1 (decide (x3 < (List.length l1 : Int))) fun v4 =>
 if v4 = true then
  Option.bind (idxL l1 x3) fun v5 =>
  Option.bind (crc_sum k s2 v5) fun v6 =>
  lt1 (w64 (x3 + (1 : Int))) fun v7 =>
  some (.inl (v6, v7))
 else
  some (.inr s2)

def crc_Sum (k : Nat) (l1 : (List (List UInt8))) : Option ((UInt32)) :=
 Option.bind (
  Zbc (fun s => crc_Sum.b1 k l1 s.1 s.2) k ((0 : UInt32), (0 : Int))
 ) fun s8 =>
  some s8

def ZbL (k : Nat) (b_1 : (List UInt8)) (v2 : Int) (x4 : (List UInt8)) : Option (((List UInt8))) :=
 Option.bind (apL 1 x4 b_1) fun x7 =>
 some x7

def Zcp (k : Nat) (f1 : Zai) : Option (((List UInt8))) :=
 lt1 ((UN.ofI f1.Kind : UInt8)) fun v3 =>
 lt1 ((UN.ofI f1.From : UInt8)) fun v4 =>
 lt1 ((UN.ofI f1.To : UInt8)) fun v5 =>
 Option.bind (
  Option.bind (Zet k) fun v8 =>
  lt1 (Option.getD (Zen (some (v8)) f1.Kind) (Zaf.mk (none : Option Nat) (none : Option Nat))) fun v10 =>
  Option.bind (if v10.write = some 92 then Zcz k f1 ([v3, v4, v5] : (List UInt8)) else if v10.write = some 94 then Zcu k f1 ([v3, v4, v5] : (List UInt8)) else if v10.write = some 96 then Zc8 k f1 ([v3, v4, v5] : (List UInt8)) else if v10.write = some 98 then ZcZ k f1 ([v3, v4, v5] : (List UInt8)) else if v10.write = some 100 then Zc9 k f1 ([v3, v4, v5] : (List UInt8)) else if v10.write = some 102 then frame_writer_leaves k f1 ([v3, v4, v5] : (List UInt8)) else if v10.write = some 104 then frame_writer_buckets k f1 ([v3, v4, v5] : (List UInt8)) else none) fun x11 =>
  some x11
 ) fun b14 =>
  Option.bind (crc_Sum k ([b14] : (List (List UInt8)))) fun v17 =>
  lt1 ((UN.to v17 : UInt64)) fun v18 =>
  Option.bind (wire_Put k v18 (4 : Int)) fun (v19, v20) =>
  Option.bind (ZbL k v19 v20 b14) fun x23 =>
  some x23

def ZcP (k : Nat) (f1 : Zai) : Option (((List UInt8) × Int)) :=
 Option.bind (frame_May k f1) fun v3 =>
 lt1 ((!v3)) fun v4 =>
 if v4 = true then
  some (([] : (List UInt8)), (2 : Int))
 else
  Option.bind (Zcp k f1) fun v5 =>
  some (v5, (0 : Int))

def ZbW (k : Nat) (s1 : (List UInt8)) : Option (((List UInt8))) :=
 Option.bind (apL 1 ([] : (List UInt8)) s1) fun x3 =>
 some x3

def ZcA (k : Nat) (b_1 : (List UInt8)) : Option (((List UInt8))) :=
 Option.bind (ZbW k b_1) fun v2 =>
 some v2

def ZbZ (k : Nat) (is1 : Bool) (made2 : Bool) (x4 : (List UInt8)) : Option ((Bool)) :=
 Option.bind (
  lt1 ((!is1)) fun v7 =>
  some v7
 ) fun x8 =>
  some x8

def Zbp (k : Nat) (n1 : Int) (is2 : Bool) (made3 : Bool) (x5 : (List UInt8)) : Option (((List UInt8) × Bool × (List UInt8) × Bool × Bool)) :=
 Option.bind (ZbZ k is2 made3 x5) fun v8 =>
 if v8 = true then
  some (([] : (List UInt8)), false, x5, is2, made3)
 else
  Option.bind (
   lt1 (decide (n1 < (0 : Int))) fun v9 =>
   if v9 = true then
    some true
   else
    lt1 (decide (n1 > (List.length x5 : Int))) fun v10 =>
    some v10
  ) fun x11 =>
   if x11 = true then
    some (([] : (List UInt8)), false, ([] : (List UInt8)), false, true)
   else
    Option.bind (subL x5 (0) n1) fun v12 =>
    Option.bind (subL x5 n1 (List.length x5 : Int)) fun v13 =>
    some (v12, true, v13, is2, made3)

def wire_Get.b1 (k : Nat) (b_1 : (List UInt8)) (n6 : UInt64) (x7 : Int) : Option ((UInt64 × Int) ⊕ ((UInt64))) :=
 lt1 (decide (x7 < (List.length b_1 : Int))) fun v8 =>
 if v8 = true then
  Option.bind (idxL b_1 x7) fun v9 =>
  lt1 (UN.shl n6 (UN.toN (8 : UInt64))) fun v10 =>
  lt1 ((UN.to v9 : UInt64)) fun v11 =>
  lt1 ((v10 ||| v11)) fun v12 =>
  lt1 (w64 (x7 + (1 : Int))) fun v13 =>
  some (.inl (v12, v13))
 else
  some (.inr n6)

def wire_Get (k : Nat) (b_1 : (List UInt8)) : Option ((UInt64 × Int)) :=
 Option.bind (
  lt1 (decide ((List.length b_1 : Int) < (1 : Int))) fun v2 =>
  lt1 (decide ((List.length b_1 : Int) > (8 : Int))) fun v3 =>
  lt1 (bif v2 then true else v3) fun v4 =>
  some v4
 ) fun x5 =>
  if x5 = true then
   some ((0 : UInt64), (2 : Int))
  else
   Option.bind (
    Zbc (fun s => wire_Get.b1 k b_1 s.1 s.2) k ((0 : UInt64), (0 : Int))
   ) fun n14 =>
    some (n14, (0 : Int))

def ZaV (k : Nat) (size1 : Int) (is2 : Bool) (made3 : Bool) (x5 : (List UInt8)) : Option ((UInt64 × Zag)) :=
 Option.bind (
  Option.bind (
   lt1 (decide (size1 < (1 : Int))) fun v8 =>
   lt1 (decide (size1 > (8 : Int))) fun v9 =>
   lt1 (bif v8 then true else v9) fun v10 =>
   some v10
  ) fun x11 =>
   if x11 = true then
    some (-1 : Int)
   else
    some size1
 ) fun size12 =>
  Option.bind (Zbp k size12 is2 made3 x5) fun (v13, v14, x15, x16, x17) =>
  Option.bind (wire_Get k v13) fun (v18, v19) =>
  some (v18, (Zag.mk x15 x16 x17))

def ZaH (k : Nat) (r1 : Zag) : Option ((Bool)) :=
 Option.bind (
  lt1 ((!r1.is)) fun v3 =>
  some v3
 ) fun x4 =>
  some x4

def ZaW (k : Nat) (n1 : Int) (r2 : Zag) : Option (((List UInt8) × Bool × Zag)) :=
 Option.bind (ZaH k r2) fun v4 =>
 if v4 = true then
  some (([] : (List UInt8)), false, r2)
 else
  Option.bind (
   lt1 (decide (n1 < (0 : Int))) fun v5 =>
   lt1 (decide (n1 > (List.length r2.rest : Int))) fun v6 =>
   lt1 (bif v5 then true else v6) fun v7 =>
   some v7
  ) fun x8 =>
   if x8 = true then
    some (([] : (List UInt8)), false, (Zag.mk ([] : (List UInt8)) false true))
   else
    Option.bind (subL r2.rest (0) n1) fun v9 =>
    Option.bind (subL r2.rest n1 (List.length r2.rest : Int)) fun v10 =>
    lt1 ({ r2 with rest := v10 }) fun x11 =>
    some (v9, true, x11)

def Zay (k : Nat) (size1 : Int) (r2 : Zag) : Option ((UInt64 × Zag)) :=
 Option.bind (
  Option.bind (
   lt1 (decide (size1 < (1 : Int))) fun v4 =>
   lt1 (decide (size1 > (8 : Int))) fun v5 =>
   lt1 (bif v4 then true else v5) fun v6 =>
   some v6
  ) fun x7 =>
   if x7 = true then
    some (-1 : Int)
   else
    some size1
 ) fun size8 =>
  Option.bind (ZaW k size8 r2) fun (v9, v10, x11) =>
  Option.bind (wire_Get k v9) fun (v12, v13) =>
  some (v12, x11)

def ZbA (k : Nat) (Kind1 : Int) (From2 : Int) (To3 : Int) (ID4 : Zah) (Topic5 : (List UInt8)) (Past6 : (Vector UInt64 16)) (Past7 : (Vector UInt64 16)) (Seen8 : (Vector UInt64 16)) (Hash9 : (Vector UInt8 32)) (Reply10 : Bool) (x12 : Zag) : Option ((Int × Zag)) :=
 Option.bind (Zay k (2 : Int) x12) fun (v14, x15) =>
 lt1 (w64 (UN.toN v14 : Int)) fun v16 =>
 some (v16, x15)

def ZbD (k : Nat) (r1 : Zag) : Option ((Zah × Zag)) :=
 Option.bind (ZaW k (9 : Int) r1) fun (v4, v5, x6) =>
 Option.bind (ZcA k v4) fun v7 =>
 Option.bind (ZaV k (1 : Int) true true v7) fun (v11, x12) =>
 lt1 (w64 (UN.toN v11 : Int)) fun v13 =>
 Option.bind (Zay k (8 : Int) x12) fun (v14, x15) =>
 some ((Zah.mk v13 v14), x6)

def Zbu (k : Nat) (n1 : Int) (r2 : Zag) : Option (((List UInt8) × Zag)) :=
 Option.bind (ZaW k n1 r2) fun (v4, v5, x6) =>
 some (v4, x6)

def Za3 (k : Nat) (r1 : Zag) : Option (((List UInt8) × Zag)) :=
 Option.bind (Zay k (2 : Int) r1) fun (v3, x4) =>
 lt1 (w64 (UN.toN v3 : Int)) fun v5 =>
 Option.bind (Zbu k v5 x4) fun (v6, x7) =>
 some (v6, x7)

def ZbJ (k : Nat) (Kind1 : Int) (From2 : Int) (To3 : Int) (ID4 : Zah) (Topic5 : (List UInt8)) (Past6 : (Vector UInt64 16)) (Past7 : (Vector UInt64 16)) (Seen8 : (Vector UInt64 16)) (Hash9 : (Vector UInt8 32)) (Reply10 : Bool) (x12 : Zag) : Option ((Zal × Zag)) :=
 Option.bind (ZbD k x12) fun (v15, x16) =>
 Option.bind (Zay k (1 : Int) x16) fun (v17, x18) =>
 lt1 ((!(v17 == (0 : UInt64)))) fun v19 =>
 Option.bind (
  lt1 ((!v19)) fun v21 =>
  if v21 = true then
   Option.bind (Za3 k x18) fun (v22, x23) =>
   Option.bind (Za3 k x23) fun (v24, x25) =>
   some ((Zal.mk v15 (Zbs.mk v22 v24) v19), x25)
  else
   some ((Zal.mk v15 ((Zal.mk (Zah.mk (0 : Int) (0 : UInt64)) (Zbs.mk ([] : (List UInt8)) ([] : (List UInt8))) false).Key) v19), x18)
 ) fun (i26, x27) =>
  some (i26, x27)

def frame_listapi_Item.b1 (k : Nat) (n1 : Int) (Kind4 : Int) (From5 : Int) (To6 : Int) (ID7 : Zah) (Topic8 : (List UInt8)) (Past9 : (Vector UInt64 16)) (Past10 : (Vector UInt64 16)) (Seen11 : (Vector UInt64 16)) (Hash12 : (Vector UInt8 32)) (Reply13 : Bool) (r15 : Zag) (l16 : (List Zal)) (x17 : Int) : Option ((Zag × (List Zal) × Int) ⊕ (((List Zal) × Zag) ⊕ (((List Zal) × Zag)))) :=
 lt1 (decide (x17 < n1)) fun v20 =>
 if v20 = true then
  Option.bind (ZaH k r15) fun v21 =>
  if v21 = true then
   some (.inr (.inr (([] : (List Zal)), r15)))
  else
   Option.bind (ZbJ k Kind4 From5 To6 ID7 Topic8 Past9 Past10 Seen11 Hash12 Reply13 r15) fun (v22, x23) =>
   Option.bind (apL 56 l16 ([v22] : (List Zal))) fun l24 =>
   lt1 (w64 (x17 + (1 : Int))) fun v27 =>
   some (.inl (x23, l24, v27))
 else
  some (.inr (.inl (l16, r15)))

def frame_listapi_Item (k : Nat) (n1 : Int) (r2 : Zag) (Kind4 : Int) (From5 : Int) (To6 : Int) (ID7 : Zah) (Topic8 : (List UInt8)) (Past9 : (Vector UInt64 16)) (Past10 : (Vector UInt64 16)) (Seen11 : (Vector UInt64 16)) (Hash12 : (Vector UInt8 32)) (Reply13 : Bool) : Option (((List Zal) × Zag)) :=
 Option.bind (
  Option.bind (Zbc (fun s => frame_listapi_Item.b1 k n1 Kind4 From5 To6 ID7 Topic8 Past9 Past10 Seen11 Hash12 Reply13 s.1 s.2.1 s.2.2) k (r2, ([] : (List Zal)), (0 : Int))) fun t => match t with
  | (.inl (l28, x29)) =>
   some (.inl (l28, x29))
  | (.inr q) =>
   some (.inr q)
  : Option (((List Zal) × Zag) ⊕ (((List Zal) × Zag)))) fun t => match t with
 | (.inl (l32, x33)) =>
  some (l32, x33)
 | (.inr q) =>
  some q

def Zcq (k : Nat) (Kind1 : Int) (From2 : Int) (To3 : Int) (ID4 : Zah) (Topic5 : (List UInt8)) (Past6 : (Vector UInt64 16)) (Past7 : (Vector UInt64 16)) (Seen8 : (Vector UInt64 16)) (Hash9 : (Vector UInt8 32)) (Reply10 : Bool) (x12 : Zag) : Option ((Zag × (List Zal))) :=
 Option.bind (ZbA k Kind1 From2 To3 ID4 Topic5 Past6 Past7 Seen8 Hash9 Reply10 x12) fun (v14, x15) =>
 Option.bind (frame_listapi_Item k v14 x15 Kind1 From2 To3 ID4 Topic5 Past6 Past7 Seen8 Hash9 Reply10) fun (v16, x17) =>
 some (x17, v16)

def ZbQ (k : Nat) (is1 : Bool) (made2 : Bool) (x4 : (List UInt8)) : Option ((Zah × Zag)) :=
 Option.bind (Zbp k (9 : Int) is1 made2 x4) fun (v8, v9, x10, x11, x12) =>
 Option.bind (ZcA k v8) fun v13 =>
 Option.bind (ZaV k (1 : Int) true true v13) fun (v17, x18) =>
 lt1 (w64 (UN.toN v17 : Int)) fun v19 =>
 Option.bind (Zay k (8 : Int) x18) fun (v20, x21) =>
 some ((Zah.mk v19 v20), (Zag.mk x10 x11 x12))

def ZbP (k : Nat) (x2 : Zag) : Option ((UInt64 × Zag)) :=
 Option.bind (Zay k (8 : Int) x2) fun (v4, x5) =>
 some (v4, x5)

def wire_Reader_Vector.b1 (k : Nat) (v12 : (Vector UInt64 16)) (x13 : Zag) (x14 : Int) : Option (((Vector UInt64 16) × Zag × Int) ⊕ (((Vector UInt64 16)))) :=
 lt1 (decide (x14 < (16 : Int))) fun v15 =>
 if v15 = true then
  Option.bind (ZbP k x13) fun (v16, x17) =>
  Option.bind (inV 16 x14) fun i18 =>
  lt1 ((putV v12 i18 v16)) fun v19 =>
  lt1 (w64 (x14 + (1 : Int))) fun v20 =>
  some (.inl (v19, x17, v20))
 else
  some (.inr v12)

def wire_Reader_Vector (k : Nat) (r1 : Zag) : Option (((Vector UInt64 16) × Zag)) :=
 Option.bind (ZaW k (128 : Int) r1) fun (v4, v5, x6) =>
 Option.bind (ZcA k v4) fun v7 =>
 Option.bind (
  Zbc (fun s => wire_Reader_Vector.b1 k s.1 s.2.1 s.2.2) k ((Vector.replicate 16 (0 : UInt64)), (Zag.mk v7 true true), (0 : Int))
 ) fun v21 =>
  some (v21, x6)

def Zb3 (k : Nat) (r1 : Zag) : Option ((Int)) :=
 Option.bind (ZaH k r1) fun v3 =>
 if v3 = true then
  some (0 : Int)
 else
  some (List.length r1.rest : Int)

def Zcd (k : Nat) (r1 : Zag) : Option ((Int)) :=
 Option.bind (
  lt1 ((!r1.made)) fun v3 =>
  some v3
 ) fun x4 =>
  if x4 = true then
   some (1 : Int)
  else
   Option.bind (
    Option.bind (ZaH k r1) fun v5 =>
    lt1 (decide ((List.length r1.rest : Int) > (0 : Int))) fun v6 =>
    lt1 (bif v5 then true else v6) fun v7 =>
    some v7
   ) fun x8 =>
    if x8 = true then
     some (4 : Int)
    else
     some (0 : Int)

def event_Of.b1 (k : Nat) (v20 : Int) (r21 : Zag) (To22 : (List ZaA)) (x23 : Int) : Option ((Zag × (List ZaA) × Int) ⊕ ((Zag × (List ZaA)))) :=
 lt1 (decide (x23 < v20)) fun v26 =>
 if v26 = true then
  Option.bind (ZbD k r21) fun (v27, x28) =>
  Option.bind (Za3 k x28) fun (v29, x30) =>
  Option.bind (apL 32 To22 ([(ZaA.mk v27 v29)] : (List ZaA))) fun x31 =>
  lt1 (w64 (x23 + (1 : Int))) fun v34 =>
  some (.inl (x30, x31, v34))
 else
  some (.inr (r21, To22))

def event_Of (k : Nat) (b_1 : (List UInt8)) : Option ((Zaq × Int)) :=
 Option.bind (ZcA k b_1) fun v3 =>
 Option.bind (ZbQ k true true v3) fun (v7, x8) =>
 Option.bind (Za3 k x8) fun (v9, x10) =>
 Option.bind (Za3 k x10) fun (v11, x12) =>
 Option.bind (wire_Reader_Vector k x12) fun (v13, x14) =>
 Option.bind (
  Option.bind (Zay k (2 : Int) x14) fun (v16, x17) =>
  lt1 (w64 (UN.toN v16 : Int)) fun v18 =>
  Option.bind (Zb3 k x17) fun v19 =>
  lt1 (minI v18 v19) fun v20 =>
  Zbc (fun s => event_Of.b1 k v20 s.1 s.2.1 s.2.2) k (x17, ([] : (List ZaA)), (0 : Int))
 ) fun (r35, To36) =>
  Option.bind (
   Option.bind (Zcd k r35) fun v39 =>
   lt1 ((v39 != (0 : Int))) fun v40 =>
   if v40 = true then
    some true
   else
    Option.bind (event_May k (Zaq.mk v7 v9 v11 v13 To36)) fun v41 =>
    lt1 ((!v41)) fun v42 =>
    if v42 = true then
     some true
    else
     Option.bind (event_bytes k (Zaq.mk v7 v9 v11 v13 To36)) fun v43 =>
     Option.bind (slices_Equalbyte_byte k v43 b_1) fun v46 =>
     lt1 ((!v46)) fun v47 =>
     some v47
  ) fun x48 =>
   if x48 = true then
    some ((Zaq.mk (Zah.mk (0 : Int) (0 : UInt64)) ([] : (List UInt8)) ([] : (List UInt8)) (Vector.replicate 16 (0 : UInt64)) ([] : (List ZaA))), (4 : Int))
   else
    some ((Zaq.mk v7 v9 v11 v13 To36), (0 : Int))

def Zco (k : Nat) (Kind1 : Int) (From2 : Int) (To3 : Int) (ID4 : Zah) (Topic5 : (List UInt8)) (Past6 : (Vector UInt64 16)) (Past7 : (Vector UInt64 16)) (Seen8 : (Vector UInt64 16)) (Hash9 : (Vector UInt8 32)) (Reply10 : Bool) (x12 : Zag) : Option ((Zag × Zai)) :=
 Option.bind (Zay k (4 : Int) x12) fun (v14, x15) =>
 lt1 (w64 (UN.toN v14 : Int)) fun v16 =>
 Option.bind (Zbu k v16 x15) fun (v17, x18) =>
 Option.bind (event_Of k v17) fun (v19, v20) =>
 some (x18, (Zai.mk Kind1 From2 To3 ([] : (List Zal)) v19 Past7 Seen8 ([] : (List Zah)) ([] : (List Zah)) Hash9 ([] : (List (Vector UInt8 32))) ([] : (List Int)) Reply10))

def ZcD (k : Nat) (Kind1 : Int) (From2 : Int) (To3 : Int) (ID4 : Zah) (Topic5 : (List UInt8)) (Past6 : (Vector UInt64 16)) (Past7 : (Vector UInt64 16)) (Seen8 : (Vector UInt64 16)) (Hash9 : (Vector UInt8 32)) (Reply10 : Bool) (x12 : Zag) : Option ((Zag × Zai)) :=
 Option.bind (wire_Reader_Vector k x12) fun (v14, x15) =>
 some (x15, (Zai.mk Kind1 From2 To3 ([] : (List Zal)) (Zaq.mk ID4 Topic5 ([] : (List UInt8)) Past6 ([] : (List ZaA))) v14 Seen8 ([] : (List Zah)) ([] : (List Zah)) Hash9 ([] : (List (Vector UInt8 32))) ([] : (List Int)) Reply10))

def frame_listapi_Dot.b1 (k : Nat) (n1 : Int) (r4 : Zag) (l5 : (List Zah)) (x6 : Int) : Option ((Zag × (List Zah) × Int) ⊕ (((List Zah) × Zag) ⊕ (((List Zah) × Zag)))) :=
 lt1 (decide (x6 < n1)) fun v9 =>
 if v9 = true then
  Option.bind (ZaH k r4) fun v10 =>
  if v10 = true then
   some (.inr (.inr (([] : (List Zah)), r4)))
  else
   Option.bind (ZbD k r4) fun (v11, x12) =>
   Option.bind (apL 16 l5 ([v11] : (List Zah))) fun l13 =>
   lt1 (w64 (x6 + (1 : Int))) fun v16 =>
   some (.inl (x12, l13, v16))
 else
  some (.inr (.inl (l5, r4)))

def frame_listapi_Dot (k : Nat) (n1 : Int) (r2 : Zag) : Option (((List Zah) × Zag)) :=
 Option.bind (
  Option.bind (Zbc (fun s => frame_listapi_Dot.b1 k n1 s.1 s.2.1 s.2.2) k (r2, ([] : (List Zah)), (0 : Int))) fun t => match t with
  | (.inl (l17, x18)) =>
   some (.inl (l17, x18))
  | (.inr q) =>
   some (.inr q)
  : Option (((List Zah) × Zag) ⊕ (((List Zah) × Zag)))) fun t => match t with
 | (.inl (l21, x22)) =>
  some (l21, x22)
 | (.inr q) =>
  some q

def ZcC (k : Nat) (Kind1 : Int) (From2 : Int) (To3 : Int) (ID4 : Zah) (Topic5 : (List UInt8)) (Past6 : (Vector UInt64 16)) (Past7 : (Vector UInt64 16)) (Seen8 : (Vector UInt64 16)) (Hash9 : (Vector UInt8 32)) (Reply10 : Bool) (x12 : Zag) : Option ((Zag × (Vector UInt64 16) × (List Zah))) :=
 Option.bind (wire_Reader_Vector k x12) fun (v14, x15) =>
 Option.bind (ZbA k Kind1 From2 To3 ID4 Topic5 Past6 Past7 v14 Hash9 Reply10 x15) fun (v16, x17) =>
 Option.bind (frame_listapi_Dot k v16 x17) fun (v18, x19) =>
 some (x19, v14, v18)

def Zbx (k : Nat) (Kind1 : Int) (From2 : Int) (To3 : Int) (ID4 : Zah) (Topic5 : (List UInt8)) (Past6 : (Vector UInt64 16)) (Past7 : (Vector UInt64 16)) (Seen8 : (Vector UInt64 16)) (Hash9 : (Vector UInt8 32)) (Reply10 : Bool) (x12 : Zag) (x14 : (List Zah)) : Option ((Int × Zag)) :=
 Option.bind (Zay k (2 : Int) x12) fun (v17, x18) =>
 lt1 (w64 (UN.toN v17 : Int)) fun v19 =>
 some (v19, x18)

def Zcv (k : Nat) (Kind1 : Int) (From2 : Int) (To3 : Int) (ID4 : Zah) (Topic5 : (List UInt8)) (Past6 : (Vector UInt64 16)) (Past7 : (Vector UInt64 16)) (Seen8 : (Vector UInt64 16)) (Hash9 : (Vector UInt8 32)) (Reply10 : Bool) (x12 : Zag) : Option ((Zag × (Vector UInt64 16) × (List Zah) × (List Zah))) :=
 Option.bind (ZcC k Kind1 From2 To3 ID4 Topic5 Past6 Past7 Seen8 Hash9 Reply10 x12) fun (x14, x15, x16) =>
 Option.bind (Zbx k Kind1 From2 To3 ID4 Topic5 Past6 Past7 x15 Hash9 Reply10 x14 x16) fun (v19, x20) =>
 Option.bind (frame_listapi_Dot k v19 x20) fun (v21, x22) =>
 some (x22, x15, x16, v21)

def ZbH (k : Nat) (Kind1 : Int) (From2 : Int) (To3 : Int) (ID4 : Zah) (Topic5 : (List UInt8)) (Past6 : (Vector UInt64 16)) (Past7 : (Vector UInt64 16)) (Seen8 : (Vector UInt64 16)) (Hash9 : (Vector UInt8 32)) (Reply10 : Bool) (x12 : Zag) : Option (((Vector UInt8 32) × Zag)) :=
 Option.bind (Zbu k (32 : Int) x12) fun (v15, x16) =>
 lt1 (cpV (Vector.replicate 32 (0 : UInt8)) 0 (32 - 0) v15) fun h17 =>
 some (h17, x16)

def ZcG (k : Nat) (Kind1 : Int) (From2 : Int) (To3 : Int) (ID4 : Zah) (Topic5 : (List UInt8)) (Past6 : (Vector UInt64 16)) (Past7 : (Vector UInt64 16)) (Seen8 : (Vector UInt64 16)) (Hash9 : (Vector UInt8 32)) (Reply10 : Bool) (x12 : Zag) : Option ((Zag × Zai)) :=
 Option.bind (ZbH k Kind1 From2 To3 ID4 Topic5 Past6 Past7 Seen8 Hash9 Reply10 x12) fun (v14, x15) =>
 some (x15, (Zai.mk Kind1 From2 To3 ([] : (List Zal)) (Zaq.mk ID4 Topic5 ([] : (List UInt8)) Past6 ([] : (List ZaA))) Past7 Seen8 ([] : (List Zah)) ([] : (List Zah)) v14 ([] : (List (Vector UInt8 32))) ([] : (List Int)) Reply10))

def frame_listapi_Hash.b1 (k : Nat) (n1 : Int) (Kind4 : Int) (From5 : Int) (To6 : Int) (ID7 : Zah) (Topic8 : (List UInt8)) (Past9 : (Vector UInt64 16)) (Past10 : (Vector UInt64 16)) (Seen11 : (Vector UInt64 16)) (Hash12 : (Vector UInt8 32)) (Reply13 : Bool) (r15 : Zag) (l16 : (List (Vector UInt8 32))) (x17 : Int) : Option ((Zag × (List (Vector UInt8 32)) × Int) ⊕ (((List (Vector UInt8 32)) × Zag) ⊕ (((List (Vector UInt8 32)) × Zag)))) :=
 lt1 (decide (x17 < n1)) fun v20 =>
 if v20 = true then
  Option.bind (ZaH k r15) fun v21 =>
  if v21 = true then
   some (.inr (.inr (([] : (List (Vector UInt8 32))), r15)))
  else
   Option.bind (ZbH k Kind4 From5 To6 ID7 Topic8 Past9 Past10 Seen11 Hash12 Reply13 r15) fun (v22, x23) =>
   Option.bind (apL 32 l16 ([v22] : (List (Vector UInt8 32)))) fun l24 =>
   lt1 (w64 (x17 + (1 : Int))) fun v27 =>
   some (.inl (x23, l24, v27))
 else
  some (.inr (.inl (l16, r15)))

def frame_listapi_Hash (k : Nat) (n1 : Int) (r2 : Zag) (Kind4 : Int) (From5 : Int) (To6 : Int) (ID7 : Zah) (Topic8 : (List UInt8)) (Past9 : (Vector UInt64 16)) (Past10 : (Vector UInt64 16)) (Seen11 : (Vector UInt64 16)) (Hash12 : (Vector UInt8 32)) (Reply13 : Bool) : Option (((List (Vector UInt8 32)) × Zag)) :=
 Option.bind (
  Option.bind (Zbc (fun s => frame_listapi_Hash.b1 k n1 Kind4 From5 To6 ID7 Topic8 Past9 Past10 Seen11 Hash12 Reply13 s.1 s.2.1 s.2.2) k (r2, ([] : (List (Vector UInt8 32))), (0 : Int))) fun t => match t with
  | (.inl (l28, x29)) =>
   some (.inl (l28, x29))
  | (.inr q) =>
   some (.inr q)
  : Option (((List (Vector UInt8 32)) × Zag) ⊕ (((List (Vector UInt8 32)) × Zag)))) fun t => match t with
 | (.inl (l32, x33)) =>
  some (l32, x33)
 | (.inr q) =>
  some q

def Zca (k : Nat) (Kind1 : Int) (From2 : Int) (To3 : Int) (ID4 : Zah) (Topic5 : (List UInt8)) (Past6 : (Vector UInt64 16)) (Past7 : (Vector UInt64 16)) (Seen8 : (Vector UInt64 16)) (Hash9 : (Vector UInt8 32)) (Reply10 : Bool) (x12 : Zag) : Option ((Zag × (List (Vector UInt8 32)))) :=
 Option.bind (frame_listapi_Hash k (64 : Int) x12 Kind1 From2 To3 ID4 Topic5 Past6 Past7 Seen8 Hash9 Reply10) fun (v14, x15) =>
 some (x15, v14)

def Zbi (k : Nat) (Kind2 : Int) (From3 : Int) (To4 : Int) (ID5 : Zah) (Topic6 : (List UInt8)) (Past7 : (Vector UInt64 16)) (Past8 : (Vector UInt64 16)) (Seen9 : (Vector UInt64 16)) (Hash10 : (Vector UInt8 32)) (Reply11 : Bool) (x13 : Zag) : Option ((Int × Zag)) :=
 Option.bind (Zay k (1 : Int) x13) fun (v15, x16) =>
 lt1 (w64 (UN.toN v15 : Int)) fun v17 =>
 some (v17, x16)

def frame_listint.b1 (k : Nat) (n1 : Int) (Kind5 : Int) (From6 : Int) (To7 : Int) (ID8 : Zah) (Topic9 : (List UInt8)) (Past10 : (Vector UInt64 16)) (Past11 : (Vector UInt64 16)) (Seen12 : (Vector UInt64 16)) (Hash13 : (Vector UInt8 32)) (Reply14 : Bool) (r16 : Zag) (l17 : (List Int)) (x18 : Int) : Option ((Zag × (List Int) × Int) ⊕ (((List Int) × Zag) ⊕ (((List Int) × Zag)))) :=
 lt1 (decide (x18 < n1)) fun v21 =>
 if v21 = true then
  Option.bind (ZaH k r16) fun v22 =>
  if v22 = true then
   some (.inr (.inr (([] : (List Int)), r16)))
  else
   Option.bind (Zbi k Kind5 From6 To7 ID8 Topic9 Past10 Past11 Seen12 Hash13 Reply14 r16) fun (v23, x24) =>
   Option.bind (apL 8 l17 ([v23] : (List Int))) fun l25 =>
   lt1 (w64 (x18 + (1 : Int))) fun v28 =>
   some (.inl (x24, l25, v28))
 else
  some (.inr (.inl (l17, r16)))

def frame_listint (k : Nat) (n1 : Int) (r2 : Zag) (Kind5 : Int) (From6 : Int) (To7 : Int) (ID8 : Zah) (Topic9 : (List UInt8)) (Past10 : (Vector UInt64 16)) (Past11 : (Vector UInt64 16)) (Seen12 : (Vector UInt64 16)) (Hash13 : (Vector UInt8 32)) (Reply14 : Bool) : Option (((List Int) × Zag)) :=
 Option.bind (
  Option.bind (Zbc (fun s => frame_listint.b1 k n1 Kind5 From6 To7 ID8 Topic9 Past10 Past11 Seen12 Hash13 Reply14 s.1 s.2.1 s.2.2) k (r2, ([] : (List Int)), (0 : Int))) fun t => match t with
  | (.inl (l29, x30)) =>
   some (.inl (l29, x30))
  | (.inr q) =>
   some (.inr q)
  : Option (((List Int) × Zag) ⊕ (((List Int) × Zag)))) fun t => match t with
 | (.inl (l33, x34)) =>
  some (l33, x34)
 | (.inr q) =>
  some q

def Zbv (k : Nat) (Kind1 : Int) (From2 : Int) (To3 : Int) (ID4 : Zah) (Topic5 : (List UInt8)) (Past6 : (Vector UInt64 16)) (Past7 : (Vector UInt64 16)) (Seen8 : (Vector UInt64 16)) (Hash9 : (Vector UInt8 32)) (Reply10 : Bool) (x12 : Zag) (x14 : (List Int)) : Option ((Int × Zag)) :=
 Option.bind (Zay k (2 : Int) x12) fun (v17, x18) =>
 lt1 (w64 (UN.toN v17 : Int)) fun v19 =>
 some (v19, x18)

def Zbo (k : Nat) (Kind1 : Int) (From2 : Int) (To3 : Int) (ID4 : Zah) (Topic5 : (List UInt8)) (Past6 : (Vector UInt64 16)) (Past7 : (Vector UInt64 16)) (Seen8 : (Vector UInt64 16)) (Hash9 : (Vector UInt8 32)) (Reply10 : Bool) (x12 : Zag) (x14 : (List Int)) : Option ((Zal × Zag)) :=
 Option.bind (ZbD k x12) fun (v18, x19) =>
 Option.bind (Zay k (1 : Int) x19) fun (v20, x21) =>
 lt1 ((!(v20 == (0 : UInt64)))) fun v22 =>
 Option.bind (
  lt1 ((!v22)) fun v24 =>
  if v24 = true then
   Option.bind (Za3 k x21) fun (v25, x26) =>
   Option.bind (Za3 k x26) fun (v27, x28) =>
   some ((Zal.mk v18 (Zbs.mk v25 v27) v22), x28)
  else
   some ((Zal.mk v18 ((Zal.mk (Zah.mk (0 : Int) (0 : UInt64)) (Zbs.mk ([] : (List UInt8)) ([] : (List UInt8))) false).Key) v22), x21)
 ) fun (i29, x30) =>
  some (i29, x30)

def frame_listapi_Item'2.b1 (k : Nat) (n1 : Int) (Kind4 : Int) (From5 : Int) (To6 : Int) (ID7 : Zah) (Topic8 : (List UInt8)) (Past9 : (Vector UInt64 16)) (Past10 : (Vector UInt64 16)) (Seen11 : (Vector UInt64 16)) (Hash12 : (Vector UInt8 32)) (Reply13 : Bool) (x15 : (List Int)) (r18 : Zag) (l19 : (List Zal)) (x20 : Int) : Option ((Zag × (List Zal) × Int) ⊕ (((List Zal) × Zag) ⊕ (((List Zal) × Zag)))) :=
 lt1 (decide (x20 < n1)) fun v23 =>
 if v23 = true then
  Option.bind (ZaH k r18) fun v24 =>
  if v24 = true then
   some (.inr (.inr (([] : (List Zal)), r18)))
  else
   Option.bind (Zbo k Kind4 From5 To6 ID7 Topic8 Past9 Past10 Seen11 Hash12 Reply13 r18 x15) fun (v25, x26) =>
   Option.bind (apL 56 l19 ([v25] : (List Zal))) fun l27 =>
   lt1 (w64 (x20 + (1 : Int))) fun v30 =>
   some (.inl (x26, l27, v30))
 else
  some (.inr (.inl (l19, r18)))

def frame_listapi_Item'2 (k : Nat) (n1 : Int) (r2 : Zag) (Kind4 : Int) (From5 : Int) (To6 : Int) (ID7 : Zah) (Topic8 : (List UInt8)) (Past9 : (Vector UInt64 16)) (Past10 : (Vector UInt64 16)) (Seen11 : (Vector UInt64 16)) (Hash12 : (Vector UInt8 32)) (Reply13 : Bool) (x15 : (List Int)) : Option (((List Zal) × Zag)) :=
 Option.bind (
  Option.bind (Zbc (fun s => frame_listapi_Item'2.b1 k n1 Kind4 From5 To6 ID7 Topic8 Past9 Past10 Seen11 Hash12 Reply13 x15 s.1 s.2.1 s.2.2) k (r2, ([] : (List Zal)), (0 : Int))) fun t => match t with
  | (.inl (l31, x32)) =>
   some (.inl (l31, x32))
  | (.inr q) =>
   some (.inr q)
  : Option (((List Zal) × Zag) ⊕ (((List Zal) × Zag)))) fun t => match t with
 | (.inl (l35, x36)) =>
  some (l35, x36)
 | (.inr q) =>
  some q

def Zb4 (k : Nat) (Kind1 : Int) (From2 : Int) (To3 : Int) (ID4 : Zah) (Topic5 : (List UInt8)) (Past6 : (Vector UInt64 16)) (Past7 : (Vector UInt64 16)) (Seen8 : (Vector UInt64 16)) (Hash9 : (Vector UInt8 32)) (Reply10 : Bool) (x12 : Zag) (x14 : (List Int)) : Option ((Zag × (List Zal))) :=
 Option.bind (Zbv k Kind1 From2 To3 ID4 Topic5 Past6 Past7 Seen8 Hash9 Reply10 x12 x14) fun (v17, x18) =>
 Option.bind (frame_listapi_Item'2 k v17 x18 Kind1 From2 To3 ID4 Topic5 Past6 Past7 Seen8 Hash9 Reply10 x14) fun (v19, x20) =>
 some (x20, v19)

def Zbz (k : Nat) (Kind1 : Int) (From2 : Int) (To3 : Int) (ID4 : Zah) (Topic5 : (List UInt8)) (Past6 : (Vector UInt64 16)) (Past7 : (Vector UInt64 16)) (Seen8 : (Vector UInt64 16)) (Hash9 : (Vector UInt8 32)) (Reply10 : Bool) (x12 : Zag) (x14 : (List Zal)) (x17 : (List Int)) : Option ((Int × Zag)) :=
 Option.bind (Zay k (2 : Int) x12) fun (v20, x21) =>
 lt1 (w64 (UN.toN v20 : Int)) fun v22 =>
 some (v22, x21)

def Zb9 (k : Nat) (Kind1 : Int) (From2 : Int) (To3 : Int) (ID4 : Zah) (Topic5 : (List UInt8)) (Past6 : (Vector UInt64 16)) (Past7 : (Vector UInt64 16)) (Seen8 : (Vector UInt64 16)) (Hash9 : (Vector UInt8 32)) (Reply10 : Bool) (x12 : Zag) (x14 : (List Zal)) (x17 : (List Int)) : Option ((Zag × (Vector UInt64 16) × (List Zah))) :=
 Option.bind (wire_Reader_Vector k x12) fun (v20, x21) =>
 Option.bind (Zbz k Kind1 From2 To3 ID4 Topic5 Past6 Past7 v20 Hash9 Reply10 x21 x14 x17) fun (v22, x23) =>
 Option.bind (frame_listapi_Dot k v22 x23) fun (v24, x25) =>
 some (x25, v20, v24)

def Zb5 (k : Nat) (Kind1 : Int) (From2 : Int) (To3 : Int) (ID4 : Zah) (Topic5 : (List UInt8)) (Past6 : (Vector UInt64 16)) (Past7 : (Vector UInt64 16)) (Seen8 : (Vector UInt64 16)) (Hash9 : (Vector UInt8 32)) (Reply10 : Bool) (x12 : Zag) : Option ((Zag × (List Zal) × (Vector UInt64 16) × (List Zah) × (List Int) × Bool)) :=
 Option.bind (Zay k (1 : Int) x12) fun (v15, x16) =>
 lt1 (w64 (UN.toN v15 : Int)) fun v17 =>
 Option.bind (frame_listint k v17 x16 Kind1 From2 To3 ID4 Topic5 Past6 Past7 Seen8 Hash9 Reply10) fun (v18, x19) =>
 Option.bind (Zb4 k Kind1 From2 To3 ID4 Topic5 Past6 Past7 Seen8 Hash9 Reply10 x19 v18) fun (x22, x23) =>
 Option.bind (Zb9 k Kind1 From2 To3 ID4 Topic5 Past6 Past7 Seen8 Hash9 Reply10 x22 x23 v18) fun (x26, x27, x28) =>
 Option.bind (Zay k (1 : Int) x26) fun (v31, x32) =>
 lt1 ((!(v31 == (0 : UInt64)))) fun v33 =>
 some (x32, x23, x27, x28, v18, v33)

def Zbq (k : Nat) (t1 : (List UInt8)) : Option ((Zai × Int)) :=
 Option.bind (ZcA k t1) fun v3 =>
 Option.bind (ZaV k (1 : Int) true true v3) fun (v8, x9) =>
 lt1 (w64 (UN.toN v8 : Int)) fun v10 =>
 Option.bind (Zay k (1 : Int) x9) fun (v11, x12) =>
 lt1 (w64 (UN.toN v11 : Int)) fun v13 =>
 Option.bind (Zay k (1 : Int) x12) fun (v14, x15) =>
 lt1 (w64 (UN.toN v14 : Int)) fun v16 =>
 Option.bind (
  Option.bind (Zet k) fun v17 =>
  Option.bind (ZeS (some (v17)) v10 (Zaf.mk (none : Option Nat) (none : Option Nat))) fun (v19, is20) =>
  if is20 = true then
   if v19.read = some 93 then
    Option.bind (Zcq k v10 v13 v16 (Zah.mk (0 : Int) (0 : UInt64)) ([] : (List UInt8)) (Vector.replicate 16 (0 : UInt64)) (Vector.replicate 16 (0 : UInt64)) (Vector.replicate 16 (0 : UInt64)) (Vector.replicate 32 (0 : UInt8)) false x15) fun (x22, x23) =>
    some (x22, (Zai.mk v10 v13 v16 x23 (Zaq.mk (Zah.mk (0 : Int) (0 : UInt64)) ([] : (List UInt8)) ([] : (List UInt8)) (Vector.replicate 16 (0 : UInt64)) ([] : (List ZaA))) (Vector.replicate 16 (0 : UInt64)) (Vector.replicate 16 (0 : UInt64)) ([] : (List Zah)) ([] : (List Zah)) (Vector.replicate 32 (0 : UInt8)) ([] : (List (Vector UInt8 32))) ([] : (List Int)) false))
   else if v19.read = some 95 then
    Option.bind (Zco k v10 v13 v16 (Zah.mk (0 : Int) (0 : UInt64)) ([] : (List UInt8)) (Vector.replicate 16 (0 : UInt64)) (Vector.replicate 16 (0 : UInt64)) (Vector.replicate 16 (0 : UInt64)) (Vector.replicate 32 (0 : UInt8)) false x15) fun (x26, x27) =>
    some (x26, x27)
   else if v19.read = some 97 then
    Option.bind (ZcD k v10 v13 v16 (Zah.mk (0 : Int) (0 : UInt64)) ([] : (List UInt8)) (Vector.replicate 16 (0 : UInt64)) (Vector.replicate 16 (0 : UInt64)) (Vector.replicate 16 (0 : UInt64)) (Vector.replicate 32 (0 : UInt8)) false x15) fun (x28, x29) =>
    some (x28, x29)
   else if v19.read = some 99 then
    Option.bind (Zcv k v10 v13 v16 (Zah.mk (0 : Int) (0 : UInt64)) ([] : (List UInt8)) (Vector.replicate 16 (0 : UInt64)) (Vector.replicate 16 (0 : UInt64)) (Vector.replicate 16 (0 : UInt64)) (Vector.replicate 32 (0 : UInt8)) false x15) fun (x30, x31, x32, x33) =>
    some (x30, (Zai.mk v10 v13 v16 ([] : (List Zal)) (Zaq.mk (Zah.mk (0 : Int) (0 : UInt64)) ([] : (List UInt8)) ([] : (List UInt8)) (Vector.replicate 16 (0 : UInt64)) ([] : (List ZaA))) (Vector.replicate 16 (0 : UInt64)) x31 x32 x33 (Vector.replicate 32 (0 : UInt8)) ([] : (List (Vector UInt8 32))) ([] : (List Int)) false))
   else if v19.read = some 101 then
    Option.bind (ZcG k v10 v13 v16 (Zah.mk (0 : Int) (0 : UInt64)) ([] : (List UInt8)) (Vector.replicate 16 (0 : UInt64)) (Vector.replicate 16 (0 : UInt64)) (Vector.replicate 16 (0 : UInt64)) (Vector.replicate 32 (0 : UInt8)) false x15) fun (x38, x39) =>
    some (x38, x39)
   else if v19.read = some 103 then
    Option.bind (Zca k v10 v13 v16 (Zah.mk (0 : Int) (0 : UInt64)) ([] : (List UInt8)) (Vector.replicate 16 (0 : UInt64)) (Vector.replicate 16 (0 : UInt64)) (Vector.replicate 16 (0 : UInt64)) (Vector.replicate 32 (0 : UInt8)) false x15) fun (x40, x41) =>
    some (x40, (Zai.mk v10 v13 v16 ([] : (List Zal)) (Zaq.mk (Zah.mk (0 : Int) (0 : UInt64)) ([] : (List UInt8)) ([] : (List UInt8)) (Vector.replicate 16 (0 : UInt64)) ([] : (List ZaA))) (Vector.replicate 16 (0 : UInt64)) (Vector.replicate 16 (0 : UInt64)) ([] : (List Zah)) ([] : (List Zah)) (Vector.replicate 32 (0 : UInt8)) x41 ([] : (List Int)) false))
   else if v19.read = some 105 then
    Option.bind (Zb5 k v10 v13 v16 (Zah.mk (0 : Int) (0 : UInt64)) ([] : (List UInt8)) (Vector.replicate 16 (0 : UInt64)) (Vector.replicate 16 (0 : UInt64)) (Vector.replicate 16 (0 : UInt64)) (Vector.replicate 32 (0 : UInt8)) false x15) fun (x44, x45, x46, x47, x48, x49) =>
    some (x44, (Zai.mk v10 v13 v16 x45 (Zaq.mk (Zah.mk (0 : Int) (0 : UInt64)) ([] : (List UInt8)) ([] : (List UInt8)) (Vector.replicate 16 (0 : UInt64)) ([] : (List ZaA))) (Vector.replicate 16 (0 : UInt64)) x46 x47 ([] : (List Zah)) (Vector.replicate 32 (0 : UInt8)) ([] : (List (Vector UInt8 32))) x48 x49))
   else none
  else
   some (x15, (Zai.mk v10 v13 v16 ([] : (List Zal)) (Zaq.mk (Zah.mk (0 : Int) (0 : UInt64)) ([] : (List UInt8)) ([] : (List UInt8)) (Vector.replicate 16 (0 : UInt64)) ([] : (List ZaA))) (Vector.replicate 16 (0 : UInt64)) (Vector.replicate 16 (0 : UInt64)) ([] : (List Zah)) ([] : (List Zah)) (Vector.replicate 32 (0 : UInt8)) ([] : (List (Vector UInt8 32))) ([] : (List Int)) false))
 ) fun (Reader56, f57) =>
  Option.bind (
   Option.bind (frame_May k f57) fun v58 =>
   lt1 ((!v58)) fun v59 =>
   if v59 = true then
    some true
   else
    Option.bind (Zcp k f57) fun v60 =>
    Option.bind (slices_Equalbyte_byte k v60 t1) fun v63 =>
    lt1 ((!v63)) fun v64 =>
    some v64
  ) fun x65 =>
   if x65 = true then
    some ((Zai.mk (0 : Int) (0 : Int) (0 : Int) ([] : (List Zal)) (Zaq.mk (Zah.mk (0 : Int) (0 : UInt64)) ([] : (List UInt8)) ([] : (List UInt8)) (Vector.replicate 16 (0 : UInt64)) ([] : (List ZaA))) (Vector.replicate 16 (0 : UInt64)) (Vector.replicate 16 (0 : UInt64)) ([] : (List Zah)) ([] : (List Zah)) (Vector.replicate 32 (0 : UInt8)) ([] : (List (Vector UInt8 32))) ([] : (List Int)) false), (4 : Int))
   else
    some (f57, (0 : Int))

def Zc5 (k : Nat) (e1 : Int) : Option ((Unit)) :=
 some ()

def Zf5 (k : Nat) (k1 : Int) : Option (((List UInt8))) :=
 Option.bind (
  lt1 (decide (k1 < (1 : Int))) fun v2 =>
  lt1 (decide (k1 ≥ (List.length ([([] : List UInt8), ([100, 101, 108, 116, 97] : List UInt8), ([101, 118, 101, 110, 116] : List UInt8), ([104, 97, 118, 101] : List UInt8), ([107, 110, 111, 119, 110] : List UInt8), ([114, 111, 111, 116] : List UInt8), ([108, 101, 97, 118, 101, 115] : List UInt8), ([105, 116, 101, 109, 115] : List UInt8)] : (List (List UInt8))) : Int))) fun v3 =>
  lt1 (bif v2 then true else v3) fun v4 =>
  some v4
 ) fun x5 =>
  if x5 = true then
   some ([] : List UInt8)
  else
   Option.bind (idxL ([([] : List UInt8), ([100, 101, 108, 116, 97] : List UInt8), ([101, 118, 101, 110, 116] : List UInt8), ([104, 97, 118, 101] : List UInt8), ([107, 110, 111, 119, 110] : List UInt8), ([114, 111, 111, 116] : List UInt8), ([108, 101, 97, 118, 101, 115] : List UInt8), ([105, 116, 101, 109, 115] : List UInt8)] : (List (List UInt8))) k1) fun v6 =>
   some v6

def ZdG (k : Nat) : Option ((Bool)) :=
 Option.bind (ZcP k (Zai.mk (3 : Int) (1 : Int) (2 : Int) ([] : (List Zal)) (Zaq.mk (Zah.mk (0 : Int) (0 : UInt64)) ([] : (List UInt8)) ([] : (List UInt8)) (Vector.replicate 16 (0 : UInt64)) ([] : (List ZaA))) (Vector.replicate 16 (0 : UInt64)) (Vector.replicate 16 (0 : UInt64)) ([] : (List Zah)) ([] : (List Zah)) (Vector.replicate 32 (0 : UInt8)) ([] : (List (Vector UInt8 32))) ([] : (List Int)) false)) fun (v1, v2) =>
 Option.bind (Zbq k ([] : (List UInt8))) fun (v5, v6) =>
 Option.bind (
  Option.bind (Zc5 k v2) fun _ =>
  lt1 ((v2 == (0 : Int))) fun v9 =>
  if v9 = true then
   lt1 (((List.length v1 : Int) == (135 : Int))) fun v10 =>
   if v10 = true then
    Option.bind (inO v1 (0 : Int)) fun i11 =>
    Option.bind (v1[i11]?) fun v12 =>
    lt1 ((v12 == (3 : UInt8))) fun v13 =>
    if v13 = true then
     Option.bind (inO v1 (1 : Int)) fun i14 =>
     Option.bind (v1[i14]?) fun v15 =>
     lt1 ((v15 == (1 : UInt8))) fun v16 =>
     if v16 = true then
      Option.bind (inO v1 (2 : Int)) fun i17 =>
      Option.bind (v1[i17]?) fun v18 =>
      lt1 ((v18 == (2 : UInt8))) fun v19 =>
      Option.bind (if v19 = true then frame_May k (Zai.mk (5 : Int) (1 : Int) (1 : Int) ([] : (List Zal)) (Zaq.mk (Zah.mk (0 : Int) (0 : UInt64)) ([] : (List UInt8)) ([] : (List UInt8)) (Vector.replicate 16 (0 : UInt64)) ([] : (List ZaA))) (Vector.replicate 16 (0 : UInt64)) (Vector.replicate 16 (0 : UInt64)) ([] : (List Zah)) ([] : (List Zah)) (Vector.replicate 32 (0 : UInt8)) ([] : (List (Vector UInt8 32))) ([] : (List Int)) false) else some default) fun v20 =>
      lt1 ((!v20)) fun v21 =>
      lt1 (bif v19 then v21 else false) fun v22 =>
      Option.bind (if v22 = true then Zc5 k v6 else some default) fun _ =>
      lt1 ((v6 == (4 : Int))) fun v24 =>
      lt1 (bif v22 then v24 else false) fun v25 =>
      Option.bind (if v25 = true then Zf5 k (7 : Int) else some default) fun v26 =>
      lt1 ((v26 == ([105, 116, 101, 109, 115] : List UInt8))) fun v27 =>
      lt1 (bif v25 then v27 else false) fun v28 =>
      some v28
     else
      some false
    else
     some false
   else
    some false
  else
   some false
 ) fun x29 =>
  some x29

def ref11_Long.b1 (k : Nat) (l1 : (List Zal)) (n2 : Int) (i3 : Int) : Option ((Int × Int) ⊕ ((Unit) ⊕ ((Bool)))) :=
 Option.bind (
  lt1 (decide (i3 < (List.length l1 : Int))) fun v4 =>
  lt1 (decide (i3 ≤ (5000 : Int))) fun v5 =>
  lt1 (bif v4 then v5 else false) fun v6 =>
  some v6
 ) fun x7 =>
  if x7 = true then
   Option.bind (idxL l1 i3) fun v8 =>
   lt1 (minI (List.length v8.Key.Topic : Int) (200001 : Int)) fun v9 =>
   lt1 (w64 (n2 + v9)) fun v10 =>
   Option.bind (idxL l1 i3) fun v11 =>
   lt1 (minI (List.length v11.Key.Device : Int) (200001 : Int)) fun v12 =>
   lt1 (w64 (v10 + v12)) fun v13 =>
   lt1 (decide (v13 > (200000 : Int))) fun v14 =>
   if v14 = true then
    some (.inr (.inr true))
   else
    lt1 (w64 (i3 + (1 : Int))) fun v15 =>
    some (.inl (v13, v15))
  else
   some (.inr (.inl ()))

def ref11_Long (k : Nat) (l1 : (List Zal)) : Option ((Bool)) :=
 Option.bind (
  Option.bind (Zbc (fun s => ref11_Long.b1 k l1 s.1 s.2) k ((0 : Int), (0 : Int))) fun t => match t with
  | (.inl _) =>
   some (.inl ())
  | (.inr q) =>
   some (.inr q)
  : Option ((Unit) ⊕ ((Bool)))) fun t => match t with
 | (.inl _) =>
  lt1 (decide ((List.length l1 : Int) > (5000 : Int))) fun v16 =>
  some v16
 | (.inr q) =>
  some q

def ref09_Much.b1 (k : Nat) (e1 : Zaq) (n9 : Int) (i10 : Int) : Option ((Int × Int) ⊕ ((Unit) ⊕ ((Bool)))) :=
 lt1 (decide (i10 < (List.length e1.To : Int))) fun v11 =>
 if v11 = true then
  Option.bind (idxL e1.To i10) fun v12 =>
  lt1 (minI (List.length v12.Device : Int) (200001 : Int)) fun v13 =>
  lt1 (w64 (n9 + v13)) fun v14 =>
  lt1 (decide (v14 > (200000 : Int))) fun v15 =>
  if v15 = true then
   some (.inr (.inr true))
  else
   lt1 (w64 (i10 + (1 : Int))) fun v16 =>
   some (.inl (v14, v16))
 else
  some (.inr (.inl ()))

def ref09_Much (k : Nat) (e1 : Zaq) : Option ((Bool)) :=
 Option.bind (
  lt1 (decide ((List.length e1.Topic : Int) > (300 : Int))) fun v3 =>
  lt1 (decide ((List.length e1.Payload : Int) > (3000 : Int))) fun v4 =>
  lt1 (bif v3 then true else v4) fun v5 =>
  lt1 (decide ((List.length e1.To : Int) > (3000 : Int))) fun v6 =>
  lt1 (bif v5 then true else v6) fun v7 =>
  some v7
 ) fun x8 =>
  if x8 = true then
   some true
  else
   Option.bind (
    Option.bind (Zbc (fun s => ref09_Much.b1 k e1 s.1 s.2) k ((0 : Int), (0 : Int))) fun t => match t with
    | (.inl _) =>
     some (.inl ())
    | (.inr q) =>
     some (.inr q)
    : Option ((Unit) ⊕ ((Bool)))) fun t => match t with
   | (.inl _) =>
    some false
   | (.inr q) =>
    some q

def ZeY (k : Nat) (f1 : Zai) : Option ((Bool)) :=
 Option.bind (
  Option.bind (ref11_Long k f1.Items) fun v3 =>
  Option.bind (if (!v3) = true then ref09_Much k f1.Event else some default) fun v4 =>
  lt1 (bif v3 then true else v4) fun v5 =>
  lt1 (decide ((List.length f1.Extra : Int) > (5000 : Int))) fun v6 =>
  lt1 (bif v5 then true else v6) fun v7 =>
  lt1 (decide ((List.length f1.Live : Int) > (5000 : Int))) fun v8 =>
  lt1 (bif v7 then true else v8) fun v9 =>
  lt1 (decide ((List.length f1.Leaves : Int) > (300 : Int))) fun v10 =>
  lt1 (bif v9 then true else v10) fun v11 =>
  lt1 (decide ((List.length f1.Buckets : Int) > (300 : Int))) fun v12 =>
  lt1 (bif v11 then true else v12) fun v13 =>
  some v13
 ) fun x14 =>
  some x14

def ref11_sameItems.b1 (k : Nat) (a1 : (List Zal)) (b_2 : (List Zal)) (i4 : Int) : Option ((Int) ⊕ ((Unit) ⊕ ((Bool)))) :=
 lt1 (decide (i4 < (List.length a1 : Int))) fun v5 =>
 if v5 = true then
  Option.bind (idxL a1 i4) fun v6 =>
  Option.bind (idxL b_2 i4) fun v7 =>
  lt1 ((!(ZdQ v6 v7))) fun v8 =>
  if v8 = true then
   some (.inr (.inr false))
  else
   lt1 (w64 (i4 + (1 : Int))) fun v9 =>
   some (.inl v9)
 else
  some (.inr (.inl ()))

def ref11_sameItems (k : Nat) (a1 : (List Zal)) (b_2 : (List Zal)) : Option ((Bool)) :=
 lt1 (((List.length a1 : Int) != (List.length b_2 : Int))) fun v3 =>
 if v3 = true then
  some false
 else
  Option.bind (
   Option.bind (Zbc (fun s => ref11_sameItems.b1 k a1 b_2 s) k (0 : Int)) fun t => match t with
   | (.inl _) =>
    some (.inl ())
   | (.inr q) =>
    some (.inr q)
   : Option ((Unit) ⊕ ((Bool)))) fun t => match t with
  | (.inl _) =>
   some true
  | (.inr q) =>
   some q

def ref11_sameDots.b1 (k : Nat) (a1 : (List Zah)) (b_2 : (List Zah)) (i4 : Int) : Option ((Int) ⊕ ((Unit) ⊕ ((Bool)))) :=
 lt1 (decide (i4 < (List.length a1 : Int))) fun v5 =>
 if v5 = true then
  Option.bind (idxL a1 i4) fun v6 =>
  Option.bind (idxL b_2 i4) fun v7 =>
  lt1 ((!(ZcS v6 v7))) fun v8 =>
  if v8 = true then
   some (.inr (.inr false))
  else
   lt1 (w64 (i4 + (1 : Int))) fun v9 =>
   some (.inl v9)
 else
  some (.inr (.inl ()))

def ref11_sameDots (k : Nat) (a1 : (List Zah)) (b_2 : (List Zah)) : Option ((Bool)) :=
 lt1 (((List.length a1 : Int) != (List.length b_2 : Int))) fun v3 =>
 if v3 = true then
  some false
 else
  Option.bind (
   Option.bind (Zbc (fun s => ref11_sameDots.b1 k a1 b_2 s) k (0 : Int)) fun t => match t with
   | (.inl _) =>
    some (.inl ())
   | (.inr q) =>
    some (.inr q)
   : Option ((Unit) ⊕ ((Bool)))) fun t => match t with
  | (.inl _) =>
   some true
  | (.inr q) =>
   some q

def ref09_Same.b1 (k : Nat) (a1 : Zaq) (b_2 : Zaq) (i15 : Int) : Option ((Int) ⊕ ((Unit) ⊕ ((Bool)))) :=
 lt1 (decide (i15 < (List.length a1.To : Int))) fun v16 =>
 if v16 = true then
  Option.bind (idxL a1.To i15) fun v17 =>
  Option.bind (idxL b_2.To i15) fun v18 =>
  lt1 ((!(ZdP v17 v18))) fun v19 =>
  if v19 = true then
   some (.inr (.inr false))
  else
   lt1 (w64 (i15 + (1 : Int))) fun v20 =>
   some (.inl v20)
 else
  some (.inr (.inl ()))

def ref09_Same (k : Nat) (a1 : Zaq) (b_2 : Zaq) : Option ((Bool)) :=
 Option.bind (
  lt1 ((!(ZcS a1.ID b_2.ID))) fun v5 =>
  lt1 ((a1.Topic != b_2.Topic)) fun v6 =>
  lt1 (bif v5 then true else v6) fun v7 =>
  lt1 ((a1.Payload != b_2.Payload)) fun v8 =>
  lt1 (bif v7 then true else v8) fun v9 =>
  lt1 ((!((eqV (fun x y => x == y)) a1.Past b_2.Past))) fun v10 =>
  lt1 (bif v9 then true else v10) fun v11 =>
  lt1 (((List.length a1.To : Int) != (List.length b_2.To : Int))) fun v12 =>
  lt1 (bif v11 then true else v12) fun v13 =>
  some v13
 ) fun x14 =>
  if x14 = true then
   some false
  else
   Option.bind (
    Option.bind (Zbc (fun s => ref09_Same.b1 k a1 b_2 s) k (0 : Int)) fun t => match t with
    | (.inl _) =>
     some (.inl ())
    | (.inr q) =>
     some (.inr q)
    : Option ((Unit) ⊕ ((Bool)))) fun t => match t with
   | (.inl _) =>
    some true
   | (.inr q) =>
    some q

def ref11_Same.b1 (k : Nat) (t1 : Zai) (a2 : Zai) (x9 : Int) : Option ((Int) ⊕ ((Unit) ⊕ ((Bool)))) :=
 lt1 (decide (x9 < (List.length t1.Leaves : Int))) fun v10 =>
 if v10 = true then
  Option.bind (idxL t1.Leaves x9) fun v11 =>
  Option.bind (idxL a2.Leaves x9) fun v12 =>
  lt1 ((!((eqV (fun x y => x == y)) v11 v12))) fun v13 =>
  if v13 = true then
   some (.inr (.inr false))
  else
   lt1 (w64 (x9 + (1 : Int))) fun v14 =>
   some (.inl v14)
 else
  some (.inr (.inl ()))

def ref11_Same.b2 (k : Nat) (t1 : Zai) (a2 : Zai) (x15 : Int) : Option ((Int) ⊕ ((Unit) ⊕ ((Bool)))) :=
 lt1 (decide (x15 < (List.length t1.Buckets : Int))) fun v16 =>
 if v16 = true then
  Option.bind (idxL t1.Buckets x15) fun v17 =>
  Option.bind (idxL a2.Buckets x15) fun v18 =>
  lt1 ((v17 != v18)) fun v19 =>
  if v19 = true then
   some (.inr (.inr false))
  else
   lt1 (w64 (x15 + (1 : Int))) fun v20 =>
   some (.inl v20)
 else
  some (.inr (.inl ()))

def ref11_Same (k : Nat) (t1 : Zai) (a2 : Zai) : Option ((Bool)) :=
 Option.bind (
  lt1 (((List.length t1.Leaves : Int) != (List.length a2.Leaves : Int))) fun v5 =>
  lt1 (((List.length t1.Buckets : Int) != (List.length a2.Buckets : Int))) fun v6 =>
  lt1 (bif v5 then true else v6) fun v7 =>
  some v7
 ) fun x8 =>
  if x8 = true then
   some false
  else
   Option.bind (
    Option.bind (Zbc (fun s => ref11_Same.b1 k t1 a2 s) k (0 : Int)) fun t => match t with
    | (.inl _) =>
     some (.inl ())
    | (.inr q) =>
     some (.inr q)
    : Option ((Unit) ⊕ ((Bool)))) fun t => match t with
   | (.inl _) =>
    Option.bind (
     Option.bind (Zbc (fun s => ref11_Same.b2 k t1 a2 s) k (0 : Int)) fun t => match t with
     | (.inl _) =>
      some (.inl ())
     | (.inr q) =>
      some (.inr q)
     : Option ((Unit) ⊕ ((Bool)))) fun t => match t with
    | (.inl _) =>
     Option.bind (
      lt1 ((t1.Kind == a2.Kind)) fun v21 =>
      lt1 ((t1.From == a2.From)) fun v22 =>
      lt1 (bif v21 then v22 else false) fun v23 =>
      lt1 ((t1.To == a2.To)) fun v24 =>
      lt1 (bif v23 then v24 else false) fun v25 =>
      lt1 (((eqV (fun x y => x == y)) t1.Past a2.Past)) fun v26 =>
      lt1 (bif v25 then v26 else false) fun v27 =>
      lt1 (((eqV (fun x y => x == y)) t1.Seen a2.Seen)) fun v28 =>
      lt1 (bif v27 then v28 else false) fun v29 =>
      lt1 (((eqV (fun x y => x == y)) t1.Hash a2.Hash)) fun v30 =>
      lt1 (bif v29 then v30 else false) fun v31 =>
      lt1 ((t1.Reply == a2.Reply)) fun v32 =>
      lt1 (bif v31 then v32 else false) fun v33 =>
      Option.bind (if v33 = true then ref11_sameItems k t1.Items a2.Items else some default) fun v34 =>
      lt1 (bif v33 then v34 else false) fun v35 =>
      Option.bind (if v35 = true then ref11_sameDots k t1.Extra a2.Extra else some default) fun v36 =>
      lt1 (bif v35 then v36 else false) fun v37 =>
      Option.bind (if v37 = true then ref11_sameDots k t1.Live a2.Live else some default) fun v38 =>
      lt1 (bif v37 then v38 else false) fun v39 =>
      Option.bind (if v39 = true then ref09_Same k t1.Event a2.Event else some default) fun v40 =>
      lt1 (bif v39 then v40 else false) fun v41 =>
      some v41
     ) fun x42 =>
      some x42
    | (.inr q) =>
     some q
   | (.inr q) =>
    some q

def law11_FrameMeans'4.b1 (k : Nat) (a2 : (Vector Int 3)) (v8 : (List UInt8)) (x50 : (List UInt8)) (x51 : Int) : Option (((List UInt8) × Int) ⊕ (((List UInt8)))) :=
 lt1 (decide (x51 < (3 : Int))) fun v52 =>
 if v52 = true then
  Option.bind (
   Option.bind (
    Option.bind (inV 3 x51) fun i53 =>
    lt1 ((getV a2 i53)) fun v54 =>
    lt1 (decide (v54 ≥ (0 : Int))) fun v55 =>
    if v55 = true then
     Option.bind (inV 3 x51) fun i56 =>
     lt1 ((getV a2 i56)) fun v57 =>
     lt1 (w64 ((8 : Int) * (List.length v8 : Int))) fun v58 =>
     lt1 (decide (v57 < v58)) fun v59 =>
     some v59
    else
     some false
   ) fun x60 =>
    if x60 = true then
     Option.bind (inV 3 x51) fun i61 =>
     lt1 ((getV a2 i61)) fun v62 =>
     Option.bind (divI v62 (8 : Int)) fun v63 =>
     Option.bind (inV 3 x51) fun i64 =>
     lt1 ((getV a2 i64)) fun v65 =>
     Option.bind (divI v65 (8 : Int)) fun v66 =>
     Option.bind (inO x50 v66) fun i67 =>
     Option.bind (x50[i67]?) fun v68 =>
     Option.bind (inV 3 x51) fun i69 =>
     lt1 ((getV a2 i69)) fun v70 =>
     Option.bind (modI v70 (8 : Int)) fun v71 =>
     lt1 ((UN.ofI v71 : UInt64)) fun v72 =>
     lt1 (UN.shl (1 : UInt8) (UN.toN v72)) fun v73 =>
     lt1 ((v68 ^^^ v73)) fun v74 =>
     Option.bind (inO x50 v63) fun i75 =>
     Option.bind (ZkB x50 i75 v74) fun x76 =>
     some x76
    else
     some x50
  ) fun x77 =>
   lt1 (w64 (x51 + (1 : Int))) fun v78 =>
   some (.inl (x77, v78))
 else
  some (.inr x50)

def law11_FrameMeans'4 (k : Nat) (t1 : Zai) (a2 : (Vector Int 3)) : Option ((Bool)) :=
 Option.bind (ZdG k) fun v5 =>
 lt1 ((!v5)) fun v6 =>
 if v6 = true then
  some false
 else
  Option.bind (ZeY k t1) fun v7 =>
  if v7 = true then
   some true
  else
   Option.bind (ZcP k t1) fun (v8, v9) =>
   Option.bind (Zc5 k v9) fun _ =>
   lt1 ((v9 != (0 : Int))) fun v13 =>
   if v13 = true then
    some true
   else
    Option.bind (Zbq k v8) fun (v14, v15) =>
    lt1 (w64 ((List.length v8 : Int) - (1 : Int))) fun v17 =>
    Option.bind (subL v8 (0) v17) fun v18 =>
    Option.bind (Zbq k v18) fun (v19, v20) =>
    Option.bind (apL 1 ([] : (List UInt8)) v8) fun v22 =>
    Option.bind (apL 1 v22 ([(0 : UInt8)] : (List UInt8))) fun x25 =>
    Option.bind (Zbq k x25) fun (v28, v29) =>
    Option.bind (
     Option.bind (Zc5 k v15) fun _ =>
     lt1 ((v15 != (0 : Int))) fun v32 =>
     Option.bind (if (!v32) = true then ref11_Same k v14 t1 else some default) fun v33 =>
     lt1 ((!v33)) fun v34 =>
     lt1 (bif v32 then true else v34) fun v35 =>
     Option.bind (if (!v35) = true then Zed k v14 t1 else some default) fun v36 =>
     lt1 ((!v36)) fun v37 =>
     lt1 (bif v35 then true else v37) fun v38 =>
     Option.bind (if (!v38) = true then Zc5 k v20 else some default) fun _ =>
     lt1 ((v20 != (4 : Int))) fun v40 =>
     lt1 (bif v38 then true else v40) fun v41 =>
     Option.bind (if (!v41) = true then Zc5 k v29 else some default) fun _ =>
     lt1 ((v29 != (4 : Int))) fun v43 =>
     lt1 (bif v41 then true else v43) fun v44 =>
     some v44
    ) fun x45 =>
     if x45 = true then
      some false
     else
      lt1 (decide ((List.length v8 : Int) > (65536 : Int))) fun v46 =>
      if v46 = true then
       some true
      else
       Option.bind (apL 1 ([] : (List UInt8)) v8) fun v47 =>
       Option.bind (
        Zbc (fun s => law11_FrameMeans'4.b1 k a2 v8 s.1 s.2) k (v47, (0 : Int))
       ) fun x79 =>
        Option.bind (Zbq k x79) fun (v80, v81) =>
        Option.bind (
         lt1 ((x79 == v8)) fun v83 =>
         Option.bind (if (!v83) = true then Zc5 k v81 else some default) fun _ =>
         lt1 ((v81 == (4 : Int))) fun v85 =>
         lt1 (bif v83 then true else v85) fun v86 =>
         some v86
        ) fun x87 =>
         some x87

end
end Go.Proofs.YtklnihlchhhhlaaGreat
