/- The functions as plain Lean functions: no program and no memory here. -/
import Derived.Test.YtklnihlchhhhlaaGreatFp
namespace Go.Proofs.YtklnihlchhhhlaaGreat
open Fw
set_option linter.unusedVariables false
noncomputable section

structure Zaf where
  Region : Int
  Count : UInt64
  deriving DecidableEq, Inhabited

def Zc2 (x y : Zaf) : Bool := ((x.Region == y.Region) && ((x.Count == y.Count) && true))
theorem ZeP {x y : Zaf} : Zc2 x y = true ↔ x = y := by
  cases x; cases y; simp [Zc2]

structure Zbq where
  Topic : (List UInt8)
  Device : (List UInt8)
  deriving DecidableEq, Inhabited

def Zej (x y : Zbq) : Bool := ((x.Topic == y.Topic) && ((x.Device == y.Device) && true))
theorem ZeM {x y : Zbq} : Zej x y = true ↔ x = y := by
  cases x; cases y; simp [Zej]

structure Zap where
  Dot : Zaf
  Key : Zbq
  Gone : Bool
  deriving DecidableEq, Inhabited

def Zes (x y : Zap) : Bool := (Zc2 x.Dot y.Dot && (Zej x.Key y.Key && ((x.Gone == y.Gone) && true)))
theorem ZhS {x y : Zap} : Zes x y = true ↔ x = y := by
  cases x; cases y; simp [Zes, ZeP, ZeM]

structure ZaA where
  Dot : Zaf
  Device : (List UInt8)
  deriving DecidableEq, Inhabited

def ZdP (x y : ZaA) : Bool := (Zc2 x.Dot y.Dot && ((x.Device == y.Device) && true))
theorem ZhW {x y : ZaA} : ZdP x y = true ↔ x = y := by
  cases x; cases y; simp [ZdP, ZeP]

structure Zar where
  ID : Zaf
  Topic : (List UInt8)
  Payload : (List UInt8)
  Past : (Vector UInt64 16)
  To : (List ZaA)
  deriving DecidableEq, Inhabited

structure Zah where
  Kind : Int
  From : Int
  To : Int
  Items : (List Zap)
  Event : Zar
  Past : (Vector UInt64 16)
  Seen : (Vector UInt64 16)
  Extra : (List Zaf)
  Live : (List Zaf)
  Hash : (Vector UInt8 32)
  Leaves : (List (Vector UInt8 32))
  Buckets : (List Int)
  Reply : Bool
  deriving DecidableEq, Inhabited

structure Zal where
  write : (Option Nat)
  read : (Option Nat)
  deriving DecidableEq, Inhabited

structure Zhn where
  b : (List UInt8)
  deriving DecidableEq, Inhabited

structure Zag where
  rest : (List UInt8)
  is : Bool
  made : Bool
  deriving DecidableEq, Inhabited

def ref11_Long.b1 (k : Nat) (l_1 : (List Zap)) (n_2 : Int) (i_3 : Int) : Option ((Int × Int) ⊕ ((Unit) ⊕ ((Bool)))) :=
 Option.bind (
  lt1 (decide (i_3 < (List.length l_1 : Int))) fun v_4 =>
  lt1 (decide (i_3 ≤ (5000 : Int))) fun v_5 =>
  lt1 (bif v_4 then v_5 else false) fun v_6 =>
  some v_6
 ) fun x_7 =>
  if x_7 = true then
   Option.bind (idxL l_1 i_3) fun v_8 =>
   lt1 (minI (List.length v_8.Key.Topic : Int) (200001 : Int)) fun v_9 =>
   lt1 (w64 (n_2 + v_9)) fun v_10 =>
   Option.bind (idxL l_1 i_3) fun v_11 =>
   lt1 (minI (List.length v_11.Key.Device : Int) (200001 : Int)) fun v_12 =>
   lt1 (w64 (v_10 + v_12)) fun v_13 =>
   lt1 (decide (v_13 > (200000 : Int))) fun v_14 =>
   if v_14 = true then
    some (.inr (.inr true))
   else
    lt1 (w64 (i_3 + (1 : Int))) fun v_15 =>
    some (.inl (v_13, v_15))
  else
   some (.inr (.inl ()))

def ref11_Long (k : Nat) (l_1 : (List Zap)) : Option ((Bool)) :=
 Option.bind (
  Option.bind (Zbi (fun s => ref11_Long.b1 k l_1 s.1 s.2) k ((0 : Int), (0 : Int))) fun t => match t with
  | (.inl _) =>
   some (.inl ())
  | (.inr q) =>
   some (.inr q)
  : Option ((Unit) ⊕ ((Bool)))) fun t => match t with
 | (.inl _) =>
  lt1 (decide ((List.length l_1 : Int) > (5000 : Int))) fun v_16 =>
  some v_16
 | (.inr q) =>
  some q

def ref09_Much.b1 (k : Nat) (e_1 : Zar) (n_9 : Int) (i_10 : Int) : Option ((Int × Int) ⊕ ((Unit) ⊕ ((Bool)))) :=
 lt1 (decide (i_10 < (List.length e_1.To : Int))) fun v_11 =>
 if v_11 = true then
  Option.bind (idxL e_1.To i_10) fun v_12 =>
  lt1 (minI (List.length v_12.Device : Int) (200001 : Int)) fun v_13 =>
  lt1 (w64 (n_9 + v_13)) fun v_14 =>
  lt1 (decide (v_14 > (200000 : Int))) fun v_15 =>
  if v_15 = true then
   some (.inr (.inr true))
  else
   lt1 (w64 (i_10 + (1 : Int))) fun v_16 =>
   some (.inl (v_14, v_16))
 else
  some (.inr (.inl ()))

def ref09_Much (k : Nat) (e_1 : Zar) : Option ((Bool)) :=
 Option.bind (
  lt1 (decide ((List.length e_1.Topic : Int) > (300 : Int))) fun v_3 =>
  lt1 (decide ((List.length e_1.Payload : Int) > (3000 : Int))) fun v_4 =>
  lt1 (bif v_3 then true else v_4) fun v_5 =>
  lt1 (decide ((List.length e_1.To : Int) > (3000 : Int))) fun v_6 =>
  lt1 (bif v_5 then true else v_6) fun v_7 =>
  some v_7
 ) fun x_8 =>
  if x_8 = true then
   some true
  else
   Option.bind (
    Option.bind (Zbi (fun s => ref09_Much.b1 k e_1 s.1 s.2) k ((0 : Int), (0 : Int))) fun t => match t with
    | (.inl _) =>
     some (.inl ())
    | (.inr q) =>
     some (.inr q)
    : Option ((Unit) ⊕ ((Bool)))) fun t => match t with
   | (.inl _) =>
    some false
   | (.inr q) =>
    some q

def ZeY (k : Nat) (f_1 : Zah) : Option ((Bool)) :=
 Option.bind (
  Option.bind (ref11_Long k f_1.Items) fun v_3 =>
  Option.bind (if (!v_3) = true then ref09_Much k f_1.Event else some default) fun v_4 =>
  lt1 (bif v_3 then true else v_4) fun v_5 =>
  lt1 (decide ((List.length f_1.Extra : Int) > (5000 : Int))) fun v_6 =>
  lt1 (bif v_5 then true else v_6) fun v_7 =>
  lt1 (decide ((List.length f_1.Live : Int) > (5000 : Int))) fun v_8 =>
  lt1 (bif v_7 then true else v_8) fun v_9 =>
  lt1 (decide ((List.length f_1.Leaves : Int) > (300 : Int))) fun v_10 =>
  lt1 (bif v_9 then true else v_10) fun v_11 =>
  lt1 (decide ((List.length f_1.Buckets : Int) > (300 : Int))) fun v_12 =>
  lt1 (bif v_11 then true else v_12) fun v_13 =>
  some v_13
 ) fun x_14 =>
  some x_14

def ref09_Same.b1 (k : Nat) (a_1 : Zar) (b_2 : Zar) (i_15 : Int) : Option ((Int) ⊕ ((Unit) ⊕ ((Bool)))) :=
 lt1 (decide (i_15 < (List.length a_1.To : Int))) fun v_16 =>
 if v_16 = true then
  Option.bind (idxL a_1.To i_15) fun v_17 =>
  Option.bind (idxL b_2.To i_15) fun v_18 =>
  lt1 ((!(ZdP v_17 v_18))) fun v_19 =>
  if v_19 = true then
   some (.inr (.inr false))
  else
   lt1 (w64 (i_15 + (1 : Int))) fun v_20 =>
   some (.inl v_20)
 else
  some (.inr (.inl ()))

def ref09_Same (k : Nat) (a_1 : Zar) (b_2 : Zar) : Option ((Bool)) :=
 Option.bind (
  lt1 ((!(Zc2 a_1.ID b_2.ID))) fun v_5 =>
  lt1 ((a_1.Topic != b_2.Topic)) fun v_6 =>
  lt1 (bif v_5 then true else v_6) fun v_7 =>
  lt1 ((a_1.Payload != b_2.Payload)) fun v_8 =>
  lt1 (bif v_7 then true else v_8) fun v_9 =>
  lt1 ((!((eqV (fun x y => x == y)) a_1.Past b_2.Past))) fun v_10 =>
  lt1 (bif v_9 then true else v_10) fun v_11 =>
  lt1 (((List.length a_1.To : Int) != (List.length b_2.To : Int))) fun v_12 =>
  lt1 (bif v_11 then true else v_12) fun v_13 =>
  some v_13
 ) fun x_14 =>
  if x_14 = true then
   some false
  else
   Option.bind (
    Option.bind (Zbi (fun s => ref09_Same.b1 k a_1 b_2 s) k (0 : Int)) fun t => match t with
    | (.inl _) =>
     some (.inl ())
    | (.inr q) =>
     some (.inr q)
    : Option ((Unit) ⊕ ((Bool)))) fun t => match t with
   | (.inl _) =>
    some true
   | (.inr q) =>
    some q

def Zfg (k : Nat) (t_1 : Zah) : Option ((Bool)) :=
 Option.bind (
  lt1 (decide ((List.length t_1.Items : Int) > (0 : Int))) fun v_3 =>
  lt1 ((t_1.Kind != (1 : Int))) fun v_4 =>
  lt1 (bif v_3 then v_4 else false) fun v_5 =>
  lt1 ((t_1.Kind != (7 : Int))) fun v_6 =>
  lt1 (bif v_5 then v_6 else false) fun v_7 =>
  lt1 ((!((eqV (fun x y => x == y)) t_1.Past (Vector.replicate 16 (0 : UInt64))))) fun v_8 =>
  lt1 ((t_1.Kind != (3 : Int))) fun v_9 =>
  lt1 (bif v_8 then v_9 else false) fun v_10 =>
  lt1 (bif v_7 then true else v_10) fun v_11 =>
  lt1 ((!((eqV (fun x y => x == y)) t_1.Hash (Vector.replicate 32 (0 : UInt8))))) fun v_12 =>
  lt1 ((t_1.Kind != (5 : Int))) fun v_13 =>
  lt1 (bif v_12 then v_13 else false) fun v_14 =>
  lt1 (bif v_11 then true else v_14) fun v_15 =>
  lt1 (decide ((List.length t_1.Leaves : Int) > (0 : Int))) fun v_16 =>
  lt1 ((t_1.Kind != (6 : Int))) fun v_17 =>
  lt1 (bif v_16 then v_17 else false) fun v_18 =>
  lt1 (bif v_15 then true else v_18) fun v_19 =>
  lt1 (decide ((List.length t_1.Buckets : Int) > (0 : Int))) fun v_20 =>
  lt1 ((t_1.Kind != (7 : Int))) fun v_21 =>
  lt1 (bif v_20 then v_21 else false) fun v_22 =>
  lt1 (bif v_19 then true else v_22) fun v_23 =>
  lt1 ((t_1.Kind != (7 : Int))) fun v_24 =>
  lt1 (bif t_1.Reply then v_24 else false) fun v_25 =>
  lt1 (bif v_23 then true else v_25) fun v_26 =>
  lt1 (decide ((List.length t_1.Live : Int) > (0 : Int))) fun v_27 =>
  lt1 ((t_1.Kind != (4 : Int))) fun v_28 =>
  lt1 (bif v_27 then v_28 else false) fun v_29 =>
  lt1 (bif v_26 then true else v_29) fun v_30 =>
  some v_30
 ) fun x_31 =>
  if x_31 = true then
   some false
  else
   Option.bind (
    lt1 ((!((eqV (fun x y => x == y)) t_1.Seen (Vector.replicate 16 (0 : UInt64))))) fun v_32 =>
    lt1 (decide ((List.length t_1.Extra : Int) > (0 : Int))) fun v_33 =>
    lt1 (bif v_32 then true else v_33) fun v_34 =>
    lt1 ((t_1.Kind != (4 : Int))) fun v_35 =>
    lt1 (bif v_34 then v_35 else false) fun v_36 =>
    lt1 ((t_1.Kind != (7 : Int))) fun v_37 =>
    lt1 (bif v_36 then v_37 else false) fun v_38 =>
    some v_38
   ) fun x_39 =>
    if x_39 = true then
     some false
    else
     Option.bind (
      lt1 ((t_1.Kind == (2 : Int))) fun v_40 =>
      Option.bind (if (!v_40) = true then ref09_Same k t_1.Event (Zar.mk (Zaf.mk (0 : Int) (0 : UInt64)) ([] : (List UInt8)) ([] : (List UInt8)) (Vector.replicate 16 (0 : UInt64)) ([] : (List ZaA))) else some default) fun v_41 =>
      lt1 (bif v_40 then true else v_41) fun v_42 =>
      some v_42
     ) fun x_43 =>
      some x_43

def Zcc (k : Nat) (d_1 : Zaf) : Option ((Bool)) :=
 Option.bind (
  lt1 (decide (d_1.Region ≥ (1 : Int))) fun v_3 =>
  lt1 (decide (d_1.Region ≤ (16 : Int))) fun v_4 =>
  lt1 (bif v_3 then v_4 else false) fun v_5 =>
  lt1 (decide ((1 : UInt64) ≤ d_1.Count)) fun v_6 =>
  lt1 (bif v_5 then v_6 else false) fun v_7 =>
  lt1 (decide (d_1.Count ≤ (4611686018427387904 : UInt64))) fun v_8 =>
  lt1 (bif v_7 then v_8 else false) fun v_9 =>
  some v_9
 ) fun x_10 =>
  some x_10

def Zb6 (k : Nat) (s_1 : (List UInt8)) : Option ((Bool)) :=
 Option.bind (
  lt1 (decide ((List.length s_1 : Int) > (0 : Int))) fun v_2 =>
  lt1 (decide ((List.length s_1 : Int) ≤ (32 : Int))) fun v_3 =>
  lt1 (bif v_2 then v_3 else false) fun v_4 =>
  some v_4
 ) fun x_5 =>
  some x_5

def Zdv (k : Nat) (i_1 : Zap) : Option ((Bool)) :=
 Option.bind (Zcc k i_1.Dot) fun v_3 =>
 lt1 ((!v_3)) fun v_4 =>
 if v_4 = true then
  some false
 else
  if i_1.Gone = true then
   Option.bind (
    lt1 ((i_1.Key.Topic == ([] : List UInt8))) fun v_5 =>
    lt1 ((i_1.Key.Device == ([] : List UInt8))) fun v_6 =>
    lt1 (bif v_5 then v_6 else false) fun v_7 =>
    some v_7
   ) fun x_8 =>
    some x_8
  else
   Option.bind (
    Option.bind (Zb6 k i_1.Key.Topic) fun v_9 =>
    Option.bind (if v_9 = true then Zb6 k i_1.Key.Device else some default) fun v_10 =>
    lt1 (bif v_9 then v_10 else false) fun v_11 =>
    some v_11
   ) fun x_12 =>
    some x_12

def ref11_mayItems.b1 (k : Nat) (l_1 : (List Zap)) (i_2 : Int) : Option ((Int) ⊕ ((Unit) ⊕ ((Bool)))) :=
 Option.bind (
  lt1 (decide (i_2 < (List.length l_1 : Int))) fun v_3 =>
  lt1 (decide (i_2 ≤ (4096 : Int))) fun v_4 =>
  lt1 (bif v_3 then v_4 else false) fun v_5 =>
  some v_5
 ) fun x_6 =>
  if x_6 = true then
   Option.bind (idxL l_1 i_2) fun v_7 =>
   Option.bind (Zdv k v_7) fun v_8 =>
   lt1 ((!v_8)) fun v_9 =>
   if v_9 = true then
    some (.inr (.inr false))
   else
    lt1 (w64 (i_2 + (1 : Int))) fun v_10 =>
    some (.inl v_10)
  else
   some (.inr (.inl ()))

def ref11_mayItems (k : Nat) (l_1 : (List Zap)) : Option ((Bool)) :=
 Option.bind (
  Option.bind (Zbi (fun s => ref11_mayItems.b1 k l_1 s) k (0 : Int)) fun t => match t with
  | (.inl _) =>
   some (.inl ())
  | (.inr q) =>
   some (.inr q)
  : Option ((Unit) ⊕ ((Bool)))) fun t => match t with
 | (.inl _) =>
  lt1 (decide ((List.length l_1 : Int) ≤ (4096 : Int))) fun v_11 =>
  some v_11
 | (.inr q) =>
  some q

def ref09_MayVector.b1 (k : Nat) (v_1 : (Vector UInt64 16)) (i_3 : Int) : Option ((Int) ⊕ ((Unit) ⊕ ((Bool)))) :=
 lt1 (decide (i_3 < (16 : Int))) fun v_4 =>
 if v_4 = true then
  Option.bind (inV 16 i_3) fun i_5 =>
  lt1 ((getV v_1 i_5)) fun v_6 =>
  lt1 (decide ((4611686018427387904 : UInt64) < v_6)) fun v_7 =>
  if v_7 = true then
   some (.inr (.inr false))
  else
   lt1 (w64 (i_3 + (1 : Int))) fun v_8 =>
   some (.inl v_8)
 else
  some (.inr (.inl ()))

def ref09_MayVector (k : Nat) (v_1 : (Vector UInt64 16)) : Option ((Bool)) :=
 Option.bind (
  Option.bind (Zbi (fun s => ref09_MayVector.b1 k v_1 s) k (0 : Int)) fun t => match t with
  | (.inl _) =>
   some (.inl ())
  | (.inr q) =>
   some (.inr q)
  : Option ((Unit) ⊕ ((Bool)))) fun t => match t with
 | (.inl _) =>
  some true
 | (.inr q) =>
  some q

def Zdn (k : Nat) (a_1 : Zaf) (b_2 : Zaf) : Option ((Bool)) :=
 Option.bind (
  lt1 (decide (a_1.Region < b_2.Region)) fun v_5 =>
  lt1 ((a_1.Region == b_2.Region)) fun v_6 =>
  lt1 (decide (a_1.Count < b_2.Count)) fun v_7 =>
  lt1 (bif v_6 then v_7 else false) fun v_8 =>
  lt1 (bif v_5 then true else v_8) fun v_9 =>
  some v_9
 ) fun x_10 =>
  some x_10

def ref09_May.b1 (k : Nat) (t_1 : Zar) (x_21 : Int) : Option ((Int) ⊕ ((Unit) ⊕ ((Bool)))) :=
 lt1 (decide (x_21 < (List.length t_1.To : Int))) fun v_22 =>
 if v_22 = true then
  Option.bind (
   Option.bind (idxL t_1.To x_21) fun v_23 =>
   Option.bind (Zcc k v_23.Dot) fun v_24 =>
   lt1 ((!v_24)) fun v_25 =>
   Option.bind (if (!v_25) = true then idxL t_1.To x_21 else some default) fun v_26 =>
   Option.bind (if (!v_25) = true then Zb6 k v_26.Device else some default) fun v_27 =>
   lt1 ((!v_27)) fun v_28 =>
   lt1 (bif v_25 then true else v_28) fun v_29 =>
   lt1 (decide (x_21 > (0 : Int))) fun v_30 =>
   lt1 (w64 (x_21 - (1 : Int))) fun v_31 =>
   Option.bind (if ((!v_29) && v_30) = true then idxL t_1.To v_31 else some default) fun v_32 =>
   Option.bind (if ((!v_29) && v_30) = true then idxL t_1.To x_21 else some default) fun v_33 =>
   Option.bind (if ((!v_29) && v_30) = true then Zdn k v_32.Dot v_33.Dot else some default) fun v_34 =>
   lt1 ((!v_34)) fun v_35 =>
   lt1 (bif v_30 then v_35 else false) fun v_36 =>
   lt1 (bif v_29 then true else v_36) fun v_37 =>
   some v_37
  ) fun x_38 =>
   if x_38 = true then
    some (.inr (.inr false))
   else
    lt1 (w64 (x_21 + (1 : Int))) fun v_39 =>
    some (.inl v_39)
 else
  some (.inr (.inl ()))

def ref09_May (k : Nat) (t_1 : Zar) : Option ((Bool)) :=
 Option.bind (
  Option.bind (Zcc k t_1.ID) fun v_3 =>
  lt1 ((!v_3)) fun v_4 =>
  Option.bind (if (!v_4) = true then ref09_MayVector k t_1.Past else some default) fun v_5 =>
  lt1 ((!v_5)) fun v_6 =>
  lt1 (bif v_4 then true else v_6) fun v_7 =>
  lt1 (w64 (t_1.ID.Region - (1 : Int))) fun v_8 =>
  if v_7 = true then
   some true
  else
   Option.bind (inV 16 v_8) fun i_9 =>
   lt1 ((getV t_1.Past i_9)) fun v_10 =>
   lt1 ((v_10 + (1 : UInt64))) fun v_11 =>
   lt1 ((!(v_11 == t_1.ID.Count))) fun v_12 =>
   Option.bind (if (!v_12) = true then Zb6 k t_1.Topic else some default) fun v_13 =>
   lt1 ((!v_13)) fun v_14 =>
   lt1 (bif v_12 then true else v_14) fun v_15 =>
   lt1 (decide ((List.length t_1.Payload : Int) > (512 : Int))) fun v_16 =>
   lt1 (bif v_15 then true else v_16) fun v_17 =>
   lt1 (decide ((List.length t_1.To : Int) > (1024 : Int))) fun v_18 =>
   lt1 (bif v_17 then true else v_18) fun v_19 =>
   some v_19
 ) fun x_20 =>
  if x_20 = true then
   some false
  else
   Option.bind (
    Option.bind (Zbi (fun s => ref09_May.b1 k t_1 s) k (0 : Int)) fun t => match t with
    | (.inl _) =>
     some (.inl ())
    | (.inr q) =>
     some (.inr q)
    : Option ((Unit) ⊕ ((Bool)))) fun t => match t with
   | (.inl _) =>
    some true
   | (.inr q) =>
    some q

def ref11_Seen.b1 (k : Nat) (extra_2 : (List Zaf)) (v_1 : (Vector UInt64 16)) (i_9 : Int) : Option ((Int) ⊕ ((Unit) ⊕ ((Bool)))) :=
 lt1 (decide (i_9 < (List.length extra_2 : Int))) fun v_10 =>
 if v_10 = true then
  Option.bind (idxL extra_2 i_9) fun v_11 =>
  Option.bind (
   Option.bind (Zcc k v_11) fun v_13 =>
   lt1 ((!v_13)) fun v_14 =>
   lt1 (decide (i_9 > (0 : Int))) fun v_15 =>
   lt1 (w64 (i_9 - (1 : Int))) fun v_16 =>
   Option.bind (if ((!v_14) && v_15) = true then idxL extra_2 v_16 else some default) fun v_17 =>
   Option.bind (if ((!v_14) && v_15) = true then Zdn k v_17 v_11 else some default) fun v_18 =>
   lt1 ((!v_18)) fun v_19 =>
   lt1 (bif v_15 then v_19 else false) fun v_20 =>
   lt1 (bif v_14 then true else v_20) fun v_21 =>
   lt1 (w64 (v_11.Region - (1 : Int))) fun v_22 =>
   if v_21 = true then
    some true
   else
    Option.bind (inV 16 v_22) fun i_23 =>
    lt1 ((getV v_1 i_23)) fun v_24 =>
    lt1 ((v_24 + (1 : UInt64))) fun v_25 =>
    lt1 (decide (v_11.Count ≤ v_25)) fun v_26 =>
    some v_26
  ) fun x_27 =>
   if x_27 = true then
    some (.inr (.inr false))
   else
    lt1 (w64 (i_9 + (1 : Int))) fun v_28 =>
    some (.inl v_28)
 else
  some (.inr (.inl ()))

def ref11_Seen (k : Nat) (v_1 : (Vector UInt64 16)) (extra_2 : (List Zaf)) : Option ((Bool)) :=
 Option.bind (
  Option.bind (ref09_MayVector k v_1) fun v_4 =>
  lt1 ((!v_4)) fun v_5 =>
  lt1 (decide ((List.length extra_2 : Int) > (4096 : Int))) fun v_6 =>
  lt1 (bif v_5 then true else v_6) fun v_7 =>
  some v_7
 ) fun x_8 =>
  if x_8 = true then
   some false
  else
   Option.bind (
    Option.bind (Zbi (fun s => ref11_Seen.b1 k extra_2 v_1 s) k (0 : Int)) fun t => match t with
    | (.inl _) =>
     some (.inl ())
    | (.inr q) =>
     some (.inr q)
    : Option ((Unit) ⊕ ((Bool)))) fun t => match t with
   | (.inl _) =>
    some true
   | (.inr q) =>
    some q

def ref11_mayBuckets.b1 (k : Nat) (t_1 : Zah) (x_3 : Int) : Option ((Int) ⊕ ((Unit) ⊕ ((Bool)))) :=
 lt1 (decide (x_3 < (List.length t_1.Buckets : Int))) fun v_4 =>
 if v_4 = true then
  Option.bind (
   Option.bind (idxL t_1.Buckets x_3) fun v_5 =>
   lt1 (decide (v_5 < (0 : Int))) fun v_6 =>
   Option.bind (if (!v_6) = true then idxL t_1.Buckets x_3 else some default) fun v_7 =>
   lt1 (decide (v_7 ≥ (64 : Int))) fun v_8 =>
   lt1 (bif v_6 then true else v_8) fun v_9 =>
   lt1 (decide (x_3 > (0 : Int))) fun v_10 =>
   Option.bind (if ((!v_9) && v_10) = true then idxL t_1.Buckets x_3 else some default) fun v_11 =>
   lt1 (w64 (x_3 - (1 : Int))) fun v_12 =>
   Option.bind (if ((!v_9) && v_10) = true then idxL t_1.Buckets v_12 else some default) fun v_13 =>
   lt1 (decide (v_11 ≤ v_13)) fun v_14 =>
   lt1 (bif v_10 then v_14 else false) fun v_15 =>
   lt1 (bif v_9 then true else v_15) fun v_16 =>
   some v_16
  ) fun x_17 =>
   if x_17 = true then
    some (.inr (.inr false))
   else
    lt1 (w64 (x_3 + (1 : Int))) fun v_18 =>
    some (.inl v_18)
 else
  some (.inr (.inl ()))

def ref11_mayBuckets.b2 (k : Nat) (t_1 : Zah) (x_19 : Int) : Option ((Int) ⊕ ((Unit) ⊕ ((Bool)))) :=
 lt1 (decide (x_19 < (List.length t_1.Items : Int))) fun v_20 =>
 if v_20 = true then
  lt1 (w64 (x_19 - (1 : Int))) fun v_21 =>
  Option.bind (idxL t_1.Items v_21) fun v_22 =>
  Option.bind (idxL t_1.Items x_19) fun v_23 =>
  Option.bind (Zdn k v_22.Dot v_23.Dot) fun v_24 =>
  lt1 ((!v_24)) fun v_25 =>
  if v_25 = true then
   some (.inr (.inr false))
  else
   lt1 (w64 (x_19 + (1 : Int))) fun v_26 =>
   some (.inl v_26)
 else
  some (.inr (.inl ()))

def ref11_mayBuckets (k : Nat) (t_1 : Zah) : Option ((Bool)) :=
 Option.bind (
  Option.bind (Zbi (fun s => ref11_mayBuckets.b1 k t_1 s) k (0 : Int)) fun t => match t with
  | (.inl _) =>
   some (.inl ())
  | (.inr q) =>
   some (.inr q)
  : Option ((Unit) ⊕ ((Bool)))) fun t => match t with
 | (.inl _) =>
  Option.bind (
   Option.bind (Zbi (fun s => ref11_mayBuckets.b2 k t_1 s) k (1 : Int)) fun t => match t with
   | (.inl _) =>
    some (.inl ())
   | (.inr q) =>
    some (.inr q)
   : Option ((Unit) ⊕ ((Bool)))) fun t => match t with
  | (.inl _) =>
   Option.bind (
    lt1 (decide ((List.length t_1.Buckets : Int) ≥ (1 : Int))) fun v_27 =>
    Option.bind (if v_27 = true then ref11_mayItems k t_1.Items else some default) fun v_28 =>
    lt1 (bif v_27 then v_28 else false) fun v_29 =>
    Option.bind (if v_29 = true then ref11_Seen k t_1.Seen t_1.Extra else some default) fun v_30 =>
    lt1 (bif v_29 then v_30 else false) fun v_31 =>
    some v_31
   ) fun x_32 =>
    some x_32
  | (.inr q) =>
   some q
 | (.inr q) =>
  some q

def ref11_May.b1 (k : Nat) (t_1 : Zah) (x_26 : Int) : Option ((Int) ⊕ ((Unit) ⊕ ((Bool)))) :=
 lt1 (decide (x_26 < (List.length t_1.Live : Int))) fun v_27 =>
 if v_27 = true then
  Option.bind (
   Option.bind (idxL t_1.Live x_26) fun v_28 =>
   Option.bind (Zcc k v_28) fun v_29 =>
   lt1 ((!v_29)) fun v_30 =>
   lt1 (decide (x_26 > (0 : Int))) fun v_31 =>
   lt1 (w64 (x_26 - (1 : Int))) fun v_32 =>
   Option.bind (if ((!v_30) && v_31) = true then idxL t_1.Live v_32 else some default) fun v_33 =>
   Option.bind (if ((!v_30) && v_31) = true then idxL t_1.Live x_26 else some default) fun v_34 =>
   Option.bind (if ((!v_30) && v_31) = true then Zdn k v_33 v_34 else some default) fun v_35 =>
   lt1 ((!v_35)) fun v_36 =>
   lt1 (bif v_31 then v_36 else false) fun v_37 =>
   lt1 (bif v_30 then true else v_37) fun v_38 =>
   some v_38
  ) fun x_39 =>
   if x_39 = true then
    some (.inr (.inr false))
   else
    lt1 (w64 (x_26 + (1 : Int))) fun v_40 =>
    some (.inl v_40)
 else
  some (.inr (.inl ()))

def ref11_May (k : Nat) (t_1 : Zah) : Option ((Bool)) :=
 Option.bind (
  lt1 (decide (t_1.From < (1 : Int))) fun v_3 =>
  lt1 (decide (t_1.From > (16 : Int))) fun v_4 =>
  lt1 (bif v_3 then true else v_4) fun v_5 =>
  lt1 (decide (t_1.To < (1 : Int))) fun v_6 =>
  lt1 (bif v_5 then true else v_6) fun v_7 =>
  lt1 (decide (t_1.To > (16 : Int))) fun v_8 =>
  lt1 (bif v_7 then true else v_8) fun v_9 =>
  lt1 ((t_1.From == t_1.To)) fun v_10 =>
  lt1 (bif v_9 then true else v_10) fun v_11 =>
  Option.bind (if (!v_11) = true then Zfg k t_1 else some default) fun v_12 =>
  lt1 ((!v_12)) fun v_13 =>
  lt1 (bif v_11 then true else v_13) fun v_14 =>
  some v_14
 ) fun x_15 =>
  if x_15 = true then
   some false
  else
   Option.bind (
    lt1 ((t_1.Kind == (1 : Int))) fun v_16 =>
    if v_16 = true then
     Option.bind (
      lt1 (decide ((List.length t_1.Items : Int) ≥ (1 : Int))) fun v_17 =>
      Option.bind (if v_17 = true then ref11_mayItems k t_1.Items else some default) fun v_18 =>
      lt1 (bif v_17 then v_18 else false) fun v_19 =>
      some v_19
     ) fun x_20 =>
      some (.inr x_20)
    else
     lt1 ((t_1.Kind == (2 : Int))) fun v_21 =>
     if v_21 = true then
      Option.bind (ref09_May k t_1.Event) fun v_22 =>
      some (.inr v_22)
     else
      lt1 ((t_1.Kind == (3 : Int))) fun v_23 =>
      if v_23 = true then
       Option.bind (ref09_MayVector k t_1.Past) fun v_24 =>
       some (.inr v_24)
      else
       lt1 ((t_1.Kind == (4 : Int))) fun v_25 =>
       if v_25 = true then
        Option.bind (
         Option.bind (Zbi (fun s => ref11_May.b1 k t_1 s) k (0 : Int)) fun t => match t with
         | (.inl _) =>
          some (.inl ())
         | (.inr q) =>
          some (.inr q)
         : Option ((Unit) ⊕ ((Bool)))) fun t => match t with
        | (.inl _) =>
         Option.bind (
          lt1 (decide ((List.length t_1.Live : Int) ≤ (1024 : Int))) fun v_41 =>
          Option.bind (if v_41 = true then ref11_Seen k t_1.Seen t_1.Extra else some default) fun v_42 =>
          lt1 (bif v_41 then v_42 else false) fun v_43 =>
          some v_43
         ) fun x_44 =>
          some (.inr x_44)
        | (.inr q) =>
         some (.inr q)
       else
        lt1 ((t_1.Kind == (5 : Int))) fun v_45 =>
        if v_45 = true then
         some (.inr true)
        else
         lt1 ((t_1.Kind == (6 : Int))) fun v_46 =>
         if v_46 = true then
          lt1 (((List.length t_1.Leaves : Int) == (64 : Int))) fun v_47 =>
          some (.inr v_47)
         else
          lt1 ((t_1.Kind == (7 : Int))) fun v_48 =>
          if v_48 = true then
           Option.bind (ref11_mayBuckets k t_1) fun v_49 =>
           some (.inr v_49)
          else
           some (.inl ())
    : Option ((Unit) ⊕ ((Bool)))) fun t => match t with
   | (.inl _) =>
    some false
   | (.inr q) =>
    some q

def Ze5 (k : Nat) (t_1 : Zah) : Option ((Zah)) :=
 Option.bind (
  lt1 ((t_1.Kind == (1 : Int))) fun v_5 =>
  if v_5 = true then
   some (Zah.mk t_1.Kind t_1.From t_1.To t_1.Items (Zar.mk (Zaf.mk (0 : Int) (0 : UInt64)) ([] : (List UInt8)) ([] : (List UInt8)) (Vector.replicate 16 (0 : UInt64)) ([] : (List ZaA))) (Vector.replicate 16 (0 : UInt64)) (Vector.replicate 16 (0 : UInt64)) ([] : (List Zaf)) ([] : (List Zaf)) (Vector.replicate 32 (0 : UInt8)) ([] : (List (Vector UInt8 32))) ([] : (List Int)) false)
  else
   lt1 ((t_1.Kind == (2 : Int))) fun v_6 =>
   if v_6 = true then
    some (Zah.mk t_1.Kind t_1.From t_1.To ([] : (List Zap)) t_1.Event (Vector.replicate 16 (0 : UInt64)) (Vector.replicate 16 (0 : UInt64)) ([] : (List Zaf)) ([] : (List Zaf)) (Vector.replicate 32 (0 : UInt8)) ([] : (List (Vector UInt8 32))) ([] : (List Int)) false)
   else
    lt1 ((t_1.Kind == (3 : Int))) fun v_7 =>
    if v_7 = true then
     some (Zah.mk t_1.Kind t_1.From t_1.To ([] : (List Zap)) (Zar.mk (Zaf.mk (0 : Int) (0 : UInt64)) ([] : (List UInt8)) ([] : (List UInt8)) (Vector.replicate 16 (0 : UInt64)) ([] : (List ZaA))) t_1.Past (Vector.replicate 16 (0 : UInt64)) ([] : (List Zaf)) ([] : (List Zaf)) (Vector.replicate 32 (0 : UInt8)) ([] : (List (Vector UInt8 32))) ([] : (List Int)) false)
    else
     lt1 ((t_1.Kind == (4 : Int))) fun v_8 =>
     if v_8 = true then
      some (Zah.mk t_1.Kind t_1.From t_1.To ([] : (List Zap)) (Zar.mk (Zaf.mk (0 : Int) (0 : UInt64)) ([] : (List UInt8)) ([] : (List UInt8)) (Vector.replicate 16 (0 : UInt64)) ([] : (List ZaA))) (Vector.replicate 16 (0 : UInt64)) t_1.Seen t_1.Extra t_1.Live (Vector.replicate 32 (0 : UInt8)) ([] : (List (Vector UInt8 32))) ([] : (List Int)) false)
     else
      lt1 ((t_1.Kind == (5 : Int))) fun v_9 =>
      if v_9 = true then
       some (Zah.mk t_1.Kind t_1.From t_1.To ([] : (List Zap)) (Zar.mk (Zaf.mk (0 : Int) (0 : UInt64)) ([] : (List UInt8)) ([] : (List UInt8)) (Vector.replicate 16 (0 : UInt64)) ([] : (List ZaA))) (Vector.replicate 16 (0 : UInt64)) (Vector.replicate 16 (0 : UInt64)) ([] : (List Zaf)) ([] : (List Zaf)) t_1.Hash ([] : (List (Vector UInt8 32))) ([] : (List Int)) false)
      else
       lt1 ((t_1.Kind == (6 : Int))) fun v_10 =>
       if v_10 = true then
        some (Zah.mk t_1.Kind t_1.From t_1.To ([] : (List Zap)) (Zar.mk (Zaf.mk (0 : Int) (0 : UInt64)) ([] : (List UInt8)) ([] : (List UInt8)) (Vector.replicate 16 (0 : UInt64)) ([] : (List ZaA))) (Vector.replicate 16 (0 : UInt64)) (Vector.replicate 16 (0 : UInt64)) ([] : (List Zaf)) ([] : (List Zaf)) (Vector.replicate 32 (0 : UInt8)) t_1.Leaves ([] : (List Int)) false)
       else
        lt1 ((t_1.Kind == (7 : Int))) fun v_11 =>
        if v_11 = true then
         some (Zah.mk t_1.Kind t_1.From t_1.To t_1.Items (Zar.mk (Zaf.mk (0 : Int) (0 : UInt64)) ([] : (List UInt8)) ([] : (List UInt8)) (Vector.replicate 16 (0 : UInt64)) ([] : (List ZaA))) (Vector.replicate 16 (0 : UInt64)) t_1.Seen t_1.Extra ([] : (List Zaf)) (Vector.replicate 32 (0 : UInt8)) ([] : (List (Vector UInt8 32))) t_1.Buckets t_1.Reply)
        else
         some (Zah.mk t_1.Kind t_1.From t_1.To ([] : (List Zap)) (Zar.mk (Zaf.mk (0 : Int) (0 : UInt64)) ([] : (List UInt8)) ([] : (List UInt8)) (Vector.replicate 16 (0 : UInt64)) ([] : (List ZaA))) (Vector.replicate 16 (0 : UInt64)) (Vector.replicate 16 (0 : UInt64)) ([] : (List Zaf)) ([] : (List Zaf)) (Vector.replicate 32 (0 : UInt8)) ([] : (List (Vector UInt8 32))) ([] : (List Int)) false)
 ) fun x_12 =>
  some x_12

def slices_Equalapi_Item_api_Item.b1 (k : Nat) (s1_1 : (List Zap)) (s2_2 : (List Zap)) (x_4 : Int) : Option ((Int) ⊕ ((Unit) ⊕ ((Bool)))) :=
 lt1 (decide (x_4 < (List.length s1_1 : Int))) fun v_5 =>
 if v_5 = true then
  Option.bind (idxL s1_1 x_4) fun v_6 =>
  Option.bind (idxL s2_2 x_4) fun v_7 =>
  lt1 ((!(Zes v_6 v_7))) fun v_8 =>
  if v_8 = true then
   some (.inr (.inr false))
  else
   lt1 (w64 (x_4 + (1 : Int))) fun v_9 =>
   some (.inl v_9)
 else
  some (.inr (.inl ()))

def slices_Equalapi_Item_api_Item (k : Nat) (s1_1 : (List Zap)) (s2_2 : (List Zap)) : Option ((Bool)) :=
 lt1 (((List.length s1_1 : Int) != (List.length s2_2 : Int))) fun v_3 =>
 if v_3 = true then
  some false
 else
  Option.bind (
   Option.bind (Zbi (fun s => slices_Equalapi_Item_api_Item.b1 k s1_1 s2_2 s) k (0 : Int)) fun t => match t with
   | (.inl _) =>
    some (.inl ())
   | (.inr q) =>
    some (.inr q)
   : Option ((Unit) ⊕ ((Bool)))) fun t => match t with
  | (.inl _) =>
   some true
  | (.inr q) =>
   some q

def slices_Equalapi_Dot_api_Dot.b1 (k : Nat) (s1_1 : (List Zaf)) (s2_2 : (List Zaf)) (x_4 : Int) : Option ((Int) ⊕ ((Unit) ⊕ ((Bool)))) :=
 lt1 (decide (x_4 < (List.length s1_1 : Int))) fun v_5 =>
 if v_5 = true then
  Option.bind (idxL s1_1 x_4) fun v_6 =>
  Option.bind (idxL s2_2 x_4) fun v_7 =>
  lt1 ((!(Zc2 v_6 v_7))) fun v_8 =>
  if v_8 = true then
   some (.inr (.inr false))
  else
   lt1 (w64 (x_4 + (1 : Int))) fun v_9 =>
   some (.inl v_9)
 else
  some (.inr (.inl ()))

def slices_Equalapi_Dot_api_Dot (k : Nat) (s1_1 : (List Zaf)) (s2_2 : (List Zaf)) : Option ((Bool)) :=
 lt1 (((List.length s1_1 : Int) != (List.length s2_2 : Int))) fun v_3 =>
 if v_3 = true then
  some false
 else
  Option.bind (
   Option.bind (Zbi (fun s => slices_Equalapi_Dot_api_Dot.b1 k s1_1 s2_2 s) k (0 : Int)) fun t => match t with
   | (.inl _) =>
    some (.inl ())
   | (.inr q) =>
    some (.inr q)
   : Option ((Unit) ⊕ ((Bool)))) fun t => match t with
  | (.inl _) =>
   some true
  | (.inr q) =>
   some q

def slices_Equalapi_Hash_api_Hash.b1 (k : Nat) (s1_1 : (List (Vector UInt8 32))) (s2_2 : (List (Vector UInt8 32))) (x_4 : Int) : Option ((Int) ⊕ ((Unit) ⊕ ((Bool)))) :=
 lt1 (decide (x_4 < (List.length s1_1 : Int))) fun v_5 =>
 if v_5 = true then
  Option.bind (idxL s1_1 x_4) fun v_6 =>
  Option.bind (idxL s2_2 x_4) fun v_7 =>
  lt1 ((!((eqV (fun x y => x == y)) v_6 v_7))) fun v_8 =>
  if v_8 = true then
   some (.inr (.inr false))
  else
   lt1 (w64 (x_4 + (1 : Int))) fun v_9 =>
   some (.inl v_9)
 else
  some (.inr (.inl ()))

def slices_Equalapi_Hash_api_Hash (k : Nat) (s1_1 : (List (Vector UInt8 32))) (s2_2 : (List (Vector UInt8 32))) : Option ((Bool)) :=
 lt1 (((List.length s1_1 : Int) != (List.length s2_2 : Int))) fun v_3 =>
 if v_3 = true then
  some false
 else
  Option.bind (
   Option.bind (Zbi (fun s => slices_Equalapi_Hash_api_Hash.b1 k s1_1 s2_2 s) k (0 : Int)) fun t => match t with
   | (.inl _) =>
    some (.inl ())
   | (.inr q) =>
    some (.inr q)
   : Option ((Unit) ⊕ ((Bool)))) fun t => match t with
  | (.inl _) =>
   some true
  | (.inr q) =>
   some q

def slices_Equalint_int.b1 (k : Nat) (s1_1 : (List Int)) (s2_2 : (List Int)) (x_4 : Int) : Option ((Int) ⊕ ((Unit) ⊕ ((Bool)))) :=
 lt1 (decide (x_4 < (List.length s1_1 : Int))) fun v_5 =>
 if v_5 = true then
  Option.bind (idxL s1_1 x_4) fun v_6 =>
  Option.bind (idxL s2_2 x_4) fun v_7 =>
  lt1 ((v_6 != v_7)) fun v_8 =>
  if v_8 = true then
   some (.inr (.inr false))
  else
   lt1 (w64 (x_4 + (1 : Int))) fun v_9 =>
   some (.inl v_9)
 else
  some (.inr (.inl ()))

def slices_Equalint_int (k : Nat) (s1_1 : (List Int)) (s2_2 : (List Int)) : Option ((Bool)) :=
 lt1 (((List.length s1_1 : Int) != (List.length s2_2 : Int))) fun v_3 =>
 if v_3 = true then
  some false
 else
  Option.bind (
   Option.bind (Zbi (fun s => slices_Equalint_int.b1 k s1_1 s2_2 s) k (0 : Int)) fun t => match t with
   | (.inl _) =>
    some (.inl ())
   | (.inr q) =>
    some (.inr q)
   : Option ((Unit) ⊕ ((Bool)))) fun t => match t with
  | (.inl _) =>
   some true
  | (.inr q) =>
   some q

def slices_Equalbyte_byte.b1 (k : Nat) (s1_1 : (List UInt8)) (s2_2 : (List UInt8)) (x_4 : Int) : Option ((Int) ⊕ ((Unit) ⊕ ((Bool)))) :=
 lt1 (decide (x_4 < (List.length s1_1 : Int))) fun v_5 =>
 if v_5 = true then
  Option.bind (idxL s1_1 x_4) fun v_6 =>
  Option.bind (idxL s2_2 x_4) fun v_7 =>
  lt1 ((!(v_6 == v_7))) fun v_8 =>
  if v_8 = true then
   some (.inr (.inr false))
  else
   lt1 (w64 (x_4 + (1 : Int))) fun v_9 =>
   some (.inl v_9)
 else
  some (.inr (.inl ()))

def slices_Equalbyte_byte (k : Nat) (s1_1 : (List UInt8)) (s2_2 : (List UInt8)) : Option ((Bool)) :=
 lt1 (((List.length s1_1 : Int) != (List.length s2_2 : Int))) fun v_3 =>
 if v_3 = true then
  some false
 else
  Option.bind (
   Option.bind (Zbi (fun s => slices_Equalbyte_byte.b1 k s1_1 s2_2 s) k (0 : Int)) fun t => match t with
   | (.inl _) =>
    some (.inl ())
   | (.inr q) =>
    some (.inr q)
   : Option ((Unit) ⊕ ((Bool)))) fun t => match t with
  | (.inl _) =>
   some true
  | (.inr q) =>
   some q

def slices_Equalapi_Dest_api_Dest.b1 (k : Nat) (s1_1 : (List ZaA)) (s2_2 : (List ZaA)) (x_4 : Int) : Option ((Int) ⊕ ((Unit) ⊕ ((Bool)))) :=
 lt1 (decide (x_4 < (List.length s1_1 : Int))) fun v_5 =>
 if v_5 = true then
  Option.bind (idxL s1_1 x_4) fun v_6 =>
  Option.bind (idxL s2_2 x_4) fun v_7 =>
  lt1 ((!(ZdP v_6 v_7))) fun v_8 =>
  if v_8 = true then
   some (.inr (.inr false))
  else
   lt1 (w64 (x_4 + (1 : Int))) fun v_9 =>
   some (.inl v_9)
 else
  some (.inr (.inl ()))

def slices_Equalapi_Dest_api_Dest (k : Nat) (s1_1 : (List ZaA)) (s2_2 : (List ZaA)) : Option ((Bool)) :=
 lt1 (((List.length s1_1 : Int) != (List.length s2_2 : Int))) fun v_3 =>
 if v_3 = true then
  some false
 else
  Option.bind (
   Option.bind (Zbi (fun s => slices_Equalapi_Dest_api_Dest.b1 k s1_1 s2_2 s) k (0 : Int)) fun t => match t with
   | (.inl _) =>
    some (.inl ())
   | (.inr q) =>
    some (.inr q)
   : Option ((Unit) ⊕ ((Bool)))) fun t => match t with
  | (.inl _) =>
   some true
  | (.inr q) =>
   some q

def Zfe (k : Nat) (a_1 : Zar) (b_2 : Zar) : Option ((Bool)) :=
 Option.bind (
  lt1 ((Zc2 a_1.ID b_2.ID)) fun v_5 =>
  lt1 ((a_1.Topic == b_2.Topic)) fun v_6 =>
  lt1 (bif v_5 then v_6 else false) fun v_7 =>
  Option.bind (if v_7 = true then slices_Equalbyte_byte k a_1.Payload b_2.Payload else some default) fun v_8 =>
  lt1 (bif v_7 then v_8 else false) fun v_9 =>
  lt1 (((eqV (fun x y => x == y)) a_1.Past b_2.Past)) fun v_10 =>
  lt1 (bif v_9 then v_10 else false) fun v_11 =>
  Option.bind (if v_11 = true then slices_Equalapi_Dest_api_Dest k a_1.To b_2.To else some default) fun v_12 =>
  lt1 (bif v_11 then v_12 else false) fun v_13 =>
  some v_13
 ) fun x_14 =>
  some x_14

def Zee (k : Nat) (t_1 : Zah) (a_2 : Zah) : Option ((Bool)) :=
 Option.bind (
  lt1 ((t_1.Kind == a_2.Kind)) fun v_5 =>
  lt1 ((t_1.From == a_2.From)) fun v_6 =>
  lt1 (bif v_5 then v_6 else false) fun v_7 =>
  lt1 ((t_1.To == a_2.To)) fun v_8 =>
  lt1 (bif v_7 then v_8 else false) fun v_9 =>
  lt1 (((eqV (fun x y => x == y)) t_1.Past a_2.Past)) fun v_10 =>
  lt1 (bif v_9 then v_10 else false) fun v_11 =>
  lt1 (((eqV (fun x y => x == y)) t_1.Seen a_2.Seen)) fun v_12 =>
  lt1 (bif v_11 then v_12 else false) fun v_13 =>
  lt1 (((eqV (fun x y => x == y)) t_1.Hash a_2.Hash)) fun v_14 =>
  lt1 (bif v_13 then v_14 else false) fun v_15 =>
  lt1 ((t_1.Reply == a_2.Reply)) fun v_16 =>
  lt1 (bif v_15 then v_16 else false) fun v_17 =>
  some v_17
 ) fun x_18 =>
  Option.bind (
   Option.bind (slices_Equalapi_Item_api_Item k t_1.Items a_2.Items) fun v_19 =>
   Option.bind (if v_19 = true then slices_Equalapi_Dot_api_Dot k t_1.Extra a_2.Extra else some default) fun v_20 =>
   lt1 (bif v_19 then v_20 else false) fun v_21 =>
   Option.bind (if v_21 = true then slices_Equalapi_Dot_api_Dot k t_1.Live a_2.Live else some default) fun v_22 =>
   lt1 (bif v_21 then v_22 else false) fun v_23 =>
   Option.bind (if v_23 = true then slices_Equalapi_Hash_api_Hash k t_1.Leaves a_2.Leaves else some default) fun v_24 =>
   lt1 (bif v_23 then v_24 else false) fun v_25 =>
   Option.bind (if v_25 = true then slices_Equalint_int k t_1.Buckets a_2.Buckets else some default) fun v_26 =>
   lt1 (bif v_25 then v_26 else false) fun v_27 =>
   some v_27
  ) fun x_28 =>
   Option.bind (
    lt1 (bif x_18 then x_28 else false) fun v_29 =>
    Option.bind (if v_29 = true then Zfe k t_1.Event a_2.Event else some default) fun v_30 =>
    lt1 (bif v_29 then v_30 else false) fun v_31 =>
    some v_31
   ) fun x_32 =>
    some x_32

def ZfW (k : Nat) (d_1 : Zaf) : Option ((Bool)) :=
 Option.bind (
  lt1 (decide (d_1.Region ≥ (1 : Int))) fun v_3 =>
  lt1 (decide (d_1.Region ≤ (16 : Int))) fun v_4 =>
  lt1 (bif v_3 then v_4 else false) fun v_5 =>
  lt1 (decide ((1 : UInt64) ≤ d_1.Count)) fun v_6 =>
  lt1 (bif v_5 then v_6 else false) fun v_7 =>
  lt1 (decide (d_1.Count ≤ (4611686018427387904 : UInt64))) fun v_8 =>
  lt1 (bif v_7 then v_8 else false) fun v_9 =>
  some v_9
 ) fun x_10 =>
  some x_10

def Zcb (k : Nat) (s_1 : (List UInt8)) : Option ((Bool)) :=
 Option.bind (
  lt1 (decide ((List.length s_1 : Int) ≥ (1 : Int))) fun v_2 =>
  lt1 (decide ((List.length s_1 : Int) ≤ (32 : Int))) fun v_3 =>
  lt1 (bif v_2 then v_3 else false) fun v_4 =>
  some v_4
 ) fun x_5 =>
  some x_5

def Zdr (k : Nat) (i_1 : Zap) : Option ((Bool)) :=
 if i_1.Gone = true then
  Option.bind (
   Option.bind (ZfW k i_1.Dot) fun v_3 =>
   lt1 ((Zej i_1.Key (Zbq.mk ([] : (List UInt8)) ([] : (List UInt8))))) fun v_4 =>
   lt1 (bif v_3 then v_4 else false) fun v_5 =>
   some v_5
  ) fun x_6 =>
   some x_6
 else
  Option.bind (
   Option.bind (ZfW k i_1.Dot) fun v_7 =>
   Option.bind (if v_7 = true then Zcb k i_1.Key.Topic else some default) fun v_8 =>
   lt1 (bif v_7 then v_8 else false) fun v_9 =>
   Option.bind (if v_9 = true then Zcb k i_1.Key.Device else some default) fun v_10 =>
   lt1 (bif v_9 then v_10 else false) fun v_11 =>
   some v_11
  ) fun x_12 =>
   some x_12

def ZdB (k : Nat) (i_1 : Zap) : Option ((Bool)) :=
 Option.bind (Zdr k i_1) fun v_3 =>
 lt1 ((!v_3)) fun v_4 =>
 some v_4

def slices_IndexFuncapi_Item_api_Item.b1 (k : Nat) (s_1 : (List Zap)) (x_2 : Int) : Option ((Int) ⊕ ((Unit) ⊕ ((Int)))) :=
 lt1 (decide (x_2 < (List.length s_1 : Int))) fun v_3 =>
 if v_3 = true then
  Option.bind (idxL s_1 x_2) fun v_4 =>
  Option.bind (ZdB k v_4) fun v_5 =>
  if v_5 = true then
   some (.inr (.inr x_2))
  else
   lt1 (w64 (x_2 + (1 : Int))) fun v_6 =>
   some (.inl v_6)
 else
  some (.inr (.inl ()))

def slices_IndexFuncapi_Item_api_Item (k : Nat) (s_1 : (List Zap)) : Option ((Int)) :=
 Option.bind (
  Option.bind (Zbi (fun s => slices_IndexFuncapi_Item_api_Item.b1 k s_1 s) k (0 : Int)) fun t => match t with
  | (.inl _) =>
   some (.inl ())
  | (.inr q) =>
   some (.inr q)
  : Option ((Unit) ⊕ ((Int)))) fun t => match t with
 | (.inl _) =>
  some (-1 : Int)
 | (.inr q) =>
  some q

def ZaV (k : Nat) (s_1 : (List Zap)) : Option ((Bool)) :=
 Option.bind (slices_IndexFuncapi_Item_api_Item k s_1) fun v_2 =>
 lt1 (decide (v_2 ≥ (0 : Int))) fun v_3 =>
 some v_3

def ZdL (k : Nat) (f_1 : Zah) : Option ((Bool)) :=
 Option.bind (
  lt1 (decide ((List.length f_1.Items : Int) ≤ (4096 : Int))) fun v_3 =>
  Option.bind (if v_3 = true then ZaV k f_1.Items else some default) fun v_4 =>
  lt1 ((!v_4)) fun v_5 =>
  lt1 (bif v_3 then v_5 else false) fun v_6 =>
  some v_6
 ) fun x_7 =>
  some x_7

def ZdT (k : Nat) (d_1 : Zaf) : Option ((Bool)) :=
 Option.bind (
  lt1 (decide (d_1.Region ≥ (1 : Int))) fun v_3 =>
  lt1 (decide (d_1.Region ≤ (16 : Int))) fun v_4 =>
  lt1 (bif v_3 then v_4 else false) fun v_5 =>
  lt1 (decide ((1 : UInt64) ≤ d_1.Count)) fun v_6 =>
  lt1 (bif v_5 then v_6 else false) fun v_7 =>
  lt1 (decide (d_1.Count ≤ (4611686018427387904 : UInt64))) fun v_8 =>
  lt1 (bif v_7 then v_8 else false) fun v_9 =>
  some v_9
 ) fun x_10 =>
  some x_10

def Zcm (k : Nat) (n_1 : UInt64) : Option ((Bool)) :=
 lt1 (decide ((4611686018427387904 : UInt64) < n_1)) fun v_2 =>
 some v_2

def slices_IndexFuncuint64_uint64.b1 (k : Nat) (s_1 : (List UInt64)) (x_2 : Int) : Option ((Int) ⊕ ((Unit) ⊕ ((Int)))) :=
 lt1 (decide (x_2 < (List.length s_1 : Int))) fun v_3 =>
 if v_3 = true then
  Option.bind (idxL s_1 x_2) fun v_4 =>
  Option.bind (Zcm k v_4) fun v_5 =>
  if v_5 = true then
   some (.inr (.inr x_2))
  else
   lt1 (w64 (x_2 + (1 : Int))) fun v_6 =>
   some (.inl v_6)
 else
  some (.inr (.inl ()))

def slices_IndexFuncuint64_uint64 (k : Nat) (s_1 : (List UInt64)) : Option ((Int)) :=
 Option.bind (
  Option.bind (Zbi (fun s => slices_IndexFuncuint64_uint64.b1 k s_1 s) k (0 : Int)) fun t => match t with
  | (.inl _) =>
   some (.inl ())
  | (.inr q) =>
   some (.inr q)
  : Option ((Unit) ⊕ ((Int)))) fun t => match t with
 | (.inl _) =>
  some (-1 : Int)
 | (.inr q) =>
  some q

def Zbn (k : Nat) (s_1 : (List UInt64)) : Option ((Bool)) :=
 Option.bind (slices_IndexFuncuint64_uint64 k s_1) fun v_2 =>
 lt1 (decide (v_2 ≥ (0 : Int))) fun v_3 =>
 some v_3

def Zcn (k : Nat) (v_1 : (Vector UInt64 16)) : Option ((Bool)) :=
 Option.bind (subL (Vector.toList v_1) (0 : Int) (16 : Int)) fun v_3 =>
 Option.bind (Zbn k v_3) fun v_4 =>
 lt1 ((!v_4)) fun v_5 =>
 some v_5

def Zd0 (k : Nat) (x_1 : Int) : Option ((Bool)) :=
 lt1 ((x_1 != x_1)) fun v_2 =>
 some v_2

def ZcA (k : Nat) (x_1 : Int) (y_2 : Int) : Option ((Int)) :=
 Option.bind (Zd0 k x_1) fun v_3 =>
 Option.bind (Zd0 k y_2) fun v_4 =>
 if v_3 = true then
  if v_4 = true then
   some (0 : Int)
  else
   some (-1 : Int)
 else
  if v_4 = true then
   some (1 : Int)
  else
   lt1 (decide (x_1 < y_2)) fun v_5 =>
   if v_5 = true then
    some (-1 : Int)
   else
    lt1 (decide (x_1 > y_2)) fun v_6 =>
    if v_6 = true then
     some (1 : Int)
    else
     some (0 : Int)

def ZcP (k : Nat) (x_1 : UInt64) : Option ((Bool)) :=
 lt1 ((!(x_1 == x_1))) fun v_2 =>
 some v_2

def ZbV (k : Nat) (x_1 : UInt64) (y_2 : UInt64) : Option ((Int)) :=
 Option.bind (ZcP k x_1) fun v_3 =>
 Option.bind (ZcP k y_2) fun v_4 =>
 if v_3 = true then
  if v_4 = true then
   some (0 : Int)
  else
   some (-1 : Int)
 else
  if v_4 = true then
   some (1 : Int)
  else
   lt1 (decide (x_1 < y_2)) fun v_5 =>
   if v_5 = true then
    some (-1 : Int)
   else
    lt1 (decide (y_2 < x_1)) fun v_6 =>
    if v_6 = true then
     some (1 : Int)
    else
     some (0 : Int)

def cmp_Orint.b1 (k : Nat) (vals_1 : (List Int)) (x_2 : Int) : Option ((Int) ⊕ ((Unit) ⊕ ((Int)))) :=
 lt1 (decide (x_2 < (List.length vals_1 : Int))) fun v_3 =>
 if v_3 = true then
  Option.bind (idxL vals_1 x_2) fun v_4 =>
  lt1 ((v_4 != (0 : Int))) fun v_5 =>
  if v_5 = true then
   some (.inr (.inr v_4))
  else
   lt1 (w64 (x_2 + (1 : Int))) fun v_6 =>
   some (.inl v_6)
 else
  some (.inr (.inl ()))

def cmp_Orint (k : Nat) (vals_1 : (List Int)) : Option ((Int)) :=
 Option.bind (
  Option.bind (Zbi (fun s => cmp_Orint.b1 k vals_1 s) k (0 : Int)) fun t => match t with
  | (.inl _) =>
   some (.inl ())
  | (.inr q) =>
   some (.inr q)
  : Option ((Unit) ⊕ ((Int)))) fun t => match t with
 | (.inl _) =>
  some (0 : Int)
 | (.inr q) =>
  some q

def Zeh (k : Nat) (a_1 : Zaf) (b_2 : Zaf) : Option ((Bool)) :=
 Option.bind (ZcA k a_1.Region b_2.Region) fun v_5 =>
 Option.bind (ZbV k a_1.Count b_2.Count) fun v_6 =>
 Option.bind (cmp_Orint k ([v_5, v_6] : (List Int))) fun v_7 =>
 lt1 (decide (v_7 < (0 : Int))) fun v_8 =>
 some v_8

def event_May.b1 (k : Nat) (t_1 : Zar) (x_21 : Bool) (x_22 : Int) : Option ((Bool × Int) ⊕ ((Bool))) :=
 lt1 (decide (x_22 < (List.length t_1.To : Int))) fun v_23 =>
 if v_23 = true then
  Option.bind (idxL t_1.To x_22) fun v_24 =>
  Option.bind (
   Option.bind (ZdT k v_24.Dot) fun v_26 =>
   Option.bind (if v_26 = true then Zcb k v_24.Device else some default) fun v_27 =>
   lt1 (bif v_26 then v_27 else false) fun v_28 =>
   lt1 ((x_22 == (0 : Int))) fun v_29 =>
   lt1 (w64 (x_22 - (1 : Int))) fun v_30 =>
   Option.bind (if (v_28 && (!v_29)) = true then idxL t_1.To v_30 else some default) fun v_31 =>
   Option.bind (if (v_28 && (!v_29)) = true then Zeh k v_31.Dot v_24.Dot else some default) fun v_32 =>
   lt1 (bif v_29 then true else v_32) fun v_33 =>
   lt1 (bif v_28 then v_33 else false) fun v_34 =>
   some v_34
  ) fun x_35 =>
   lt1 ((!x_35)) fun v_36 =>
   if v_36 = true then
    some (.inr x_35)
   else
    lt1 (w64 (x_22 + (1 : Int))) fun v_37 =>
    some (.inl (x_35, v_37))
 else
  some (.inr x_21)

def event_May (k : Nat) (t_1 : Zar) : Option ((Bool)) :=
 Option.bind (
  Option.bind (ZdT k t_1.ID) fun v_3 =>
  lt1 ((!v_3)) fun v_4 =>
  Option.bind (if (!v_4) = true then Zcn k t_1.Past else some default) fun v_5 =>
  lt1 ((!v_5)) fun v_6 =>
  lt1 (bif v_4 then true else v_6) fun v_7 =>
  lt1 (w64 (t_1.ID.Region - (1 : Int))) fun v_8 =>
  if v_7 = true then
   some true
  else
   Option.bind (inV 16 v_8) fun i_9 =>
   lt1 ((getV t_1.Past i_9)) fun v_10 =>
   lt1 ((t_1.ID.Count - (1 : UInt64))) fun v_11 =>
   lt1 ((!(v_10 == v_11))) fun v_12 =>
   some v_12
 ) fun x_13 =>
  if x_13 = true then
   some false
  else
   Option.bind (
    Option.bind (Zcb k t_1.Topic) fun v_14 =>
    lt1 ((!v_14)) fun v_15 =>
    lt1 (decide ((List.length t_1.Payload : Int) > (512 : Int))) fun v_16 =>
    lt1 (bif v_15 then true else v_16) fun v_17 =>
    lt1 (decide ((List.length t_1.To : Int) > (1024 : Int))) fun v_18 =>
    lt1 (bif v_17 then true else v_18) fun v_19 =>
    some v_19
   ) fun x_20 =>
    if x_20 = true then
     some false
    else
     Option.bind (
      Zbi (fun s => event_May.b1 k t_1 s.1 s.2) k (true, (0 : Int))
     ) fun x_38 =>
      some x_38

def Zgm (k : Nat) (n_1 : UInt64) : Option ((Bool)) :=
 lt1 (decide ((4611686018427387904 : UInt64) < n_1)) fun v_2 =>
 some v_2

def slices_IndexFuncuint64_uint64'2.b1 (k : Nat) (s_1 : (List UInt64)) (x_2 : Int) : Option ((Int) ⊕ ((Unit) ⊕ ((Int)))) :=
 lt1 (decide (x_2 < (List.length s_1 : Int))) fun v_3 =>
 if v_3 = true then
  Option.bind (idxL s_1 x_2) fun v_4 =>
  Option.bind (Zgm k v_4) fun v_5 =>
  if v_5 = true then
   some (.inr (.inr x_2))
  else
   lt1 (w64 (x_2 + (1 : Int))) fun v_6 =>
   some (.inl v_6)
 else
  some (.inr (.inl ()))

def slices_IndexFuncuint64_uint64'2 (k : Nat) (s_1 : (List UInt64)) : Option ((Int)) :=
 Option.bind (
  Option.bind (Zbi (fun s => slices_IndexFuncuint64_uint64'2.b1 k s_1 s) k (0 : Int)) fun t => match t with
  | (.inl _) =>
   some (.inl ())
  | (.inr q) =>
   some (.inr q)
  : Option ((Unit) ⊕ ((Int)))) fun t => match t with
 | (.inl _) =>
  some (-1 : Int)
 | (.inr q) =>
  some q

def Za4 (k : Nat) (s_1 : (List UInt64)) : Option ((Bool)) :=
 Option.bind (slices_IndexFuncuint64_uint64'2 k s_1) fun v_2 =>
 lt1 (decide (v_2 ≥ (0 : Int))) fun v_3 =>
 some v_3

def ZcM (k : Nat) (i_1 : Int) (less_2 : Bool) : Option ((Bool)) :=
 Option.bind (
  lt1 ((i_1 == (0 : Int))) fun v_3 =>
  lt1 (bif v_3 then true else less_2) fun v_4 =>
  some v_4
 ) fun x_5 =>
  some x_5

def ZgR (k : Nat) (a_1 : Zaf) (b_2 : Zaf) : Option ((Int)) :=
 Option.bind (ZcA k a_1.Region b_2.Region) fun v_5 =>
 Option.bind (ZbV k a_1.Count b_2.Count) fun v_6 =>
 Option.bind (cmp_Orint k ([v_5, v_6] : (List Int))) fun v_7 =>
 some v_7

def Zfn (k : Nat) (a_1 : Zaf) (b_2 : Zaf) : Option ((Bool)) :=
 Option.bind (ZgR k a_1 b_2) fun v_5 =>
 lt1 (decide (v_5 < (0 : Int))) fun v_6 =>
 some v_6

def ZbE (k : Nat) (s_1 : (List Zaf)) : Option (((List Zaf))) :=
 Option.bind (apL 16 ([] : (List Zaf)) s_1) fun x_3 =>
 some x_3

def ctx_Of.b1 (k : Nat) (v_1 : (Vector UInt64 16)) (x_4 : Int) : Option ((Int) ⊕ ((Unit) ⊕ (((List Zaf)) ⊕ (Int)))) :=
 lt1 (decide (x_4 < (16 : Int))) fun v_5 =>
 if v_5 = true then
  Option.bind (idxV v_1 x_4) fun v_6 =>
  lt1 (decide ((4611686018427387904 : UInt64) < v_6)) fun v_7 =>
  if v_7 = true then
   some (.inr (.inr (.inr (2 : Int))))
  else
   lt1 (w64 (x_4 + (1 : Int))) fun v_8 =>
   some (.inl v_8)
 else
  some (.inr (.inl ()))

def ctx_Of.b2 (k : Nat) (extra_2 : (List Zaf)) (v_1 : (Vector UInt64 16)) (x_9 : Int) : Option ((Int) ⊕ ((Unit) ⊕ (((List Zaf)) ⊕ (Int)))) :=
 lt1 (decide (x_9 < (List.length extra_2 : Int))) fun v_10 =>
 if v_10 = true then
  Option.bind (idxL extra_2 x_9) fun v_11 =>
  Option.bind (
   Option.bind (ZfW k v_11) fun v_13 =>
   lt1 ((!v_13)) fun v_14 =>
   lt1 (decide (x_9 > (0 : Int))) fun v_15 =>
   lt1 (w64 (x_9 - (1 : Int))) fun v_16 =>
   Option.bind (if ((!v_14) && v_15) = true then idxL extra_2 v_16 else some default) fun v_17 =>
   Option.bind (if ((!v_14) && v_15) = true then Zfn k v_17 v_11 else some default) fun v_18 =>
   lt1 ((!v_18)) fun v_19 =>
   lt1 (bif v_15 then v_19 else false) fun v_20 =>
   lt1 (bif v_14 then true else v_20) fun v_21 =>
   lt1 (w64 (v_11.Region - (1 : Int))) fun v_22 =>
   if v_21 = true then
    some true
   else
    Option.bind (inV 16 v_22) fun i_23 =>
    lt1 ((getV v_1 i_23)) fun v_24 =>
    lt1 ((v_24 + (1 : UInt64))) fun v_25 =>
    lt1 (decide (v_11.Count ≤ v_25)) fun v_26 =>
    some v_26
  ) fun x_27 =>
   if x_27 = true then
    some (.inr (.inr (.inr (2 : Int))))
   else
    lt1 (w64 (x_9 + (1 : Int))) fun v_28 =>
    some (.inl v_28)
 else
  some (.inr (.inl ()))

def ctx_Of (k : Nat) (v_1 : (Vector UInt64 16)) (extra_2 : (List Zaf)) : Option (((List Zaf)) ⊕ (Int)) :=
 Option.bind (
  Option.bind (Zbi (fun s => ctx_Of.b1 k v_1 s) k (0 : Int)) fun t => match t with
  | (.inl _) =>
   some (.inl ())
  | (.inr q) =>
   some (.inr q)
  : Option ((Unit) ⊕ (((List Zaf)) ⊕ (Int)))) fun t => match t with
 | (.inl _) =>
  Option.bind (
   Option.bind (Zbi (fun s => ctx_Of.b2 k extra_2 v_1 s) k (0 : Int)) fun t => match t with
   | (.inl _) =>
    some (.inl ())
   | (.inr q) =>
    some (.inr q)
   : Option ((Unit) ⊕ (((List Zaf)) ⊕ (Int)))) fun t => match t with
  | (.inl _) =>
   lt1 (decide ((List.length extra_2 : Int) > (4096 : Int))) fun v_29 =>
   if v_29 = true then
    some (.inr (5 : Int))
   else
    Option.bind (ZbE k extra_2) fun v_30 =>
    some (.inl v_30)
  | (.inr q) =>
   some q
 | (.inr q) =>
  some q

def Zef (k : Nat) (f_1 : Zah) : Option ((Bool)) :=
 Option.bind (ctx_Of k f_1.Seen f_1.Extra) fun t => match t with
 | (.inl v_3) =>
  some true
 | (.inr v_7) =>
  lt1 ((v_7 == (0 : Int))) fun v_8 =>
  some v_8

def frame_May.b1 (k : Nat) (t_1 : Zah) (x_29 : Int) : Option ((Int) ⊕ ((Unit) ⊕ ((Bool)))) :=
 lt1 (decide (x_29 < (List.length t_1.Live : Int))) fun v_30 =>
 if v_30 = true then
  Option.bind (idxL t_1.Live x_29) fun v_31 =>
  Option.bind (
   Option.bind (ZfW k v_31) fun v_33 =>
   lt1 ((!v_33)) fun v_34 =>
   lt1 (decide (x_29 > (0 : Int))) fun v_35 =>
   lt1 (w64 (x_29 - (1 : Int))) fun v_36 =>
   Option.bind (if ((!v_34) && v_35) = true then idxL t_1.Live v_36 else some default) fun v_37 =>
   Option.bind (if ((!v_34) && v_35) = true then Zfn k v_37 v_31 else some default) fun v_38 =>
   lt1 (bif v_35 then v_38 else false) fun v_39 =>
   Option.bind (if (!v_34) = true then ZcM k x_29 v_39 else some default) fun v_40 =>
   lt1 ((!v_40)) fun v_41 =>
   lt1 (bif v_34 then true else v_41) fun v_42 =>
   some v_42
  ) fun x_43 =>
   if x_43 = true then
    some (.inr (.inr false))
   else
    lt1 (w64 (x_29 + (1 : Int))) fun v_44 =>
    some (.inl v_44)
 else
  some (.inr (.inl ()))

def frame_May.b2 (k : Nat) (t_1 : Zah) (x_53 : Int) : Option ((Int) ⊕ ((Unit) ⊕ ((Bool)))) :=
 lt1 (decide (x_53 < (List.length t_1.Buckets : Int))) fun v_54 =>
 if v_54 = true then
  Option.bind (idxL t_1.Buckets x_53) fun v_55 =>
  Option.bind (
   lt1 (decide (v_55 < (0 : Int))) fun v_56 =>
   lt1 (decide (v_55 ≥ (64 : Int))) fun v_57 =>
   lt1 (bif v_56 then true else v_57) fun v_58 =>
   lt1 (decide (x_53 > (0 : Int))) fun v_59 =>
   lt1 (w64 (x_53 - (1 : Int))) fun v_60 =>
   Option.bind (if ((!v_58) && v_59) = true then idxL t_1.Buckets v_60 else some default) fun v_61 =>
   lt1 (decide (v_61 < v_55)) fun v_62 =>
   lt1 (bif v_59 then v_62 else false) fun v_63 =>
   Option.bind (if (!v_58) = true then ZcM k x_53 v_63 else some default) fun v_64 =>
   lt1 ((!v_64)) fun v_65 =>
   lt1 (bif v_58 then true else v_65) fun v_66 =>
   some v_66
  ) fun x_67 =>
   if x_67 = true then
    some (.inr (.inr false))
   else
    lt1 (w64 (x_53 + (1 : Int))) fun v_68 =>
    some (.inl v_68)
 else
  some (.inr (.inl ()))

def frame_May.b3 (k : Nat) (t_1 : Zah) (x_69 : Int) : Option ((Int) ⊕ ((Unit) ⊕ ((Bool)))) :=
 lt1 (decide (x_69 < (List.length t_1.Items : Int))) fun v_70 =>
 if v_70 = true then
  Option.bind (idxL t_1.Items x_69) fun v_71 =>
  Option.bind (
   lt1 (decide (x_69 > (0 : Int))) fun v_73 =>
   lt1 (w64 (x_69 - (1 : Int))) fun v_74 =>
   Option.bind (if v_73 = true then idxL t_1.Items v_74 else some default) fun v_75 =>
   Option.bind (if v_73 = true then Zfn k v_75.Dot v_71.Dot else some default) fun v_76 =>
   lt1 (bif v_73 then v_76 else false) fun v_77 =>
   Option.bind (ZcM k x_69 v_77) fun v_78 =>
   lt1 ((!v_78)) fun v_79 =>
   some v_79
  ) fun x_80 =>
   if x_80 = true then
    some (.inr (.inr false))
   else
    lt1 (w64 (x_69 + (1 : Int))) fun v_81 =>
    some (.inl v_81)
 else
  some (.inr (.inl ()))

def frame_May (k : Nat) (t_1 : Zah) : Option ((Bool)) :=
 Option.bind (
  lt1 (decide (t_1.From < (1 : Int))) fun v_3 =>
  lt1 (decide (t_1.From > (16 : Int))) fun v_4 =>
  lt1 (bif v_3 then true else v_4) fun v_5 =>
  lt1 (decide (t_1.To < (1 : Int))) fun v_6 =>
  lt1 (bif v_5 then true else v_6) fun v_7 =>
  lt1 (decide (t_1.To > (16 : Int))) fun v_8 =>
  lt1 (bif v_7 then true else v_8) fun v_9 =>
  lt1 ((t_1.From == t_1.To)) fun v_10 =>
  lt1 (bif v_9 then true else v_10) fun v_11 =>
  Option.bind (if (!v_11) = true then Ze5 k t_1 else some default) fun v_12 =>
  Option.bind (if (!v_11) = true then Zee k t_1 v_12 else some default) fun v_13 =>
  lt1 ((!v_13)) fun v_14 =>
  lt1 (bif v_11 then true else v_14) fun v_15 =>
  some v_15
 ) fun x_16 =>
  if x_16 = true then
   some false
  else
   Option.bind (
    lt1 ((t_1.Kind == (1 : Int))) fun v_17 =>
    if v_17 = true then
     Option.bind (
      lt1 (decide ((List.length t_1.Items : Int) > (0 : Int))) fun v_18 =>
      Option.bind (if v_18 = true then ZdL k t_1 else some default) fun v_19 =>
      lt1 (bif v_18 then v_19 else false) fun v_20 =>
      some v_20
     ) fun x_21 =>
      some (.inr x_21)
    else
     lt1 ((t_1.Kind == (2 : Int))) fun v_22 =>
     if v_22 = true then
      Option.bind (event_May k t_1.Event) fun v_23 =>
      some (.inr v_23)
     else
      lt1 ((t_1.Kind == (3 : Int))) fun v_24 =>
      if v_24 = true then
       Option.bind (subL (Vector.toList t_1.Past) (0 : Int) (16 : Int)) fun v_25 =>
       Option.bind (Za4 k v_25) fun v_26 =>
       lt1 ((!v_26)) fun v_27 =>
       some (.inr v_27)
      else
       lt1 ((t_1.Kind == (4 : Int))) fun v_28 =>
       if v_28 = true then
        Option.bind (
         Option.bind (Zbi (fun s => frame_May.b1 k t_1 s) k (0 : Int)) fun t => match t with
         | (.inl _) =>
          some (.inl ())
         | (.inr q) =>
          some (.inr q)
         : Option ((Unit) ⊕ ((Bool)))) fun t => match t with
        | (.inl _) =>
         Option.bind (
          lt1 (decide ((List.length t_1.Live : Int) ≤ (1024 : Int))) fun v_45 =>
          Option.bind (if v_45 = true then Zef k t_1 else some default) fun v_46 =>
          lt1 (bif v_45 then v_46 else false) fun v_47 =>
          some v_47
         ) fun x_48 =>
          some (.inr x_48)
        | (.inr q) =>
         some (.inr q)
       else
        lt1 ((t_1.Kind == (5 : Int))) fun v_49 =>
        if v_49 = true then
         some (.inr true)
        else
         lt1 ((t_1.Kind == (6 : Int))) fun v_50 =>
         if v_50 = true then
          lt1 (((List.length t_1.Leaves : Int) == (64 : Int))) fun v_51 =>
          some (.inr v_51)
         else
          lt1 ((t_1.Kind == (7 : Int))) fun v_52 =>
          if v_52 = true then
           Option.bind (
            Option.bind (Zbi (fun s => frame_May.b2 k t_1 s) k (0 : Int)) fun t => match t with
            | (.inl _) =>
             some (.inl ())
            | (.inr q) =>
             some (.inr q)
            : Option ((Unit) ⊕ ((Bool)))) fun t => match t with
           | (.inl _) =>
            Option.bind (
             Option.bind (Zbi (fun s => frame_May.b3 k t_1 s) k (0 : Int)) fun t => match t with
             | (.inl _) =>
              some (.inl ())
             | (.inr q) =>
              some (.inr q)
             : Option ((Unit) ⊕ ((Bool)))) fun t => match t with
            | (.inl _) =>
             Option.bind (
              lt1 (decide ((List.length t_1.Buckets : Int) > (0 : Int))) fun v_82 =>
              Option.bind (if v_82 = true then ZdL k t_1 else some default) fun v_83 =>
              lt1 (bif v_82 then v_83 else false) fun v_84 =>
              Option.bind (if v_84 = true then Zef k t_1 else some default) fun v_85 =>
              lt1 (bif v_84 then v_85 else false) fun v_86 =>
              some v_86
             ) fun x_87 =>
              some (.inr x_87)
            | (.inr q) =>
             some (.inr q)
           | (.inr q) =>
            some (.inr q)
          else
           some (.inl ())
    : Option ((Unit) ⊕ ((Bool)))) fun t => match t with
   | (.inl _) =>
    some false
   | (.inr q) =>
    some q

def Zey (k : Nat) : Option (((List (Int × Zal)))) :=
 lt1 (mput (1 : Int) (Zal.mk (some 92 : Option Nat) (some 93 : Option Nat)) ([] : (List (Int × Zal)))) fun x_2 =>
 lt1 (mput (2 : Int) (Zal.mk (some 94 : Option Nat) (some 95 : Option Nat)) x_2) fun x_3 =>
 lt1 (mput (3 : Int) (Zal.mk (some 96 : Option Nat) (some 97 : Option Nat)) x_3) fun x_4 =>
 lt1 (mput (4 : Int) (Zal.mk (some 98 : Option Nat) (some 99 : Option Nat)) x_4) fun x_5 =>
 lt1 (mput (5 : Int) (Zal.mk (some 100 : Option Nat) (some 101 : Option Nat)) x_5) fun x_6 =>
 lt1 (mput (6 : Int) (Zal.mk (some 102 : Option Nat) (some 103 : Option Nat)) x_6) fun x_7 =>
 lt1 (mput (7 : Int) (Zal.mk (some 104 : Option Nat) (some 105 : Option Nat)) x_7) fun x_8 =>
 some x_8

def wire_Put.b1 (k : Nat) (size_2 : Int) (n_1 : UInt64) (b_13 : (List UInt8)) (x_14 : Int) : Option (((List UInt8) × Int) ⊕ (((List UInt8)))) :=
 lt1 (decide (x_14 < size_2)) fun v_17 =>
 if v_17 = true then
  lt1 (w64 (size_2 - (1 : Int))) fun v_18 =>
  lt1 (w64 (v_18 - x_14)) fun v_19 =>
  lt1 (w64 ((8 : Int) * v_19)) fun v_20 =>
  Option.bind (shrU n_1 v_20) fun v_21 =>
  lt1 ((UN.to v_21 : UInt8)) fun v_22 =>
  Option.bind (apL 1 b_13 ([v_22] : (List UInt8))) fun b_23 =>
  lt1 (w64 (x_14 + (1 : Int))) fun v_26 =>
  some (.inl (b_23, v_26))
 else
  some (.inr b_13)

def wire_Put (k : Nat) (n_1 : UInt64) (size_2 : Int) : Option (((List UInt8) × Int)) :=
 Option.bind (
  lt1 (decide (size_2 < (1 : Int))) fun v_3 =>
  lt1 (decide (size_2 > (8 : Int))) fun v_4 =>
  lt1 (bif v_3 then true else v_4) fun v_5 =>
  lt1 (decide (size_2 < (8 : Int))) fun v_6 =>
  lt1 (w64 ((8 : Int) * size_2)) fun v_7 =>
  Option.bind (if ((!v_5) && v_6) = true then shrU n_1 v_7 else some default) fun v_8 =>
  lt1 ((!(v_8 == (0 : UInt64)))) fun v_9 =>
  lt1 (bif v_6 then v_9 else false) fun v_10 =>
  lt1 (bif v_5 then true else v_10) fun v_11 =>
  some v_11
 ) fun x_12 =>
  if x_12 = true then
   some (([] : (List UInt8)), (2 : Int))
  else
   Option.bind (
    Zbi (fun s => wire_Put.b1 k size_2 n_1 s.1 s.2) k (([] : (List UInt8)), (0 : Int))
   ) fun b_27 =>
    some (b_27, (0 : Int))

def ZaO (k : Nat) (b_1 : (List UInt8)) (v_2 : Int) (x_4 : (List UInt8)) : Option (((List UInt8))) :=
 Option.bind (apL 1 x_4 b_1) fun x_7 =>
 some x_7

def Zea (k : Nat) (d_1 : Zaf) : Option (((List UInt8) × Int)) :=
 Option.bind (
  lt1 (decide (d_1.Region < (0 : Int))) fun v_3 =>
  lt1 (decide (d_1.Region > (255 : Int))) fun v_4 =>
  lt1 (bif v_3 then true else v_4) fun v_5 =>
  some v_5
 ) fun x_6 =>
  if x_6 = true then
   some (([] : (List UInt8)), (2 : Int))
  else
   Option.bind (wire_Put k d_1.Count (8 : Int)) fun (v_7, v_8) =>
   lt1 ((UN.ofI d_1.Region : UInt8)) fun v_11 =>
   Option.bind (apL 1 ([v_11] : (List UInt8)) v_7) fun x_13 =>
   some (x_13, (0 : Int))

def ZbB (k : Nat) (is_1 : Bool) (x_3 : (List UInt8)) : Option (((List UInt8))) :=
 Option.bind (
  if is_1 = true then
   some (1 : UInt8)
  else
   some (0 : UInt8)
 ) fun b_6 =>
  Option.bind (apL 1 x_3 ([b_6] : (List UInt8))) fun x_7 =>
  some x_7

def Zda (k : Nat) (b_1 : (List UInt8)) : Option (((List UInt8) × Int)) :=
 lt1 (decide ((List.length b_1 : Int) > (65535 : Int))) fun v_2 =>
 if v_2 = true then
  some (([] : (List UInt8)), (3 : Int))
 else
  lt1 ((UN.ofI (List.length b_1 : Int) : UInt64)) fun v_3 =>
  Option.bind (wire_Put k v_3 (2 : Int)) fun (v_4, v_5) =>
  Option.bind (apL 1 v_4 b_1) fun n_8 =>
  some (n_8, (0 : Int))

def frame_writer_items'3.b1 (k : Nat) (l_1 : (List Zap)) (b_14 : (List UInt8)) (x_15 : Int) : Option (((List UInt8) × Int) ⊕ (((List UInt8)))) :=
 lt1 (decide (x_15 < (List.length l_1 : Int))) fun v_18 =>
 if v_18 = true then
  Option.bind (
   Option.bind (idxL l_1 x_15) fun v_19 =>
   Option.bind (Zea k v_19.Dot) fun (v_21, v_22) =>
   Option.bind (ZaO k v_21 v_22 b_14) fun x_25 =>
   Option.bind (ZbB k v_19.Gone x_25) fun x_28 =>
   lt1 ((!v_19.Gone)) fun v_31 =>
   if v_31 = true then
    Option.bind (Zda k v_19.Key.Topic) fun (v_32, v_33) =>
    Option.bind (ZaO k v_32 v_33 x_28) fun x_36 =>
    Option.bind (Zda k v_19.Key.Device) fun (v_39, v_40) =>
    Option.bind (ZaO k v_39 v_40 x_36) fun x_43 =>
    some x_43
   else
    some x_28
  ) fun b_46 =>
   lt1 (w64 (x_15 + (1 : Int))) fun v_49 =>
   some (.inl (b_46, v_49))
 else
  some (.inr b_14)

def frame_writer_items'3 (k : Nat) (l_1 : (List Zap)) (x_3 : (List UInt8)) : Option (((List UInt8))) :=
 lt1 ((UN.ofI (List.length l_1 : Int) : UInt64)) fun v_6 =>
 Option.bind (wire_Put k v_6 (2 : Int)) fun (v_7, v_8) =>
 Option.bind (ZaO k v_7 v_8 x_3) fun x_11 =>
 Zbi (fun s => frame_writer_items'3.b1 k l_1 s.1 s.2) k (x_11, (0 : Int))

def Zci (k : Nat) (f_1 : Zah) (x_3 : (List UInt8)) : Option (((List UInt8))) :=
 Option.bind (frame_writer_items'3 k f_1.Items x_3) fun x_7 =>
 some x_7

def Zeb (k : Nat) (x_1 : (List UInt8)) (v_2 : Int) : Option (((List UInt8))) :=
 Option.bind (apL 1 ([] : (List UInt8)) x_1) fun v_4 =>
 some v_4

def Zbu (k : Nat) (x_1 : (List UInt8)) (v_2 : Int) (x_4 : (List UInt8)) : Option (((List UInt8))) :=
 Option.bind (apL 1 x_4 x_1) fun x_7 =>
 some x_7

def wire_Vector.b1 (k : Nat) (v_1 : (Vector UInt64 16)) (b_3 : (List UInt8)) (x_4 : Int) : Option (((List UInt8) × Int) ⊕ (((List UInt8)))) :=
 lt1 (decide (x_4 < (16 : Int))) fun v_7 =>
 if v_7 = true then
  Option.bind (idxV v_1 x_4) fun v_8 =>
  Option.bind (wire_Put k v_8 (8 : Int)) fun (v_9, v_10) =>
  Option.bind (apL 1 b_3 v_9) fun b_13 =>
  lt1 (w64 (x_4 + (1 : Int))) fun v_16 =>
  some (.inl (b_13, v_16))
 else
  some (.inr b_3)

def wire_Vector (k : Nat) (v_1 : (Vector UInt64 16)) : Option (((List UInt8))) :=
 Option.bind (
  Zbi (fun s => wire_Vector.b1 k v_1 s.1 s.2) k (([] : (List UInt8)), (0 : Int))
 ) fun b_17 =>
  some b_17

def event_bytes.b1 (k : Nat) (t_1 : Zar) (x_39 : (List UInt8)) (x_40 : Int) : Option (((List UInt8) × Int) ⊕ (((List UInt8)))) :=
 lt1 (decide (x_40 < (List.length t_1.To : Int))) fun v_43 =>
 if v_43 = true then
  Option.bind (idxL t_1.To x_40) fun v_44 =>
  Option.bind (Zea k v_44.Dot) fun (v_46, v_47) =>
  Option.bind (Zbu k v_46 v_47 x_39) fun x_50 =>
  Option.bind (Zda k v_44.Device) fun (v_53, v_54) =>
  Option.bind (Zbu k v_53 v_54 x_50) fun x_57 =>
  lt1 (w64 (x_40 + (1 : Int))) fun v_60 =>
  some (.inl (x_57, v_60))
 else
  some (.inr x_39)

def event_bytes (k : Nat) (t_1 : Zar) : Option (((List UInt8))) :=
 Option.bind (Zea k t_1.ID) fun (v_4, v_5) =>
 Option.bind (Zeb k v_4 v_5) fun x_8 =>
 Option.bind (Zda k t_1.Topic) fun (v_11, v_12) =>
 Option.bind (Zbu k v_11 v_12 x_8) fun x_15 =>
 Option.bind (Zda k t_1.Payload) fun (v_18, v_19) =>
 Option.bind (Zbu k v_18 v_19 x_15) fun x_22 =>
 Option.bind (wire_Vector k t_1.Past) fun v_25 =>
 Option.bind (Zbu k v_25 (0 : Int) x_22) fun x_28 =>
 lt1 ((UN.ofI (List.length t_1.To : Int) : UInt64)) fun v_31 =>
 Option.bind (wire_Put k v_31 (2 : Int)) fun (v_32, v_33) =>
 Option.bind (Zbu k v_32 v_33 x_28) fun x_36 =>
 Option.bind (
  Zbi (fun s => event_bytes.b1 k t_1 s.1 s.2) k (x_36, (0 : Int))
 ) fun x_61 =>
  some x_61

def Zfp (k : Nat) (e_1 : Zar) : Option (((List UInt8) × Int)) :=
 Option.bind (event_May k e_1) fun v_3 =>
 lt1 ((!v_3)) fun v_4 =>
 if v_4 = true then
  some (([] : (List UInt8)), (2 : Int))
 else
  Option.bind (event_bytes k e_1) fun v_5 =>
  some (v_5, (0 : Int))

def Zcd (k : Nat) (f_1 : Zah) (x_3 : (List UInt8)) : Option (((List UInt8))) :=
 Option.bind (Zfp k f_1.Event) fun (v_7, v_8) =>
 lt1 ((UN.ofI (List.length v_7 : Int) : UInt64)) fun v_11 =>
 Option.bind (wire_Put k v_11 (4 : Int)) fun (v_12, v_13) =>
 Option.bind (ZaO k v_12 v_13 x_3) fun x_16 =>
 Option.bind (apL 1 x_16 v_7) fun x_19 =>
 some x_19

def ZcY (k : Nat) (f_1 : Zah) (x_3 : (List UInt8)) : Option (((List UInt8))) :=
 Option.bind (wire_Vector k f_1.Past) fun v_7 =>
 Option.bind (ZaO k v_7 (0 : Int) x_3) fun x_10 =>
 some x_10

def frame_writer_dots.b1 (k : Nat) (l_1 : (List Zaf)) (b_14 : (List UInt8)) (x_15 : Int) : Option (((List UInt8) × Int) ⊕ (((List UInt8)))) :=
 lt1 (decide (x_15 < (List.length l_1 : Int))) fun v_18 =>
 if v_18 = true then
  Option.bind (idxL l_1 x_15) fun v_19 =>
  Option.bind (Zea k v_19) fun (v_21, v_22) =>
  Option.bind (ZaO k v_21 v_22 b_14) fun x_25 =>
  lt1 (w64 (x_15 + (1 : Int))) fun v_28 =>
  some (.inl (x_25, v_28))
 else
  some (.inr b_14)

def frame_writer_dots (k : Nat) (l_1 : (List Zaf)) (x_3 : (List UInt8)) : Option (((List UInt8))) :=
 lt1 ((UN.ofI (List.length l_1 : Int) : UInt64)) fun v_6 =>
 Option.bind (wire_Put k v_6 (2 : Int)) fun (v_7, v_8) =>
 Option.bind (ZaO k v_7 v_8 x_3) fun x_11 =>
 Zbi (fun s => frame_writer_dots.b1 k l_1 s.1 s.2) k (x_11, (0 : Int))

def ZbW (k : Nat) (f_1 : Zah) (x_3 : (List UInt8)) : Option (((List UInt8))) :=
 Option.bind (wire_Vector k f_1.Seen) fun v_7 =>
 Option.bind (ZaO k v_7 (0 : Int) x_3) fun x_10 =>
 Option.bind (frame_writer_dots k f_1.Extra x_10) fun x_13 =>
 some x_13

def ZcH (k : Nat) (f_1 : Zah) (x_3 : (List UInt8)) : Option (((List UInt8))) :=
 Option.bind (ZbW k f_1 x_3) fun x_7 =>
 Option.bind (frame_writer_dots k f_1.Live x_7) fun x_10 =>
 some x_10

def ZcW (k : Nat) (f_1 : Zah) (x_3 : (List UInt8)) : Option (((List UInt8))) :=
 Option.bind (subL (Vector.toList f_1.Hash) (0 : Int) (32 : Int)) fun v_7 =>
 Option.bind (apL 1 x_3 v_7) fun x_8 =>
 some x_8

def frame_writer_leaves.b1 (k : Nat) (f_1 : Zah) (b_7 : (List UInt8)) (x_8 : Int) : Option (((List UInt8) × Int) ⊕ (((List UInt8)))) :=
 lt1 (decide (x_8 < (List.length f_1.Leaves : Int))) fun v_11 =>
 if v_11 = true then
  Option.bind (idxL f_1.Leaves x_8) fun v_12 =>
  Option.bind (subL (Vector.toList v_12) (0 : Int) (32 : Int)) fun v_14 =>
  Option.bind (apL 1 b_7 v_14) fun x_15 =>
  lt1 (w64 (x_8 + (1 : Int))) fun v_18 =>
  some (.inl (x_15, v_18))
 else
  some (.inr b_7)

def frame_writer_leaves (k : Nat) (f_1 : Zah) (x_3 : (List UInt8)) : Option (((List UInt8))) :=
 Zbi (fun s => frame_writer_leaves.b1 k f_1 s.1 s.2) k (x_3, (0 : Int))

def frame_writer_buckets.b1 (k : Nat) (f_1 : Zah) (b_11 : (List UInt8)) (x_12 : Int) : Option (((List UInt8) × Int) ⊕ (((List UInt8)))) :=
 lt1 (decide (x_12 < (List.length f_1.Buckets : Int))) fun v_15 =>
 if v_15 = true then
  Option.bind (idxL f_1.Buckets x_12) fun v_16 =>
  lt1 ((UN.ofI v_16 : UInt8)) fun v_17 =>
  Option.bind (apL 1 b_11 ([v_17] : (List UInt8))) fun x_18 =>
  lt1 (w64 (x_12 + (1 : Int))) fun v_21 =>
  some (.inl (x_18, v_21))
 else
  some (.inr b_11)

def frame_writer_buckets (k : Nat) (f_1 : Zah) (x_3 : (List UInt8)) : Option (((List UInt8))) :=
 lt1 ((UN.ofI (List.length f_1.Buckets : Int) : UInt8)) fun v_7 =>
 Option.bind (apL 1 x_3 ([v_7] : (List UInt8))) fun x_8 =>
 Option.bind (
  Zbi (fun s => frame_writer_buckets.b1 k f_1 s.1 s.2) k (x_8, (0 : Int))
 ) fun b_22 =>
  Option.bind (frame_writer_items'3 k f_1.Items b_22) fun x_25 =>
  Option.bind (ZbW k f_1 x_25) fun x_28 =>
  Option.bind (ZbB k f_1.Reply x_28) fun x_31 =>
  some x_31

def crc_fours.b2 (k : Nat) (x_5 : UInt32) (x_6 : Int) : Option ((UInt32 × Int) ⊕ ((UInt32))) :=
 lt1 (decide (x_6 < (4 : Int))) fun v_7 =>
 if v_7 = true then
  Option.bind (
   lt1 ((x_5 &&& (1 : UInt32))) fun v_8 =>
   lt1 ((v_8 == (1 : UInt32))) fun v_9 =>
   if v_9 = true then
    lt1 (UN.shr x_5 (UN.toN (1 : UInt64))) fun v_10 =>
    lt1 ((v_10 ^^^ (2197175160 : UInt32))) fun v_11 =>
    some v_11
   else
    lt1 (UN.shr x_5 (UN.toN (1 : UInt64))) fun v_12 =>
    some v_12
  ) fun x_13 =>
   lt1 (w64 (x_6 + (1 : Int))) fun v_14 =>
   some (.inl (x_13, v_14))
 else
  some (.inr x_5)

def crc_fours.b1 (k : Nat) (f_2 : (Vector UInt32 16)) (x_3 : UInt32) : Option (((Vector UInt32 16) × UInt32) ⊕ (((Vector UInt32 16)))) :=
 lt1 (decide (x_3 < (16 : UInt32))) fun v_4 =>
 if v_4 = true then
  Option.bind (
   Option.bind (
    Zbi (fun s => crc_fours.b2 k s.1 s.2) k (x_3, (0 : Int))
   ) fun x_15 =>
    Option.bind (inN 16 (UN.toN x_3)) fun i_16 =>
    lt1 ((putV f_2 i_16 x_15)) fun f_17 =>
    some f_17
  ) fun f_18 =>
   lt1 ((x_3 + (1 : UInt32))) fun v_19 =>
   some (.inl (f_18, v_19))
 else
  some (.inr f_2)

def crc_fours (k : Nat) : Option (((Vector UInt32 16))) :=
 Option.bind (
  Zbi (fun s => crc_fours.b1 k s.1 s.2) k ((Vector.replicate 16 (0 : UInt32)), (0 : UInt32))
 ) fun f_20 =>
  some f_20

def crc_sum.b1 (k : Nat) (b_2 : (List UInt8)) (v_3 : (Vector UInt32 16)) (x_6 : UInt32) (x_7 : Int) : Option ((UInt32 × Int) ⊕ ((UInt32))) :=
 lt1 (decide (x_7 < (List.length b_2 : Int))) fun v_8 =>
 if v_8 = true then
  Option.bind (idxL b_2 x_7) fun v_9 =>
  lt1 ((UN.to v_9 : UInt32)) fun v_10 =>
  lt1 ((x_6 ^^^ v_10)) fun v_11 =>
  lt1 ((v_11 &&& (15 : UInt32))) fun v_12 =>
  Option.bind (inN 16 (UN.toN v_12)) fun i_13 =>
  lt1 ((getV v_3 i_13)) fun v_14 =>
  lt1 (UN.shr v_11 (UN.toN (4 : UInt64))) fun v_15 =>
  lt1 ((v_14 ^^^ v_15)) fun v_16 =>
  lt1 ((v_16 &&& (15 : UInt32))) fun v_17 =>
  Option.bind (inN 16 (UN.toN v_17)) fun i_18 =>
  lt1 ((getV v_3 i_18)) fun v_19 =>
  lt1 (UN.shr v_16 (UN.toN (4 : UInt64))) fun v_20 =>
  lt1 ((v_19 ^^^ v_20)) fun v_21 =>
  lt1 (w64 (x_7 + (1 : Int))) fun v_22 =>
  some (.inl (v_21, v_22))
 else
  some (.inr x_6)

def crc_sum (k : Nat) (was_1 : UInt32) (b_2 : (List UInt8)) : Option ((UInt32)) :=
 Option.bind (crc_fours k) fun v_3 =>
 lt1 ((UN.not was_1)) fun v_4 =>
 Option.bind (
  Zbi (fun s => crc_sum.b1 k b_2 v_3 s.1 s.2) k (v_4, (0 : Int))
 ) fun x_23 =>
  lt1 ((UN.not x_23)) fun v_24 =>
  some v_24

def crc_Sum.b1 (k : Nat) (l_1 : (List (List UInt8))) (s_2 : UInt32) (x_3 : Int) : Option ((UInt32 × Int) ⊕ ((UInt32))) :=
 lt1 (decide (x_3 < (List.length l_1 : Int))) fun v_4 =>
 if v_4 = true then
  Option.bind (idxL l_1 x_3) fun v_5 =>
  Option.bind (crc_sum k s_2 v_5) fun v_6 =>
  lt1 (w64 (x_3 + (1 : Int))) fun v_7 =>
  some (.inl (v_6, v_7))
 else
  some (.inr s_2)

def crc_Sum (k : Nat) (l_1 : (List (List UInt8))) : Option ((UInt32)) :=
 Option.bind (
  Zbi (fun s => crc_Sum.b1 k l_1 s.1 s.2) k ((0 : UInt32), (0 : Int))
 ) fun s_8 =>
  some s_8

def ZbC (k : Nat) (b_1 : (List UInt8)) (v_2 : Int) (x_4 : (List UInt8)) : Option (((List UInt8))) :=
 Option.bind (apL 1 x_4 b_1) fun x_7 =>
 some x_7

def Zct (k : Nat) (f_1 : Zah) : Option (((List UInt8))) :=
 lt1 ((UN.ofI f_1.Kind : UInt8)) fun v_3 =>
 lt1 ((UN.ofI f_1.From : UInt8)) fun v_4 =>
 lt1 ((UN.ofI f_1.To : UInt8)) fun v_5 =>
 Option.bind (
  Option.bind (Zey k) fun v_8 =>
  lt1 (Option.getD (ZeB (some (v_8)) f_1.Kind) (Zal.mk (none : Option Nat) (none : Option Nat))) fun v_10 =>
  Option.bind (if v_10.write = some 92 then Zci k f_1 ([v_3, v_4, v_5] : (List UInt8)) else if v_10.write = some 94 then Zcd k f_1 ([v_3, v_4, v_5] : (List UInt8)) else if v_10.write = some 96 then ZcY k f_1 ([v_3, v_4, v_5] : (List UInt8)) else if v_10.write = some 98 then ZcH k f_1 ([v_3, v_4, v_5] : (List UInt8)) else if v_10.write = some 100 then ZcW k f_1 ([v_3, v_4, v_5] : (List UInt8)) else if v_10.write = some 102 then frame_writer_leaves k f_1 ([v_3, v_4, v_5] : (List UInt8)) else if v_10.write = some 104 then frame_writer_buckets k f_1 ([v_3, v_4, v_5] : (List UInt8)) else none) fun x_11 =>
  some x_11
 ) fun b_14 =>
  Option.bind (crc_Sum k ([b_14] : (List (List UInt8)))) fun v_17 =>
  lt1 ((UN.to v_17 : UInt64)) fun v_18 =>
  Option.bind (wire_Put k v_18 (4 : Int)) fun (v_19, v_20) =>
  Option.bind (ZbC k v_19 v_20 b_14) fun x_23 =>
  some x_23

def Zcr (k : Nat) (f_1 : Zah) : Option (((List UInt8) × Int)) :=
 Option.bind (frame_May k f_1) fun v_3 =>
 lt1 ((!v_3)) fun v_4 =>
 if v_4 = true then
  some (([] : (List UInt8)), (2 : Int))
 else
  Option.bind (Zct k f_1) fun v_5 =>
  some (v_5, (0 : Int))

def ZbN (k : Nat) (s_1 : (List UInt8)) : Option (((List UInt8))) :=
 Option.bind (apL 1 ([] : (List UInt8)) s_1) fun x_3 =>
 some x_3

def Zcw (k : Nat) (b_1 : (List UInt8)) : Option (((List UInt8))) :=
 Option.bind (ZbN k b_1) fun v_2 =>
 some v_2

def Zce (k : Nat) (is_1 : Bool) (made_2 : Bool) (x_4 : (List UInt8)) : Option ((Bool)) :=
 Option.bind (
  lt1 ((!is_1)) fun v_7 =>
  some v_7
 ) fun x_8 =>
  some x_8

def ZbG (k : Nat) (n_1 : Int) (is_2 : Bool) (made_3 : Bool) (x_5 : (List UInt8)) : Option (((List UInt8) × Bool × (List UInt8) × Bool × Bool)) :=
 Option.bind (Zce k is_2 made_3 x_5) fun v_8 =>
 if v_8 = true then
  some (([] : (List UInt8)), false, x_5, is_2, made_3)
 else
  Option.bind (
   lt1 (decide (n_1 < (0 : Int))) fun v_9 =>
   if v_9 = true then
    some true
   else
    lt1 (decide (n_1 > (List.length x_5 : Int))) fun v_10 =>
    some v_10
  ) fun x_11 =>
   if x_11 = true then
    some (([] : (List UInt8)), false, ([] : (List UInt8)), false, true)
   else
    Option.bind (subL x_5 (0) n_1) fun v_12 =>
    Option.bind (subL x_5 n_1 (List.length x_5 : Int)) fun v_13 =>
    some (v_12, true, v_13, is_2, made_3)

def wire_Get.b1 (k : Nat) (b_1 : (List UInt8)) (n_6 : UInt64) (x_7 : Int) : Option ((UInt64 × Int) ⊕ ((UInt64))) :=
 lt1 (decide (x_7 < (List.length b_1 : Int))) fun v_8 =>
 if v_8 = true then
  Option.bind (idxL b_1 x_7) fun v_9 =>
  lt1 (UN.shl n_6 (UN.toN (8 : UInt64))) fun v_10 =>
  lt1 ((UN.to v_9 : UInt64)) fun v_11 =>
  lt1 ((v_10 ||| v_11)) fun v_12 =>
  lt1 (w64 (x_7 + (1 : Int))) fun v_13 =>
  some (.inl (v_12, v_13))
 else
  some (.inr n_6)

def wire_Get (k : Nat) (b_1 : (List UInt8)) : Option ((UInt64 × Int)) :=
 Option.bind (
  lt1 (decide ((List.length b_1 : Int) < (1 : Int))) fun v_2 =>
  lt1 (decide ((List.length b_1 : Int) > (8 : Int))) fun v_3 =>
  lt1 (bif v_2 then true else v_3) fun v_4 =>
  some v_4
 ) fun x_5 =>
  if x_5 = true then
   some ((0 : UInt64), (2 : Int))
  else
   Option.bind (
    Zbi (fun s => wire_Get.b1 k b_1 s.1 s.2) k ((0 : UInt64), (0 : Int))
   ) fun n_14 =>
    some (n_14, (0 : Int))

def Zbb (k : Nat) (size_1 : Int) (is_2 : Bool) (made_3 : Bool) (x_5 : (List UInt8)) : Option ((UInt64 × Zag)) :=
 Option.bind (
  Option.bind (
   lt1 (decide (size_1 < (1 : Int))) fun v_8 =>
   lt1 (decide (size_1 > (8 : Int))) fun v_9 =>
   lt1 (bif v_8 then true else v_9) fun v_10 =>
   some v_10
  ) fun x_11 =>
   if x_11 = true then
    some (-1 : Int)
   else
    some size_1
 ) fun size_12 =>
  Option.bind (ZbG k size_12 is_2 made_3 x_5) fun (v_13, v_14, x_15, x_16, x_17) =>
  Option.bind (wire_Get k v_13) fun (v_18, v_19) =>
  some (v_18, (Zag.mk x_15 x_16 x_17))

def ZaU (k : Nat) (r_1 : Zag) : Option ((Bool)) :=
 Option.bind (
  lt1 ((!r_1.is)) fun v_3 =>
  some v_3
 ) fun x_4 =>
  some x_4

def Zba (k : Nat) (n_1 : Int) (r_2 : Zag) : Option (((List UInt8) × Bool × Zag)) :=
 Option.bind (ZaU k r_2) fun v_4 =>
 if v_4 = true then
  some (([] : (List UInt8)), false, r_2)
 else
  Option.bind (
   lt1 (decide (n_1 < (0 : Int))) fun v_5 =>
   lt1 (decide (n_1 > (List.length r_2.rest : Int))) fun v_6 =>
   lt1 (bif v_5 then true else v_6) fun v_7 =>
   some v_7
  ) fun x_8 =>
   if x_8 = true then
    some (([] : (List UInt8)), false, (Zag.mk ([] : (List UInt8)) false true))
   else
    Option.bind (subL r_2.rest (0) n_1) fun v_9 =>
    Option.bind (subL r_2.rest n_1 (List.length r_2.rest : Int)) fun v_10 =>
    lt1 ({ r_2 with rest := v_10 }) fun x_11 =>
    some (v_9, true, x_11)

def ZaB (k : Nat) (size_1 : Int) (r_2 : Zag) : Option ((UInt64 × Zag)) :=
 Option.bind (
  Option.bind (
   lt1 (decide (size_1 < (1 : Int))) fun v_4 =>
   lt1 (decide (size_1 > (8 : Int))) fun v_5 =>
   lt1 (bif v_4 then true else v_5) fun v_6 =>
   some v_6
  ) fun x_7 =>
   if x_7 = true then
    some (-1 : Int)
   else
    some size_1
 ) fun size_8 =>
  Option.bind (Zba k size_8 r_2) fun (v_9, v_10, x_11) =>
  Option.bind (wire_Get k v_9) fun (v_12, v_13) =>
  some (v_12, x_11)

def ZbP (k : Nat) (Kind_1 : Int) (From_2 : Int) (To_3 : Int) (ID_4 : Zaf) (Topic_5 : (List UInt8)) (Past_6 : (Vector UInt64 16)) (Past_7 : (Vector UInt64 16)) (Seen_8 : (Vector UInt64 16)) (Hash_9 : (Vector UInt8 32)) (Reply_10 : Bool) (x_12 : Zag) : Option ((Int × Zag)) :=
 Option.bind (ZaB k (2 : Int) x_12) fun (v_14, x_15) =>
 lt1 (w64 (UN.toN v_14 : Int)) fun v_16 =>
 some (v_16, x_15)

def ZbM (k : Nat) (r_1 : Zag) : Option ((Zaf × Zag)) :=
 Option.bind (Zba k (9 : Int) r_1) fun (v_4, v_5, x_6) =>
 Option.bind (Zcw k v_4) fun v_7 =>
 Option.bind (Zbb k (1 : Int) true true v_7) fun (v_11, x_12) =>
 lt1 (w64 (UN.toN v_11 : Int)) fun v_13 =>
 Option.bind (ZaB k (8 : Int) x_12) fun (v_14, x_15) =>
 some ((Zaf.mk v_13 v_14), x_6)

def ZbJ (k : Nat) (n_1 : Int) (r_2 : Zag) : Option (((List UInt8) × Zag)) :=
 Option.bind (Zba k n_1 r_2) fun (v_4, v_5, x_6) =>
 some (v_4, x_6)

def Zbw (k : Nat) (r_1 : Zag) : Option (((List UInt8) × Zag)) :=
 Option.bind (ZaB k (2 : Int) r_1) fun (v_3, x_4) =>
 lt1 (w64 (UN.toN v_3 : Int)) fun v_5 =>
 Option.bind (ZbJ k v_5 x_4) fun (v_6, x_7) =>
 some (v_6, x_7)

def ZdI (k : Nat) (Kind_1 : Int) (From_2 : Int) (To_3 : Int) (ID_4 : Zaf) (Topic_5 : (List UInt8)) (Past_6 : (Vector UInt64 16)) (Past_7 : (Vector UInt64 16)) (Seen_8 : (Vector UInt64 16)) (Hash_9 : (Vector UInt8 32)) (Reply_10 : Bool) (x_12 : Zag) : Option ((Zap × Zag)) :=
 Option.bind (ZbM k x_12) fun (v_15, x_16) =>
 Option.bind (ZaB k (1 : Int) x_16) fun (v_17, x_18) =>
 lt1 ((!(v_17 == (0 : UInt64)))) fun v_19 =>
 Option.bind (
  lt1 ((!v_19)) fun v_21 =>
  if v_21 = true then
   Option.bind (Zbw k x_18) fun (v_22, x_23) =>
   Option.bind (Zbw k x_23) fun (v_24, x_25) =>
   some ((Zap.mk v_15 (Zbq.mk v_22 v_24) v_19), x_25)
  else
   some ((Zap.mk v_15 ((Zap.mk (Zaf.mk (0 : Int) (0 : UInt64)) (Zbq.mk ([] : (List UInt8)) ([] : (List UInt8))) false).Key) v_19), x_18)
 ) fun (i_26, x_27) =>
  some (i_26, x_27)

def frame_listapi_Item.b1 (k : Nat) (n_1 : Int) (Kind_4 : Int) (From_5 : Int) (To_6 : Int) (ID_7 : Zaf) (Topic_8 : (List UInt8)) (Past_9 : (Vector UInt64 16)) (Past_10 : (Vector UInt64 16)) (Seen_11 : (Vector UInt64 16)) (Hash_12 : (Vector UInt8 32)) (Reply_13 : Bool) (r_15 : Zag) (l_16 : (List Zap)) (x_17 : Int) : Option ((Zag × (List Zap) × Int) ⊕ (((List Zap) × Zag) ⊕ (((List Zap) × Zag)))) :=
 lt1 (decide (x_17 < n_1)) fun v_20 =>
 if v_20 = true then
  Option.bind (ZaU k r_15) fun v_21 =>
  if v_21 = true then
   some (.inr (.inr (([] : (List Zap)), r_15)))
  else
   Option.bind (ZdI k Kind_4 From_5 To_6 ID_7 Topic_8 Past_9 Past_10 Seen_11 Hash_12 Reply_13 r_15) fun (v_22, x_23) =>
   Option.bind (apL 56 l_16 ([v_22] : (List Zap))) fun l_24 =>
   lt1 (w64 (x_17 + (1 : Int))) fun v_27 =>
   some (.inl (x_23, l_24, v_27))
 else
  some (.inr (.inl (l_16, r_15)))

def frame_listapi_Item (k : Nat) (n_1 : Int) (r_2 : Zag) (Kind_4 : Int) (From_5 : Int) (To_6 : Int) (ID_7 : Zaf) (Topic_8 : (List UInt8)) (Past_9 : (Vector UInt64 16)) (Past_10 : (Vector UInt64 16)) (Seen_11 : (Vector UInt64 16)) (Hash_12 : (Vector UInt8 32)) (Reply_13 : Bool) : Option (((List Zap) × Zag)) :=
 Option.bind (
  Option.bind (Zbi (fun s => frame_listapi_Item.b1 k n_1 Kind_4 From_5 To_6 ID_7 Topic_8 Past_9 Past_10 Seen_11 Hash_12 Reply_13 s.1 s.2.1 s.2.2) k (r_2, ([] : (List Zap)), (0 : Int))) fun t => match t with
  | (.inl (l_28, x_29)) =>
   some (.inl (l_28, x_29))
  | (.inr q) =>
   some (.inr q)
  : Option (((List Zap) × Zag) ⊕ (((List Zap) × Zag)))) fun t => match t with
 | (.inl (l_32, x_33)) =>
  some (l_32, x_33)
 | (.inr q) =>
  some q

def ZdD (k : Nat) (Kind_1 : Int) (From_2 : Int) (To_3 : Int) (ID_4 : Zaf) (Topic_5 : (List UInt8)) (Past_6 : (Vector UInt64 16)) (Past_7 : (Vector UInt64 16)) (Seen_8 : (Vector UInt64 16)) (Hash_9 : (Vector UInt8 32)) (Reply_10 : Bool) (x_12 : Zag) : Option ((Zag × (List Zap))) :=
 Option.bind (ZbP k Kind_1 From_2 To_3 ID_4 Topic_5 Past_6 Past_7 Seen_8 Hash_9 Reply_10 x_12) fun (v_14, x_15) =>
 Option.bind (frame_listapi_Item k v_14 x_15 Kind_1 From_2 To_3 ID_4 Topic_5 Past_6 Past_7 Seen_8 Hash_9 Reply_10) fun (v_16, x_17) =>
 some (x_17, v_16)

def ZdN (k : Nat) (is_1 : Bool) (made_2 : Bool) (x_4 : (List UInt8)) : Option ((Zaf × Zag)) :=
 Option.bind (ZbG k (9 : Int) is_1 made_2 x_4) fun (v_8, v_9, x_10, x_11, x_12) =>
 Option.bind (Zcw k v_8) fun v_13 =>
 Option.bind (Zbb k (1 : Int) true true v_13) fun (v_17, x_18) =>
 lt1 (w64 (UN.toN v_17 : Int)) fun v_19 =>
 Option.bind (ZaB k (8 : Int) x_18) fun (v_20, x_21) =>
 some ((Zaf.mk v_19 v_20), (Zag.mk x_10 x_11 x_12))

def Zb1 (k : Nat) (x_2 : Zag) : Option ((UInt64 × Zag)) :=
 Option.bind (ZaB k (8 : Int) x_2) fun (v_4, x_5) =>
 some (v_4, x_5)

def wire_Reader_Vector.b1 (k : Nat) (v_12 : (Vector UInt64 16)) (x_13 : Zag) (x_14 : Int) : Option (((Vector UInt64 16) × Zag × Int) ⊕ (((Vector UInt64 16)))) :=
 lt1 (decide (x_14 < (16 : Int))) fun v_15 =>
 if v_15 = true then
  Option.bind (Zb1 k x_13) fun (v_16, x_17) =>
  Option.bind (inV 16 x_14) fun i_18 =>
  lt1 ((putV v_12 i_18 v_16)) fun v_19 =>
  lt1 (w64 (x_14 + (1 : Int))) fun v_20 =>
  some (.inl (v_19, x_17, v_20))
 else
  some (.inr v_12)

def wire_Reader_Vector (k : Nat) (r_1 : Zag) : Option (((Vector UInt64 16) × Zag)) :=
 Option.bind (Zba k (128 : Int) r_1) fun (v_4, v_5, x_6) =>
 Option.bind (Zcw k v_4) fun v_7 =>
 Option.bind (
  Zbi (fun s => wire_Reader_Vector.b1 k s.1 s.2.1 s.2.2) k ((Vector.replicate 16 (0 : UInt64)), (Zag.mk v_7 true true), (0 : Int))
 ) fun v_21 =>
  some (v_21, x_6)

def Zd3 (k : Nat) (r_1 : Zag) : Option ((Int)) :=
 Option.bind (ZaU k r_1) fun v_3 =>
 if v_3 = true then
  some (0 : Int)
 else
  some (List.length r_1.rest : Int)

def Zeq (k : Nat) (r_1 : Zag) : Option ((Int)) :=
 Option.bind (
  lt1 ((!r_1.made)) fun v_3 =>
  some v_3
 ) fun x_4 =>
  if x_4 = true then
   some (1 : Int)
  else
   Option.bind (
    Option.bind (ZaU k r_1) fun v_5 =>
    lt1 (decide ((List.length r_1.rest : Int) > (0 : Int))) fun v_6 =>
    lt1 (bif v_5 then true else v_6) fun v_7 =>
    some v_7
   ) fun x_8 =>
    if x_8 = true then
     some (4 : Int)
    else
     some (0 : Int)

def event_Of.b1 (k : Nat) (v_20 : Int) (r_21 : Zag) (To_22 : (List ZaA)) (x_23 : Int) : Option ((Zag × (List ZaA) × Int) ⊕ ((Zag × (List ZaA)))) :=
 lt1 (decide (x_23 < v_20)) fun v_26 =>
 if v_26 = true then
  Option.bind (ZbM k r_21) fun (v_27, x_28) =>
  Option.bind (Zbw k x_28) fun (v_29, x_30) =>
  Option.bind (apL 32 To_22 ([(ZaA.mk v_27 v_29)] : (List ZaA))) fun x_31 =>
  lt1 (w64 (x_23 + (1 : Int))) fun v_34 =>
  some (.inl (x_30, x_31, v_34))
 else
  some (.inr (r_21, To_22))

def event_Of (k : Nat) (b_1 : (List UInt8)) : Option ((Zar × Int)) :=
 Option.bind (Zcw k b_1) fun v_3 =>
 Option.bind (ZdN k true true v_3) fun (v_7, x_8) =>
 Option.bind (Zbw k x_8) fun (v_9, x_10) =>
 Option.bind (Zbw k x_10) fun (v_11, x_12) =>
 Option.bind (wire_Reader_Vector k x_12) fun (v_13, x_14) =>
 Option.bind (
  Option.bind (ZaB k (2 : Int) x_14) fun (v_16, x_17) =>
  lt1 (w64 (UN.toN v_16 : Int)) fun v_18 =>
  Option.bind (Zd3 k x_17) fun v_19 =>
  lt1 (minI v_18 v_19) fun v_20 =>
  Zbi (fun s => event_Of.b1 k v_20 s.1 s.2.1 s.2.2) k (x_17, ([] : (List ZaA)), (0 : Int))
 ) fun (r_35, To_36) =>
  Option.bind (
   Option.bind (Zeq k r_35) fun v_39 =>
   lt1 ((v_39 != (0 : Int))) fun v_40 =>
   if v_40 = true then
    some true
   else
    Option.bind (event_May k (Zar.mk v_7 v_9 v_11 v_13 To_36)) fun v_41 =>
    lt1 ((!v_41)) fun v_42 =>
    if v_42 = true then
     some true
    else
     Option.bind (event_bytes k (Zar.mk v_7 v_9 v_11 v_13 To_36)) fun v_43 =>
     Option.bind (slices_Equalbyte_byte k v_43 b_1) fun v_46 =>
     lt1 ((!v_46)) fun v_47 =>
     some v_47
  ) fun x_48 =>
   if x_48 = true then
    some ((Zar.mk (Zaf.mk (0 : Int) (0 : UInt64)) ([] : (List UInt8)) ([] : (List UInt8)) (Vector.replicate 16 (0 : UInt64)) ([] : (List ZaA))), (4 : Int))
   else
    some ((Zar.mk v_7 v_9 v_11 v_13 To_36), (0 : Int))

def Zdp (k : Nat) (Kind_1 : Int) (From_2 : Int) (To_3 : Int) (ID_4 : Zaf) (Topic_5 : (List UInt8)) (Past_6 : (Vector UInt64 16)) (Past_7 : (Vector UInt64 16)) (Seen_8 : (Vector UInt64 16)) (Hash_9 : (Vector UInt8 32)) (Reply_10 : Bool) (x_12 : Zag) : Option ((Zag × Zah)) :=
 Option.bind (ZaB k (4 : Int) x_12) fun (v_14, x_15) =>
 lt1 (w64 (UN.toN v_14 : Int)) fun v_16 =>
 Option.bind (ZbJ k v_16 x_15) fun (v_17, x_18) =>
 Option.bind (event_Of k v_17) fun (v_19, v_20) =>
 some (x_18, (Zah.mk Kind_1 From_2 To_3 ([] : (List Zap)) v_19 Past_7 Seen_8 ([] : (List Zaf)) ([] : (List Zaf)) Hash_9 ([] : (List (Vector UInt8 32))) ([] : (List Int)) Reply_10))

def ZcT (k : Nat) (Kind_1 : Int) (From_2 : Int) (To_3 : Int) (ID_4 : Zaf) (Topic_5 : (List UInt8)) (Past_6 : (Vector UInt64 16)) (Past_7 : (Vector UInt64 16)) (Seen_8 : (Vector UInt64 16)) (Hash_9 : (Vector UInt8 32)) (Reply_10 : Bool) (x_12 : Zag) : Option ((Zag × Zah)) :=
 Option.bind (wire_Reader_Vector k x_12) fun (v_14, x_15) =>
 some (x_15, (Zah.mk Kind_1 From_2 To_3 ([] : (List Zap)) (Zar.mk ID_4 Topic_5 ([] : (List UInt8)) Past_6 ([] : (List ZaA))) v_14 Seen_8 ([] : (List Zaf)) ([] : (List Zaf)) Hash_9 ([] : (List (Vector UInt8 32))) ([] : (List Int)) Reply_10))

def frame_listapi_Dot.b1 (k : Nat) (n_1 : Int) (r_4 : Zag) (l_5 : (List Zaf)) (x_6 : Int) : Option ((Zag × (List Zaf) × Int) ⊕ (((List Zaf) × Zag) ⊕ (((List Zaf) × Zag)))) :=
 lt1 (decide (x_6 < n_1)) fun v_9 =>
 if v_9 = true then
  Option.bind (ZaU k r_4) fun v_10 =>
  if v_10 = true then
   some (.inr (.inr (([] : (List Zaf)), r_4)))
  else
   Option.bind (ZbM k r_4) fun (v_11, x_12) =>
   Option.bind (apL 16 l_5 ([v_11] : (List Zaf))) fun l_13 =>
   lt1 (w64 (x_6 + (1 : Int))) fun v_16 =>
   some (.inl (x_12, l_13, v_16))
 else
  some (.inr (.inl (l_5, r_4)))

def frame_listapi_Dot (k : Nat) (n_1 : Int) (r_2 : Zag) : Option (((List Zaf) × Zag)) :=
 Option.bind (
  Option.bind (Zbi (fun s => frame_listapi_Dot.b1 k n_1 s.1 s.2.1 s.2.2) k (r_2, ([] : (List Zaf)), (0 : Int))) fun t => match t with
  | (.inl (l_17, x_18)) =>
   some (.inl (l_17, x_18))
  | (.inr q) =>
   some (.inr q)
  : Option (((List Zaf) × Zag) ⊕ (((List Zaf) × Zag)))) fun t => match t with
 | (.inl (l_21, x_22)) =>
  some (l_21, x_22)
 | (.inr q) =>
  some q

def ZcZ (k : Nat) (Kind_1 : Int) (From_2 : Int) (To_3 : Int) (ID_4 : Zaf) (Topic_5 : (List UInt8)) (Past_6 : (Vector UInt64 16)) (Past_7 : (Vector UInt64 16)) (Seen_8 : (Vector UInt64 16)) (Hash_9 : (Vector UInt8 32)) (Reply_10 : Bool) (x_12 : Zag) : Option ((Zag × (Vector UInt64 16) × (List Zaf))) :=
 Option.bind (wire_Reader_Vector k x_12) fun (v_14, x_15) =>
 Option.bind (ZbP k Kind_1 From_2 To_3 ID_4 Topic_5 Past_6 Past_7 v_14 Hash_9 Reply_10 x_15) fun (v_16, x_17) =>
 Option.bind (frame_listapi_Dot k v_16 x_17) fun (v_18, x_19) =>
 some (x_19, v_14, v_18)

def ZbS (k : Nat) (Kind_1 : Int) (From_2 : Int) (To_3 : Int) (ID_4 : Zaf) (Topic_5 : (List UInt8)) (Past_6 : (Vector UInt64 16)) (Past_7 : (Vector UInt64 16)) (Seen_8 : (Vector UInt64 16)) (Hash_9 : (Vector UInt8 32)) (Reply_10 : Bool) (x_12 : Zag) (x_14 : (List Zaf)) : Option ((Int × Zag)) :=
 Option.bind (ZaB k (2 : Int) x_12) fun (v_17, x_18) =>
 lt1 (w64 (UN.toN v_17 : Int)) fun v_19 =>
 some (v_19, x_18)

def ZcF (k : Nat) (Kind_1 : Int) (From_2 : Int) (To_3 : Int) (ID_4 : Zaf) (Topic_5 : (List UInt8)) (Past_6 : (Vector UInt64 16)) (Past_7 : (Vector UInt64 16)) (Seen_8 : (Vector UInt64 16)) (Hash_9 : (Vector UInt8 32)) (Reply_10 : Bool) (x_12 : Zag) : Option ((Zag × (Vector UInt64 16) × (List Zaf) × (List Zaf))) :=
 Option.bind (ZcZ k Kind_1 From_2 To_3 ID_4 Topic_5 Past_6 Past_7 Seen_8 Hash_9 Reply_10 x_12) fun (x_14, x_15, x_16) =>
 Option.bind (ZbS k Kind_1 From_2 To_3 ID_4 Topic_5 Past_6 Past_7 x_15 Hash_9 Reply_10 x_14 x_16) fun (v_19, x_20) =>
 Option.bind (frame_listapi_Dot k v_19 x_20) fun (v_21, x_22) =>
 some (x_22, x_15, x_16, v_21)

def ZbU (k : Nat) (Kind_1 : Int) (From_2 : Int) (To_3 : Int) (ID_4 : Zaf) (Topic_5 : (List UInt8)) (Past_6 : (Vector UInt64 16)) (Past_7 : (Vector UInt64 16)) (Seen_8 : (Vector UInt64 16)) (Hash_9 : (Vector UInt8 32)) (Reply_10 : Bool) (x_12 : Zag) : Option (((Vector UInt8 32) × Zag)) :=
 Option.bind (ZbJ k (32 : Int) x_12) fun (v_15, x_16) =>
 lt1 (cpV (Vector.replicate 32 (0 : UInt8)) 0 (32 - 0) v_15) fun h_17 =>
 some (h_17, x_16)

def ZcV (k : Nat) (Kind_1 : Int) (From_2 : Int) (To_3 : Int) (ID_4 : Zaf) (Topic_5 : (List UInt8)) (Past_6 : (Vector UInt64 16)) (Past_7 : (Vector UInt64 16)) (Seen_8 : (Vector UInt64 16)) (Hash_9 : (Vector UInt8 32)) (Reply_10 : Bool) (x_12 : Zag) : Option ((Zag × Zah)) :=
 Option.bind (ZbU k Kind_1 From_2 To_3 ID_4 Topic_5 Past_6 Past_7 Seen_8 Hash_9 Reply_10 x_12) fun (v_14, x_15) =>
 some (x_15, (Zah.mk Kind_1 From_2 To_3 ([] : (List Zap)) (Zar.mk ID_4 Topic_5 ([] : (List UInt8)) Past_6 ([] : (List ZaA))) Past_7 Seen_8 ([] : (List Zaf)) ([] : (List Zaf)) v_14 ([] : (List (Vector UInt8 32))) ([] : (List Int)) Reply_10))

def frame_listapi_Hash.b1 (k : Nat) (n_1 : Int) (Kind_4 : Int) (From_5 : Int) (To_6 : Int) (ID_7 : Zaf) (Topic_8 : (List UInt8)) (Past_9 : (Vector UInt64 16)) (Past_10 : (Vector UInt64 16)) (Seen_11 : (Vector UInt64 16)) (Hash_12 : (Vector UInt8 32)) (Reply_13 : Bool) (r_15 : Zag) (l_16 : (List (Vector UInt8 32))) (x_17 : Int) : Option ((Zag × (List (Vector UInt8 32)) × Int) ⊕ (((List (Vector UInt8 32)) × Zag) ⊕ (((List (Vector UInt8 32)) × Zag)))) :=
 lt1 (decide (x_17 < n_1)) fun v_20 =>
 if v_20 = true then
  Option.bind (ZaU k r_15) fun v_21 =>
  if v_21 = true then
   some (.inr (.inr (([] : (List (Vector UInt8 32))), r_15)))
  else
   Option.bind (ZbU k Kind_4 From_5 To_6 ID_7 Topic_8 Past_9 Past_10 Seen_11 Hash_12 Reply_13 r_15) fun (v_22, x_23) =>
   Option.bind (apL 32 l_16 ([v_22] : (List (Vector UInt8 32)))) fun l_24 =>
   lt1 (w64 (x_17 + (1 : Int))) fun v_27 =>
   some (.inl (x_23, l_24, v_27))
 else
  some (.inr (.inl (l_16, r_15)))

def frame_listapi_Hash (k : Nat) (n_1 : Int) (r_2 : Zag) (Kind_4 : Int) (From_5 : Int) (To_6 : Int) (ID_7 : Zaf) (Topic_8 : (List UInt8)) (Past_9 : (Vector UInt64 16)) (Past_10 : (Vector UInt64 16)) (Seen_11 : (Vector UInt64 16)) (Hash_12 : (Vector UInt8 32)) (Reply_13 : Bool) : Option (((List (Vector UInt8 32)) × Zag)) :=
 Option.bind (
  Option.bind (Zbi (fun s => frame_listapi_Hash.b1 k n_1 Kind_4 From_5 To_6 ID_7 Topic_8 Past_9 Past_10 Seen_11 Hash_12 Reply_13 s.1 s.2.1 s.2.2) k (r_2, ([] : (List (Vector UInt8 32))), (0 : Int))) fun t => match t with
  | (.inl (l_28, x_29)) =>
   some (.inl (l_28, x_29))
  | (.inr q) =>
   some (.inr q)
  : Option (((List (Vector UInt8 32)) × Zag) ⊕ (((List (Vector UInt8 32)) × Zag)))) fun t => match t with
 | (.inl (l_32, x_33)) =>
  some (l_32, x_33)
 | (.inr q) =>
  some q

def Zdd (k : Nat) (Kind_1 : Int) (From_2 : Int) (To_3 : Int) (ID_4 : Zaf) (Topic_5 : (List UInt8)) (Past_6 : (Vector UInt64 16)) (Past_7 : (Vector UInt64 16)) (Seen_8 : (Vector UInt64 16)) (Hash_9 : (Vector UInt8 32)) (Reply_10 : Bool) (x_12 : Zag) : Option ((Zag × (List (Vector UInt8 32)))) :=
 Option.bind (frame_listapi_Hash k (64 : Int) x_12 Kind_1 From_2 To_3 ID_4 Topic_5 Past_6 Past_7 Seen_8 Hash_9 Reply_10) fun (v_14, x_15) =>
 some (x_15, v_14)

def ZcD (k : Nat) (Kind_2 : Int) (From_3 : Int) (To_4 : Int) (ID_5 : Zaf) (Topic_6 : (List UInt8)) (Past_7 : (Vector UInt64 16)) (Past_8 : (Vector UInt64 16)) (Seen_9 : (Vector UInt64 16)) (Hash_10 : (Vector UInt8 32)) (Reply_11 : Bool) (x_13 : Zag) : Option ((Int × Zag)) :=
 Option.bind (ZaB k (1 : Int) x_13) fun (v_15, x_16) =>
 lt1 (w64 (UN.toN v_15 : Int)) fun v_17 =>
 some (v_17, x_16)

def frame_listint.b1 (k : Nat) (n_1 : Int) (Kind_5 : Int) (From_6 : Int) (To_7 : Int) (ID_8 : Zaf) (Topic_9 : (List UInt8)) (Past_10 : (Vector UInt64 16)) (Past_11 : (Vector UInt64 16)) (Seen_12 : (Vector UInt64 16)) (Hash_13 : (Vector UInt8 32)) (Reply_14 : Bool) (r_16 : Zag) (l_17 : (List Int)) (x_18 : Int) : Option ((Zag × (List Int) × Int) ⊕ (((List Int) × Zag) ⊕ (((List Int) × Zag)))) :=
 lt1 (decide (x_18 < n_1)) fun v_21 =>
 if v_21 = true then
  Option.bind (ZaU k r_16) fun v_22 =>
  if v_22 = true then
   some (.inr (.inr (([] : (List Int)), r_16)))
  else
   Option.bind (ZcD k Kind_5 From_6 To_7 ID_8 Topic_9 Past_10 Past_11 Seen_12 Hash_13 Reply_14 r_16) fun (v_23, x_24) =>
   Option.bind (apL 8 l_17 ([v_23] : (List Int))) fun l_25 =>
   lt1 (w64 (x_18 + (1 : Int))) fun v_28 =>
   some (.inl (x_24, l_25, v_28))
 else
  some (.inr (.inl (l_17, r_16)))

def frame_listint (k : Nat) (n_1 : Int) (r_2 : Zag) (Kind_5 : Int) (From_6 : Int) (To_7 : Int) (ID_8 : Zaf) (Topic_9 : (List UInt8)) (Past_10 : (Vector UInt64 16)) (Past_11 : (Vector UInt64 16)) (Seen_12 : (Vector UInt64 16)) (Hash_13 : (Vector UInt8 32)) (Reply_14 : Bool) : Option (((List Int) × Zag)) :=
 Option.bind (
  Option.bind (Zbi (fun s => frame_listint.b1 k n_1 Kind_5 From_6 To_7 ID_8 Topic_9 Past_10 Past_11 Seen_12 Hash_13 Reply_14 s.1 s.2.1 s.2.2) k (r_2, ([] : (List Int)), (0 : Int))) fun t => match t with
  | (.inl (l_29, x_30)) =>
   some (.inl (l_29, x_30))
  | (.inr q) =>
   some (.inr q)
  : Option (((List Int) × Zag) ⊕ (((List Int) × Zag)))) fun t => match t with
 | (.inl (l_33, x_34)) =>
  some (l_33, x_34)
 | (.inr q) =>
  some q

def Zc5 (k : Nat) (Kind_1 : Int) (From_2 : Int) (To_3 : Int) (ID_4 : Zaf) (Topic_5 : (List UInt8)) (Past_6 : (Vector UInt64 16)) (Past_7 : (Vector UInt64 16)) (Seen_8 : (Vector UInt64 16)) (Hash_9 : (Vector UInt8 32)) (Reply_10 : Bool) (x_12 : Zag) (x_14 : (List Int)) : Option ((Int × Zag)) :=
 Option.bind (ZaB k (2 : Int) x_12) fun (v_17, x_18) =>
 lt1 (w64 (UN.toN v_17 : Int)) fun v_19 =>
 some (v_19, x_18)

def Zdg (k : Nat) (Kind_1 : Int) (From_2 : Int) (To_3 : Int) (ID_4 : Zaf) (Topic_5 : (List UInt8)) (Past_6 : (Vector UInt64 16)) (Past_7 : (Vector UInt64 16)) (Seen_8 : (Vector UInt64 16)) (Hash_9 : (Vector UInt8 32)) (Reply_10 : Bool) (x_12 : Zag) (x_14 : (List Int)) : Option ((Zap × Zag)) :=
 Option.bind (ZbM k x_12) fun (v_18, x_19) =>
 Option.bind (ZaB k (1 : Int) x_19) fun (v_20, x_21) =>
 lt1 ((!(v_20 == (0 : UInt64)))) fun v_22 =>
 Option.bind (
  lt1 ((!v_22)) fun v_24 =>
  if v_24 = true then
   Option.bind (Zbw k x_21) fun (v_25, x_26) =>
   Option.bind (Zbw k x_26) fun (v_27, x_28) =>
   some ((Zap.mk v_18 (Zbq.mk v_25 v_27) v_22), x_28)
  else
   some ((Zap.mk v_18 ((Zap.mk (Zaf.mk (0 : Int) (0 : UInt64)) (Zbq.mk ([] : (List UInt8)) ([] : (List UInt8))) false).Key) v_22), x_21)
 ) fun (i_29, x_30) =>
  some (i_29, x_30)

def frame_listapi_Item'2.b1 (k : Nat) (n_1 : Int) (Kind_4 : Int) (From_5 : Int) (To_6 : Int) (ID_7 : Zaf) (Topic_8 : (List UInt8)) (Past_9 : (Vector UInt64 16)) (Past_10 : (Vector UInt64 16)) (Seen_11 : (Vector UInt64 16)) (Hash_12 : (Vector UInt8 32)) (Reply_13 : Bool) (x_15 : (List Int)) (r_18 : Zag) (l_19 : (List Zap)) (x_20 : Int) : Option ((Zag × (List Zap) × Int) ⊕ (((List Zap) × Zag) ⊕ (((List Zap) × Zag)))) :=
 lt1 (decide (x_20 < n_1)) fun v_23 =>
 if v_23 = true then
  Option.bind (ZaU k r_18) fun v_24 =>
  if v_24 = true then
   some (.inr (.inr (([] : (List Zap)), r_18)))
  else
   Option.bind (Zdg k Kind_4 From_5 To_6 ID_7 Topic_8 Past_9 Past_10 Seen_11 Hash_12 Reply_13 r_18 x_15) fun (v_25, x_26) =>
   Option.bind (apL 56 l_19 ([v_25] : (List Zap))) fun l_27 =>
   lt1 (w64 (x_20 + (1 : Int))) fun v_30 =>
   some (.inl (x_26, l_27, v_30))
 else
  some (.inr (.inl (l_19, r_18)))

def frame_listapi_Item'2 (k : Nat) (n_1 : Int) (r_2 : Zag) (Kind_4 : Int) (From_5 : Int) (To_6 : Int) (ID_7 : Zaf) (Topic_8 : (List UInt8)) (Past_9 : (Vector UInt64 16)) (Past_10 : (Vector UInt64 16)) (Seen_11 : (Vector UInt64 16)) (Hash_12 : (Vector UInt8 32)) (Reply_13 : Bool) (x_15 : (List Int)) : Option (((List Zap) × Zag)) :=
 Option.bind (
  Option.bind (Zbi (fun s => frame_listapi_Item'2.b1 k n_1 Kind_4 From_5 To_6 ID_7 Topic_8 Past_9 Past_10 Seen_11 Hash_12 Reply_13 x_15 s.1 s.2.1 s.2.2) k (r_2, ([] : (List Zap)), (0 : Int))) fun t => match t with
  | (.inl (l_31, x_32)) =>
   some (.inl (l_31, x_32))
  | (.inr q) =>
   some (.inr q)
  : Option (((List Zap) × Zag) ⊕ (((List Zap) × Zag)))) fun t => match t with
 | (.inl (l_35, x_36)) =>
  some (l_35, x_36)
 | (.inr q) =>
  some q

def Zc4 (k : Nat) (Kind_1 : Int) (From_2 : Int) (To_3 : Int) (ID_4 : Zaf) (Topic_5 : (List UInt8)) (Past_6 : (Vector UInt64 16)) (Past_7 : (Vector UInt64 16)) (Seen_8 : (Vector UInt64 16)) (Hash_9 : (Vector UInt8 32)) (Reply_10 : Bool) (x_12 : Zag) (x_14 : (List Int)) : Option ((Zag × (List Zap))) :=
 Option.bind (Zc5 k Kind_1 From_2 To_3 ID_4 Topic_5 Past_6 Past_7 Seen_8 Hash_9 Reply_10 x_12 x_14) fun (v_17, x_18) =>
 Option.bind (frame_listapi_Item'2 k v_17 x_18 Kind_1 From_2 To_3 ID_4 Topic_5 Past_6 Past_7 Seen_8 Hash_9 Reply_10 x_14) fun (v_19, x_20) =>
 some (x_20, v_19)

def Zc6 (k : Nat) (Kind_1 : Int) (From_2 : Int) (To_3 : Int) (ID_4 : Zaf) (Topic_5 : (List UInt8)) (Past_6 : (Vector UInt64 16)) (Past_7 : (Vector UInt64 16)) (Seen_8 : (Vector UInt64 16)) (Hash_9 : (Vector UInt8 32)) (Reply_10 : Bool) (x_12 : Zag) (x_14 : (List Zap)) (x_17 : (List Int)) : Option ((Int × Zag)) :=
 Option.bind (ZaB k (2 : Int) x_12) fun (v_20, x_21) =>
 lt1 (w64 (UN.toN v_20 : Int)) fun v_22 =>
 some (v_22, x_21)

def Zdf (k : Nat) (Kind_1 : Int) (From_2 : Int) (To_3 : Int) (ID_4 : Zaf) (Topic_5 : (List UInt8)) (Past_6 : (Vector UInt64 16)) (Past_7 : (Vector UInt64 16)) (Seen_8 : (Vector UInt64 16)) (Hash_9 : (Vector UInt8 32)) (Reply_10 : Bool) (x_12 : Zag) (x_14 : (List Zap)) (x_17 : (List Int)) : Option ((Zag × (Vector UInt64 16) × (List Zaf))) :=
 Option.bind (wire_Reader_Vector k x_12) fun (v_20, x_21) =>
 Option.bind (Zc6 k Kind_1 From_2 To_3 ID_4 Topic_5 Past_6 Past_7 v_20 Hash_9 Reply_10 x_21 x_14 x_17) fun (v_22, x_23) =>
 Option.bind (frame_listapi_Dot k v_22 x_23) fun (v_24, x_25) =>
 some (x_25, v_20, v_24)

def Zc8 (k : Nat) (Kind_1 : Int) (From_2 : Int) (To_3 : Int) (ID_4 : Zaf) (Topic_5 : (List UInt8)) (Past_6 : (Vector UInt64 16)) (Past_7 : (Vector UInt64 16)) (Seen_8 : (Vector UInt64 16)) (Hash_9 : (Vector UInt8 32)) (Reply_10 : Bool) (x_12 : Zag) : Option ((Zag × (List Zap) × (Vector UInt64 16) × (List Zaf) × (List Int) × Bool)) :=
 Option.bind (ZaB k (1 : Int) x_12) fun (v_15, x_16) =>
 lt1 (w64 (UN.toN v_15 : Int)) fun v_17 =>
 Option.bind (frame_listint k v_17 x_16 Kind_1 From_2 To_3 ID_4 Topic_5 Past_6 Past_7 Seen_8 Hash_9 Reply_10) fun (v_18, x_19) =>
 Option.bind (Zc4 k Kind_1 From_2 To_3 ID_4 Topic_5 Past_6 Past_7 Seen_8 Hash_9 Reply_10 x_19 v_18) fun (x_22, x_23) =>
 Option.bind (Zdf k Kind_1 From_2 To_3 ID_4 Topic_5 Past_6 Past_7 Seen_8 Hash_9 Reply_10 x_22 x_23 v_18) fun (x_26, x_27, x_28) =>
 Option.bind (ZaB k (1 : Int) x_26) fun (v_31, x_32) =>
 lt1 ((!(v_31 == (0 : UInt64)))) fun v_33 =>
 some (x_32, x_23, x_27, x_28, v_18, v_33)

def ZdS (k : Nat) (t_1 : (List UInt8)) : Option ((Zah × Int)) :=
 Option.bind (Zcw k t_1) fun v_3 =>
 Option.bind (Zbb k (1 : Int) true true v_3) fun (v_8, x_9) =>
 lt1 (w64 (UN.toN v_8 : Int)) fun v_10 =>
 Option.bind (ZaB k (1 : Int) x_9) fun (v_11, x_12) =>
 lt1 (w64 (UN.toN v_11 : Int)) fun v_13 =>
 Option.bind (ZaB k (1 : Int) x_12) fun (v_14, x_15) =>
 lt1 (w64 (UN.toN v_14 : Int)) fun v_16 =>
 Option.bind (
  Option.bind (Zey k) fun v_17 =>
  Option.bind (ZjQ (some (v_17)) v_10 (Zal.mk (none : Option Nat) (none : Option Nat))) fun (v_19, is_20) =>
  if is_20 = true then
   if v_19.read = some 93 then
    Option.bind (ZdD k v_10 v_13 v_16 (Zaf.mk (0 : Int) (0 : UInt64)) ([] : (List UInt8)) (Vector.replicate 16 (0 : UInt64)) (Vector.replicate 16 (0 : UInt64)) (Vector.replicate 16 (0 : UInt64)) (Vector.replicate 32 (0 : UInt8)) false x_15) fun (x_22, x_23) =>
    some (x_22, (Zah.mk v_10 v_13 v_16 x_23 (Zar.mk (Zaf.mk (0 : Int) (0 : UInt64)) ([] : (List UInt8)) ([] : (List UInt8)) (Vector.replicate 16 (0 : UInt64)) ([] : (List ZaA))) (Vector.replicate 16 (0 : UInt64)) (Vector.replicate 16 (0 : UInt64)) ([] : (List Zaf)) ([] : (List Zaf)) (Vector.replicate 32 (0 : UInt8)) ([] : (List (Vector UInt8 32))) ([] : (List Int)) false))
   else if v_19.read = some 95 then
    Option.bind (Zdp k v_10 v_13 v_16 (Zaf.mk (0 : Int) (0 : UInt64)) ([] : (List UInt8)) (Vector.replicate 16 (0 : UInt64)) (Vector.replicate 16 (0 : UInt64)) (Vector.replicate 16 (0 : UInt64)) (Vector.replicate 32 (0 : UInt8)) false x_15) fun (x_26, x_27) =>
    some (x_26, x_27)
   else if v_19.read = some 97 then
    Option.bind (ZcT k v_10 v_13 v_16 (Zaf.mk (0 : Int) (0 : UInt64)) ([] : (List UInt8)) (Vector.replicate 16 (0 : UInt64)) (Vector.replicate 16 (0 : UInt64)) (Vector.replicate 16 (0 : UInt64)) (Vector.replicate 32 (0 : UInt8)) false x_15) fun (x_28, x_29) =>
    some (x_28, x_29)
   else if v_19.read = some 99 then
    Option.bind (ZcF k v_10 v_13 v_16 (Zaf.mk (0 : Int) (0 : UInt64)) ([] : (List UInt8)) (Vector.replicate 16 (0 : UInt64)) (Vector.replicate 16 (0 : UInt64)) (Vector.replicate 16 (0 : UInt64)) (Vector.replicate 32 (0 : UInt8)) false x_15) fun (x_30, x_31, x_32, x_33) =>
    some (x_30, (Zah.mk v_10 v_13 v_16 ([] : (List Zap)) (Zar.mk (Zaf.mk (0 : Int) (0 : UInt64)) ([] : (List UInt8)) ([] : (List UInt8)) (Vector.replicate 16 (0 : UInt64)) ([] : (List ZaA))) (Vector.replicate 16 (0 : UInt64)) x_31 x_32 x_33 (Vector.replicate 32 (0 : UInt8)) ([] : (List (Vector UInt8 32))) ([] : (List Int)) false))
   else if v_19.read = some 101 then
    Option.bind (ZcV k v_10 v_13 v_16 (Zaf.mk (0 : Int) (0 : UInt64)) ([] : (List UInt8)) (Vector.replicate 16 (0 : UInt64)) (Vector.replicate 16 (0 : UInt64)) (Vector.replicate 16 (0 : UInt64)) (Vector.replicate 32 (0 : UInt8)) false x_15) fun (x_38, x_39) =>
    some (x_38, x_39)
   else if v_19.read = some 103 then
    Option.bind (Zdd k v_10 v_13 v_16 (Zaf.mk (0 : Int) (0 : UInt64)) ([] : (List UInt8)) (Vector.replicate 16 (0 : UInt64)) (Vector.replicate 16 (0 : UInt64)) (Vector.replicate 16 (0 : UInt64)) (Vector.replicate 32 (0 : UInt8)) false x_15) fun (x_40, x_41) =>
    some (x_40, (Zah.mk v_10 v_13 v_16 ([] : (List Zap)) (Zar.mk (Zaf.mk (0 : Int) (0 : UInt64)) ([] : (List UInt8)) ([] : (List UInt8)) (Vector.replicate 16 (0 : UInt64)) ([] : (List ZaA))) (Vector.replicate 16 (0 : UInt64)) (Vector.replicate 16 (0 : UInt64)) ([] : (List Zaf)) ([] : (List Zaf)) (Vector.replicate 32 (0 : UInt8)) x_41 ([] : (List Int)) false))
   else if v_19.read = some 105 then
    Option.bind (Zc8 k v_10 v_13 v_16 (Zaf.mk (0 : Int) (0 : UInt64)) ([] : (List UInt8)) (Vector.replicate 16 (0 : UInt64)) (Vector.replicate 16 (0 : UInt64)) (Vector.replicate 16 (0 : UInt64)) (Vector.replicate 32 (0 : UInt8)) false x_15) fun (x_44, x_45, x_46, x_47, x_48, x_49) =>
    some (x_44, (Zah.mk v_10 v_13 v_16 x_45 (Zar.mk (Zaf.mk (0 : Int) (0 : UInt64)) ([] : (List UInt8)) ([] : (List UInt8)) (Vector.replicate 16 (0 : UInt64)) ([] : (List ZaA))) (Vector.replicate 16 (0 : UInt64)) x_46 x_47 ([] : (List Zaf)) (Vector.replicate 32 (0 : UInt8)) ([] : (List (Vector UInt8 32))) x_48 x_49))
   else none
  else
   some (x_15, (Zah.mk v_10 v_13 v_16 ([] : (List Zap)) (Zar.mk (Zaf.mk (0 : Int) (0 : UInt64)) ([] : (List UInt8)) ([] : (List UInt8)) (Vector.replicate 16 (0 : UInt64)) ([] : (List ZaA))) (Vector.replicate 16 (0 : UInt64)) (Vector.replicate 16 (0 : UInt64)) ([] : (List Zaf)) ([] : (List Zaf)) (Vector.replicate 32 (0 : UInt8)) ([] : (List (Vector UInt8 32))) ([] : (List Int)) false))
 ) fun (Reader_56, f_57) =>
  Option.bind (
   Option.bind (frame_May k f_57) fun v_58 =>
   lt1 ((!v_58)) fun v_59 =>
   if v_59 = true then
    some true
   else
    Option.bind (Zct k f_57) fun v_60 =>
    Option.bind (slices_Equalbyte_byte k v_60 t_1) fun v_63 =>
    lt1 ((!v_63)) fun v_64 =>
    some v_64
  ) fun x_65 =>
   if x_65 = true then
    some ((Zah.mk (0 : Int) (0 : Int) (0 : Int) ([] : (List Zap)) (Zar.mk (Zaf.mk (0 : Int) (0 : UInt64)) ([] : (List UInt8)) ([] : (List UInt8)) (Vector.replicate 16 (0 : UInt64)) ([] : (List ZaA))) (Vector.replicate 16 (0 : UInt64)) (Vector.replicate 16 (0 : UInt64)) ([] : (List Zaf)) ([] : (List Zaf)) (Vector.replicate 32 (0 : UInt8)) ([] : (List (Vector UInt8 32))) ([] : (List Int)) false), (4 : Int))
   else
    some (f_57, (0 : Int))

def Zdy (k : Nat) (e_1 : Int) : Option ((Unit)) :=
 some ()

def Zf1 (k : Nat) (k_1 : Int) : Option (((List UInt8))) :=
 Option.bind (
  lt1 (decide (k_1 < (1 : Int))) fun v_2 =>
  lt1 (decide (k_1 ≥ (List.length ([([] : List UInt8), ([100, 101, 108, 116, 97] : List UInt8), ([101, 118, 101, 110, 116] : List UInt8), ([104, 97, 118, 101] : List UInt8), ([107, 110, 111, 119, 110] : List UInt8), ([114, 111, 111, 116] : List UInt8), ([108, 101, 97, 118, 101, 115] : List UInt8), ([105, 116, 101, 109, 115] : List UInt8)] : (List (List UInt8))) : Int))) fun v_3 =>
  lt1 (bif v_2 then true else v_3) fun v_4 =>
  some v_4
 ) fun x_5 =>
  if x_5 = true then
   some ([] : List UInt8)
  else
   Option.bind (idxL ([([] : List UInt8), ([100, 101, 108, 116, 97] : List UInt8), ([101, 118, 101, 110, 116] : List UInt8), ([104, 97, 118, 101] : List UInt8), ([107, 110, 111, 119, 110] : List UInt8), ([114, 111, 111, 116] : List UInt8), ([108, 101, 97, 118, 101, 115] : List UInt8), ([105, 116, 101, 109, 115] : List UInt8)] : (List (List UInt8))) k_1) fun v_6 =>
   some v_6

def Zcv (k : Nat) : Option ((Bool)) :=
 Option.bind (Zcr k (Zah.mk (3 : Int) (1 : Int) (2 : Int) ([] : (List Zap)) (Zar.mk (Zaf.mk (0 : Int) (0 : UInt64)) ([] : (List UInt8)) ([] : (List UInt8)) (Vector.replicate 16 (0 : UInt64)) ([] : (List ZaA))) (Vector.replicate 16 (0 : UInt64)) (Vector.replicate 16 (0 : UInt64)) ([] : (List Zaf)) ([] : (List Zaf)) (Vector.replicate 32 (0 : UInt8)) ([] : (List (Vector UInt8 32))) ([] : (List Int)) false)) fun (v_1, v_2) =>
 Option.bind (ZdS k ([] : (List UInt8))) fun (v_5, v_6) =>
 Option.bind (
  Option.bind (Zdy k v_2) fun _ =>
  lt1 ((v_2 == (0 : Int))) fun v_9 =>
  if v_9 = true then
   lt1 (((List.length v_1 : Int) == (135 : Int))) fun v_10 =>
   if v_10 = true then
    Option.bind (inO v_1 (0 : Int)) fun i_11 =>
    Option.bind (v_1[i_11]?) fun v_12 =>
    lt1 ((v_12 == (3 : UInt8))) fun v_13 =>
    if v_13 = true then
     Option.bind (inO v_1 (1 : Int)) fun i_14 =>
     Option.bind (v_1[i_14]?) fun v_15 =>
     lt1 ((v_15 == (1 : UInt8))) fun v_16 =>
     if v_16 = true then
      Option.bind (inO v_1 (2 : Int)) fun i_17 =>
      Option.bind (v_1[i_17]?) fun v_18 =>
      lt1 ((v_18 == (2 : UInt8))) fun v_19 =>
      Option.bind (if v_19 = true then frame_May k (Zah.mk (5 : Int) (1 : Int) (1 : Int) ([] : (List Zap)) (Zar.mk (Zaf.mk (0 : Int) (0 : UInt64)) ([] : (List UInt8)) ([] : (List UInt8)) (Vector.replicate 16 (0 : UInt64)) ([] : (List ZaA))) (Vector.replicate 16 (0 : UInt64)) (Vector.replicate 16 (0 : UInt64)) ([] : (List Zaf)) ([] : (List Zaf)) (Vector.replicate 32 (0 : UInt8)) ([] : (List (Vector UInt8 32))) ([] : (List Int)) false) else some default) fun v_20 =>
      lt1 ((!v_20)) fun v_21 =>
      lt1 (bif v_19 then v_21 else false) fun v_22 =>
      Option.bind (if v_22 = true then Zdy k v_6 else some default) fun _ =>
      lt1 ((v_6 == (4 : Int))) fun v_24 =>
      lt1 (bif v_22 then v_24 else false) fun v_25 =>
      Option.bind (if v_25 = true then Zf1 k (7 : Int) else some default) fun v_26 =>
      lt1 ((v_26 == ([105, 116, 101, 109, 115] : List UInt8))) fun v_27 =>
      lt1 (bif v_25 then v_27 else false) fun v_28 =>
      some v_28
     else
      some false
    else
     some false
   else
    some false
  else
   some false
 ) fun x_29 =>
  some x_29

def Zb8 (k : Nat) (t_1 : Zah) (a_2 : Int) : Option ((Bool)) :=
 Option.bind (
  Option.bind (ZeY k t_1) fun v_4 =>
  Option.bind (if (!v_4) = true then ref11_May k t_1 else some default) fun v_5 =>
  lt1 ((!v_5)) fun v_6 =>
  lt1 (bif v_4 then true else v_6) fun v_7 =>
  some v_7
 ) fun x_8 =>
  if x_8 = true then
   Option.bind (Zcv k) fun v_9 =>
   some v_9
  else
   lt1 ({ t_1 with Kind := a_2 }) fun x_11 =>
   Option.bind (Zcr k x_11) fun (v_12, v_13) =>
   Option.bind (
    Option.bind (frame_May k x_11) fun v_16 =>
    Option.bind (ref11_May k x_11) fun v_17 =>
    lt1 ((v_16 != v_17)) fun v_18 =>
    Option.bind (if (!v_18) = true then Zdy k v_13 else some default) fun _ =>
    lt1 ((v_13 == (0 : Int))) fun v_20 =>
    Option.bind (if (!v_18) = true then ref11_May k x_11 else some default) fun v_21 =>
    lt1 ((v_20 != v_21)) fun v_22 =>
    lt1 (bif v_18 then true else v_22) fun v_23 =>
    some v_23
   ) fun x_24 =>
    if x_24 = true then
     some false
    else
     Option.bind (
      Option.bind (Zdy k v_13) fun _ =>
      lt1 ((v_13 != (0 : Int))) fun v_26 =>
      lt1 ((x_11.Kind == t_1.Kind)) fun v_27 =>
      lt1 (bif v_26 then true else v_27) fun v_28 =>
      some v_28
     ) fun x_29 =>
      if x_29 = true then
       Option.bind (Zcv k) fun v_30 =>
       some v_30
      else
       Option.bind (ZdS k v_12) fun (v_31, v_32) =>
       Option.bind (
        Option.bind (Zdy k v_32) fun _ =>
        lt1 ((v_32 == (0 : Int))) fun v_35 =>
        lt1 ((v_31.Kind == x_11.Kind)) fun v_36 =>
        lt1 (bif v_35 then v_36 else false) fun v_37 =>
        Option.bind (if v_37 = true then Zee k v_31 t_1 else some default) fun v_38 =>
        lt1 ((!v_38)) fun v_39 =>
        lt1 (bif v_37 then v_39 else false) fun v_40 =>
        Option.bind (if v_40 = true then Zcv k else some default) fun v_41 =>
        lt1 (bif v_40 then v_41 else false) fun v_42 =>
        some v_42
       ) fun x_43 =>
        some x_43

end
end Go.Proofs.YtklnihlchhhhlaaGreat
