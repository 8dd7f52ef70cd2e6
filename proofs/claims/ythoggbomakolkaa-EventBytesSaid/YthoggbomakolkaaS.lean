/- The functions as plain Lean functions: no program and no memory here. -/
import Derived.Test.YthoggbomakolkaaFp
namespace Go.Proofs.Ythoggbomakolkaa
open Fw
set_option linter.unusedVariables false
noncomputable section

structure api_Dot where
  Region : Int
  Count : UInt64
  deriving DecidableEq, Inhabited

def eq_api_Dot (x y : api_Dot) : Bool := ((x.Region == y.Region) && ((x.Count == y.Count) && true))
theorem eq_api_Dot_iff {x y : api_Dot} : eq_api_Dot x y = true ↔ x = y := by
  cases x; cases y; simp [eq_api_Dot]

structure api_Dest where
  Dot : api_Dot
  Device : (List UInt8)
  deriving DecidableEq, Inhabited

def eq_api_Dest (x y : api_Dest) : Bool := (eq_api_Dot x.Dot y.Dot && ((x.Device == y.Device) && true))
theorem eq_api_Dest_iff {x y : api_Dest} : eq_api_Dest x y = true ↔ x = y := by
  cases x; cases y; simp [eq_api_Dest, eq_api_Dot_iff]

structure api_Event where
  ID : api_Dot
  Topic : (List UInt8)
  Payload : (List UInt8)
  Past : (Vector UInt64 16)
  To : (List api_Dest)
  deriving DecidableEq, Inhabited

structure ref01_Reader where
  B : (List UInt8)
  At : Int
  Failed : Bool
  deriving DecidableEq, Inhabited

def ref09_Much.b1 (k : Nat) (e_1 : api_Event) (n_7 : Int) (i_8 : Int) : Option ((Int × Int) ⊕ ((Unit) ⊕ ((Bool)))) :=
 lt1 (decide (i_8 < (List.length e_1.To : Int))) fun v_9 =>
 if v_9 = true then
  Option.bind (idxL e_1.To i_8) fun v_10 =>
  lt1 (minI (List.length v_10.Device : Int) (200001 : Int)) fun v_11 =>
  lt1 (w64 (n_7 + v_11)) fun v_12 =>
  lt1 (decide (v_12 > (200000 : Int))) fun v_13 =>
  if v_13 = true then
   some (.inr (.inr true))
  else
   lt1 (w64 (i_8 + (1 : Int))) fun v_14 =>
   some (.inl (v_12, v_14))
 else
  some (.inr (.inl ()))

def ref09_Much (k : Nat) (e_1 : api_Event) : Option ((Bool)) :=
 Option.bind (
  lt1 (decide ((List.length e_1.Topic : Int) > (300 : Int))) fun v_3 =>
  if v_3 = true then
   some true
  else
   lt1 (decide ((List.length e_1.Payload : Int) > (3000 : Int))) fun v_4 =>
   if v_4 = true then
    some true
   else
    lt1 (decide ((List.length e_1.To : Int) > (3000 : Int))) fun v_5 =>
    some v_5
 ) fun x_6 =>
  if x_6 = true then
   some true
  else
   Option.bind (
    Option.bind (loopO (fun s => ref09_Much.b1 k e_1 s.1 s.2) k ((0 : Int), (0 : Int))) fun t => match t with
    | (.inl _) =>
     some (.inl ())
    | (.inr q) =>
     some (.inr q)
    : Option ((Unit) ⊕ ((Bool)))) fun t => match t with
   | (.inl _) =>
    some false
   | (.inr q) =>
    some q

def event_MayDot (k : Nat) (d_1 : api_Dot) : Option ((Bool)) :=
 Option.bind (
  lt1 (decide (d_1.Region ≥ (1 : Int))) fun v_3 =>
  if v_3 = true then
   lt1 (decide (d_1.Region ≤ (16 : Int))) fun v_4 =>
   if v_4 = true then
    lt1 (decide ((1 : UInt64) ≤ d_1.Count)) fun v_5 =>
    if v_5 = true then
     lt1 (decide (d_1.Count ≤ (4611686018427387904 : UInt64))) fun v_6 =>
     some v_6
    else
     some false
   else
    some false
  else
   some false
 ) fun x_7 =>
  some x_7

def event_mayVector_1 (k : Nat) (n_1 : UInt64) : Option ((Bool)) :=
 lt1 (decide ((4611686018427387904 : UInt64) < n_1)) fun v_2 =>
 some v_2

def slices_IndexFuncuint64_uint64.b1 (k : Nat) (s_1 : (List UInt64)) (x_2 : Int) : Option ((Int) ⊕ ((Unit) ⊕ ((Int)))) :=
 lt1 (decide (x_2 < (List.length s_1 : Int))) fun v_3 =>
 if v_3 = true then
  Option.bind (idxL s_1 x_2) fun v_4 =>
  Option.bind (event_mayVector_1 k v_4) fun v_5 =>
  if v_5 = true then
   some (.inr (.inr x_2))
  else
   lt1 (w64 (x_2 + (1 : Int))) fun v_6 =>
   some (.inl v_6)
 else
  some (.inr (.inl ()))

def slices_IndexFuncuint64_uint64 (k : Nat) (s_1 : (List UInt64)) : Option ((Int)) :=
 Option.bind (
  Option.bind (loopO (fun s => slices_IndexFuncuint64_uint64.b1 k s_1 s) k (0 : Int)) fun t => match t with
  | (.inl _) =>
   some (.inl ())
  | (.inr q) =>
   some (.inr q)
  : Option ((Unit) ⊕ ((Int)))) fun t => match t with
 | (.inl _) =>
  some (-1 : Int)
 | (.inr q) =>
  some q

def slices_ContainsFuncuint64_uint64 (k : Nat) (s_1 : (List UInt64)) : Option ((Bool)) :=
 Option.bind (slices_IndexFuncuint64_uint64 k s_1) fun v_2 =>
 lt1 (decide (v_2 ≥ (0 : Int))) fun v_3 =>
 some v_3

def event_mayVector (k : Nat) (v_1 : (Vector UInt64 16)) : Option ((Bool)) :=
 Option.bind (subL (Vector.toList v_1) (0 : Int) (16 : Int)) fun v_3 =>
 Option.bind (slices_ContainsFuncuint64_uint64 k v_3) fun v_4 =>
 lt1 ((!v_4)) fun v_5 =>
 some v_5

def event_MayName (k : Nat) (s_1 : (List UInt8)) : Option ((Bool)) :=
 Option.bind (
  lt1 (decide ((List.length s_1 : Int) ≥ (1 : Int))) fun v_2 =>
  lt1 (decide ((List.length s_1 : Int) ≤ (32 : Int))) fun v_3 =>
  lt1 (bif v_2 then v_3 else false) fun v_4 =>
  some v_4
 ) fun x_5 =>
  some x_5

def cmp_isNaNint (k : Nat) (x_1 : Int) : Option ((Bool)) :=
 lt1 ((x_1 != x_1)) fun v_2 =>
 some v_2

def cmp_Compareint (k : Nat) (x_1 : Int) (y_2 : Int) : Option ((Int)) :=
 Option.bind (cmp_isNaNint k x_1) fun v_3 =>
 Option.bind (cmp_isNaNint k y_2) fun v_4 =>
 if v_3 = true then
  if v_4 = true then
   some (0 : Int)
  else
   some (-1 : Int)
 else
  if v_4 = true then
   some (1 : Int)
  else
   lt1 (decide (x_1 < y_2)) fun v_5 =>
   if v_5 = true then
    some (-1 : Int)
   else
    lt1 (decide (x_1 > y_2)) fun v_6 =>
    if v_6 = true then
     some (1 : Int)
    else
     some (0 : Int)

def cmp_isNaNuint64 (k : Nat) (x_1 : UInt64) : Option ((Bool)) :=
 lt1 ((!(x_1 == x_1))) fun v_2 =>
 some v_2

def cmp_Compareuint64 (k : Nat) (x_1 : UInt64) (y_2 : UInt64) : Option ((Int)) :=
 Option.bind (cmp_isNaNuint64 k x_1) fun v_3 =>
 Option.bind (cmp_isNaNuint64 k y_2) fun v_4 =>
 if v_3 = true then
  if v_4 = true then
   some (0 : Int)
  else
   some (-1 : Int)
 else
  if v_4 = true then
   some (1 : Int)
  else
   lt1 (decide (x_1 < y_2)) fun v_5 =>
   if v_5 = true then
    some (-1 : Int)
   else
    lt1 (decide (y_2 < x_1)) fun v_6 =>
    if v_6 = true then
     some (1 : Int)
    else
     some (0 : Int)

def cmp_Orint.b1 (k : Nat) (vals_1 : (List Int)) (x_2 : Int) : Option ((Int) ⊕ ((Unit) ⊕ ((Int)))) :=
 lt1 (decide (x_2 < (List.length vals_1 : Int))) fun v_3 =>
 if v_3 = true then
  Option.bind (idxL vals_1 x_2) fun v_4 =>
  lt1 ((v_4 != (0 : Int))) fun v_5 =>
  if v_5 = true then
   some (.inr (.inr v_4))
  else
   lt1 (w64 (x_2 + (1 : Int))) fun v_6 =>
   some (.inl v_6)
 else
  some (.inr (.inl ()))

def cmp_Orint (k : Nat) (vals_1 : (List Int)) : Option ((Int)) :=
 Option.bind (
  Option.bind (loopO (fun s => cmp_Orint.b1 k vals_1 s) k (0 : Int)) fun t => match t with
  | (.inl _) =>
   some (.inl ())
  | (.inr q) =>
   some (.inr q)
  : Option ((Unit) ⊕ ((Int)))) fun t => match t with
 | (.inl _) =>
  some (0 : Int)
 | (.inr q) =>
  some q

def event_Less (k : Nat) (a_1 : api_Dot) (b_2 : api_Dot) : Option ((Bool)) :=
 Option.bind (cmp_Compareint k a_1.Region b_2.Region) fun v_5 =>
 Option.bind (cmp_Compareuint64 k a_1.Count b_2.Count) fun v_6 =>
 Option.bind (cmp_Orint k ([v_5, v_6] : (List Int))) fun v_7 =>
 lt1 (decide (v_7 < (0 : Int))) fun v_8 =>
 some v_8

def event_May.b1 (k : Nat) (t_1 : api_Event) (x_18 : Bool) (x_19 : Int) : Option ((Bool × Int) ⊕ ((Bool))) :=
 lt1 (decide (x_19 < (List.length t_1.To : Int))) fun v_20 =>
 if v_20 = true then
  Option.bind (idxL t_1.To x_19) fun v_21 =>
  Option.bind (
   Option.bind (event_MayDot k v_21.Dot) fun v_23 =>
   if v_23 = true then
    Option.bind (event_MayName k v_21.Device) fun v_24 =>
    lt1 ((x_19 == (0 : Int))) fun v_25 =>
    if v_24 = true then
     if v_25 = true then
      some true
     else
      lt1 (w64 (x_19 - (1 : Int))) fun v_26 =>
      Option.bind (idxL t_1.To v_26) fun v_27 =>
      Option.bind (event_Less k v_27.Dot v_21.Dot) fun v_28 =>
      some v_28
    else
     some false
   else
    some false
  ) fun x_29 =>
   lt1 ((!x_29)) fun v_30 =>
   if v_30 = true then
    some (.inr x_29)
   else
    lt1 (w64 (x_19 + (1 : Int))) fun v_31 =>
    some (.inl (x_29, v_31))
 else
  some (.inr x_18)

def event_May (k : Nat) (t_1 : api_Event) : Option ((Bool)) :=
 Option.bind (
  Option.bind (event_MayDot k t_1.ID) fun v_3 =>
  lt1 ((!v_3)) fun v_4 =>
  if v_4 = true then
   some true
  else
   Option.bind (event_mayVector k t_1.Past) fun v_5 =>
   lt1 ((!v_5)) fun v_6 =>
   if v_6 = true then
    some true
   else
    lt1 (w64 (t_1.ID.Region - (1 : Int))) fun v_7 =>
    Option.bind (inV 16 v_7) fun i_8 =>
    lt1 ((getV t_1.Past i_8)) fun v_9 =>
    lt1 ((t_1.ID.Count - (1 : UInt64))) fun v_10 =>
    lt1 ((!(v_9 == v_10))) fun v_11 =>
    some v_11
 ) fun x_12 =>
  if x_12 = true then
   some false
  else
   Option.bind (
    Option.bind (event_MayName k t_1.Topic) fun v_13 =>
    lt1 ((!v_13)) fun v_14 =>
    if v_14 = true then
     some true
    else
     lt1 (decide ((List.length t_1.Payload : Int) > (512 : Int))) fun v_15 =>
     if v_15 = true then
      some true
     else
      lt1 (decide ((List.length t_1.To : Int) > (1024 : Int))) fun v_16 =>
      some v_16
   ) fun x_17 =>
    if x_17 = true then
     some false
    else
     Option.bind (
      loopO (fun s => event_May.b1 k t_1 s.1 s.2) k (true, (0 : Int))
     ) fun x_32 =>
      some x_32

def event_Join.b1 (k : Nat) (b_2 : (Vector UInt64 16)) (a_6 : (Vector UInt64 16)) (x_7 : Int) : Option (((Vector UInt64 16) × Int) ⊕ (((Vector UInt64 16)))) :=
 lt1 (decide (x_7 < (16 : Int))) fun v_8 =>
 if v_8 = true then
  Option.bind (idxV b_2 x_7) fun v_9 =>
  Option.bind (inV 16 x_7) fun i_10 =>
  lt1 ((getV a_6 i_10)) fun v_11 =>
  lt1 (maxU v_11 v_9) fun v_12 =>
  Option.bind (inV 16 x_7) fun i_13 =>
  lt1 ((putV a_6 i_13 v_12)) fun a_14 =>
  lt1 (w64 (x_7 + (1 : Int))) fun v_15 =>
  some (.inl (a_14, v_15))
 else
  some (.inr a_6)

def event_Join (k : Nat) (a_1 : (Vector UInt64 16)) (b_2 : (Vector UInt64 16)) : Option (((Vector UInt64 16))) :=
 Option.bind (
  loopO (fun s => event_Join.b1 k b_2 s.1 s.2) k (a_1, (0 : Int))
 ) fun a_16 =>
  some a_16

def event_Ready (k : Nat) (e_1 : api_Event) (had_2 : (Vector UInt64 16)) : Option ((Bool)) :=
 Option.bind (
  Option.bind (event_May k e_1) fun v_5 =>
  if v_5 = true then
   Option.bind (event_Join k had_2 e_1.Past) fun v_6 =>
   lt1 (((eqV (fun x y => x == y)) v_6 had_2)) fun v_7 =>
   if v_7 = true then
    lt1 (w64 (e_1.ID.Region - (1 : Int))) fun v_8 =>
    Option.bind (inV 16 v_8) fun i_9 =>
    lt1 ((getV had_2 i_9)) fun v_10 =>
    lt1 ((e_1.ID.Count - (1 : UInt64))) fun v_11 =>
    lt1 ((v_10 == v_11)) fun v_12 =>
    some v_12
   else
    some false
  else
   some false
 ) fun x_13 =>
  some x_13

def event_Under (k : Nat) (v_1 : (Vector UInt64 16)) (d_2 : api_Dot) : Option ((Bool)) :=
 Option.bind (
  Option.bind (event_MayDot k d_2) fun v_5 =>
  if v_5 = true then
   lt1 (w64 (d_2.Region - (1 : Int))) fun v_6 =>
   Option.bind (inV 16 v_6) fun i_7 =>
   lt1 ((getV v_1 i_7)) fun v_8 =>
   lt1 (decide (d_2.Count ≤ v_8)) fun v_9 =>
   some v_9
  else
   some false
 ) fun x_10 =>
  some x_10

def law09_known (k : Nat) : Option ((Bool)) :=
 Option.bind (
  Option.bind (event_Ready k (api_Event.mk (api_Dot.mk (2 : Int) (5 : UInt64)) ([116] : List UInt8) ([] : (List UInt8)) (Vector.set (Vector.set (Vector.replicate 16 (0 : UInt64)) 0 (7 : UInt64) (by decide)) 1 (4 : UInt64) (by decide)) ([] : (List api_Dest))) (Vector.set (Vector.set (Vector.replicate 16 (0 : UInt64)) 0 (7 : UInt64) (by decide)) 1 (4 : UInt64) (by decide))) fun v_4 =>
  Option.bind (if v_4 = true then event_Ready k (api_Event.mk (api_Dot.mk (2 : Int) (5 : UInt64)) ([116] : List UInt8) ([] : (List UInt8)) (Vector.set (Vector.set (Vector.replicate 16 (0 : UInt64)) 0 (7 : UInt64) (by decide)) 1 (4 : UInt64) (by decide)) ([] : (List api_Dest))) (Vector.set (Vector.set (Vector.replicate 16 (0 : UInt64)) 0 (6 : UInt64) (by decide)) 1 (4 : UInt64) (by decide)) else some default) fun v_5 =>
  lt1 ((!v_5)) fun v_6 =>
  lt1 (bif v_4 then v_6 else false) fun v_7 =>
  Option.bind (if v_7 = true then event_Ready k (api_Event.mk (api_Dot.mk (2 : Int) (5 : UInt64)) ([116] : List UInt8) ([] : (List UInt8)) (Vector.set (Vector.set (Vector.replicate 16 (0 : UInt64)) 0 (7 : UInt64) (by decide)) 1 (4 : UInt64) (by decide)) ([] : (List api_Dest))) (Vector.set (Vector.set (Vector.replicate 16 (0 : UInt64)) 0 (7 : UInt64) (by decide)) 1 (5 : UInt64) (by decide)) else some default) fun v_8 =>
  lt1 ((!v_8)) fun v_9 =>
  lt1 (bif v_7 then v_9 else false) fun v_10 =>
  Option.bind (if v_10 = true then event_Under k (Vector.set (Vector.set (Vector.replicate 16 (0 : UInt64)) 0 (3 : UInt64) (by decide)) 1 (4 : UInt64) (by decide)) (api_Dot.mk (2 : Int) (4 : UInt64)) else some default) fun v_11 =>
  lt1 (bif v_10 then v_11 else false) fun v_12 =>
  Option.bind (if v_12 = true then event_Under k (Vector.set (Vector.set (Vector.replicate 16 (0 : UInt64)) 0 (3 : UInt64) (by decide)) 1 (4 : UInt64) (by decide)) (api_Dot.mk (2 : Int) (5 : UInt64)) else some default) fun v_13 =>
  lt1 ((!v_13)) fun v_14 =>
  lt1 (bif v_12 then v_14 else false) fun v_15 =>
  Option.bind (if v_15 = true then event_May k (api_Event.mk (api_Dot.mk (0 : Int) (0 : UInt64)) ([] : (List UInt8)) ([] : (List UInt8)) (Vector.replicate 16 (0 : UInt64)) ([] : (List api_Dest))) else some default) fun v_16 =>
  lt1 ((!v_16)) fun v_17 =>
  lt1 (bif v_15 then v_17 else false) fun v_18 =>
  some v_18
 ) fun x_19 =>
  some x_19

def wire_Put.b1 (k : Nat) (size_2 : Int) (n_1 : UInt64) (b_13 : (List UInt8)) (x_14 : Int) : Option (((List UInt8) × Int) ⊕ (((List UInt8)))) :=
 lt1 (decide (x_14 < size_2)) fun v_17 =>
 if v_17 = true then
  lt1 (w64 (size_2 - (1 : Int))) fun v_18 =>
  lt1 (w64 (v_18 - x_14)) fun v_19 =>
  lt1 (w64 ((8 : Int) * v_19)) fun v_20 =>
  Option.bind (shrU n_1 v_20) fun v_21 =>
  lt1 ((UN.to v_21 : UInt8)) fun v_22 =>
  Option.bind (apL 1 b_13 ([v_22] : (List UInt8))) fun b_23 =>
  lt1 (w64 (x_14 + (1 : Int))) fun v_26 =>
  some (.inl (b_23, v_26))
 else
  some (.inr b_13)

def wire_Put (k : Nat) (n_1 : UInt64) (size_2 : Int) : Option (((List UInt8) × Int)) :=
 Option.bind (
  lt1 (decide (size_2 < (1 : Int))) fun v_3 =>
  lt1 (decide (size_2 > (8 : Int))) fun v_4 =>
  lt1 (bif v_3 then true else v_4) fun v_5 =>
  lt1 (decide (size_2 < (8 : Int))) fun v_6 =>
  lt1 (w64 ((8 : Int) * size_2)) fun v_7 =>
  Option.bind (if ((!v_5) && v_6) = true then shrU n_1 v_7 else some default) fun v_8 =>
  lt1 ((!(v_8 == (0 : UInt64)))) fun v_9 =>
  lt1 (bif v_6 then v_9 else false) fun v_10 =>
  lt1 (bif v_5 then true else v_10) fun v_11 =>
  some v_11
 ) fun x_12 =>
  if x_12 = true then
   some (([] : (List UInt8)), (2 : Int))
  else
   Option.bind (
    loopO (fun s => wire_Put.b1 k size_2 n_1 s.1 s.2) k (([] : (List UInt8)), (0 : Int))
   ) fun b_27 =>
    some (b_27, (0 : Int))

def wire_Dot (k : Nat) (d_1 : api_Dot) : Option (((List UInt8) × Int)) :=
 Option.bind (
  lt1 (decide (d_1.Region < (0 : Int))) fun v_3 =>
  if v_3 = true then
   some true
  else
   lt1 (decide (d_1.Region > (255 : Int))) fun v_4 =>
   some v_4
 ) fun x_5 =>
  if x_5 = true then
   some (([] : (List UInt8)), (2 : Int))
  else
   Option.bind (wire_Put k d_1.Count (8 : Int)) fun (v_6, v_7) =>
   lt1 ((UN.ofI d_1.Region : UInt8)) fun v_10 =>
   Option.bind (apL 1 ([v_10] : (List UInt8)) v_6) fun x_12 =>
   some (x_12, (0 : Int))

def event_bytes_1 (k : Nat) (x_1 : (List UInt8)) (v_2 : Int) : Option (((List UInt8))) :=
 Option.bind (apL 1 ([] : (List UInt8)) x_1) fun v_4 =>
 some v_4

def wire_Blob (k : Nat) (b_1 : (List UInt8)) : Option (((List UInt8) × Int)) :=
 lt1 (decide ((List.length b_1 : Int) > (65535 : Int))) fun v_2 =>
 if v_2 = true then
  some (([] : (List UInt8)), (3 : Int))
 else
  lt1 ((UN.ofI (List.length b_1 : Int) : UInt64)) fun v_3 =>
  Option.bind (wire_Put k v_3 (2 : Int)) fun (v_4, v_5) =>
  Option.bind (apL 1 v_4 b_1) fun n_8 =>
  some (n_8, (0 : Int))

def event_bytes_1'2 (k : Nat) (x_1 : (List UInt8)) (v_2 : Int) (x_4 : (List UInt8)) : Option (((List UInt8))) :=
 Option.bind (apL 1 x_4 x_1) fun x_7 =>
 some x_7

def wire_Vector.b1 (k : Nat) (v_1 : (Vector UInt64 16)) (b_3 : (List UInt8)) (x_4 : Int) : Option (((List UInt8) × Int) ⊕ (((List UInt8)))) :=
 lt1 (decide (x_4 < (16 : Int))) fun v_7 =>
 if v_7 = true then
  Option.bind (idxV v_1 x_4) fun v_8 =>
  Option.bind (wire_Put k v_8 (8 : Int)) fun (v_9, v_10) =>
  Option.bind (apL 1 b_3 v_9) fun b_13 =>
  lt1 (w64 (x_4 + (1 : Int))) fun v_16 =>
  some (.inl (b_13, v_16))
 else
  some (.inr b_3)

def wire_Vector (k : Nat) (v_1 : (Vector UInt64 16)) : Option (((List UInt8))) :=
 Option.bind (
  loopO (fun s => wire_Vector.b1 k v_1 s.1 s.2) k (([] : (List UInt8)), (0 : Int))
 ) fun b_17 =>
  some b_17

def event_bytes.b1 (k : Nat) (t_1 : api_Event) (x_39 : (List UInt8)) (x_40 : Int) : Option (((List UInt8) × Int) ⊕ (((List UInt8)))) :=
 lt1 (decide (x_40 < (List.length t_1.To : Int))) fun v_43 =>
 if v_43 = true then
  Option.bind (idxL t_1.To x_40) fun v_44 =>
  Option.bind (wire_Dot k v_44.Dot) fun (v_46, v_47) =>
  Option.bind (event_bytes_1'2 k v_46 v_47 x_39) fun x_50 =>
  Option.bind (wire_Blob k v_44.Device) fun (v_53, v_54) =>
  Option.bind (event_bytes_1'2 k v_53 v_54 x_50) fun x_57 =>
  lt1 (w64 (x_40 + (1 : Int))) fun v_60 =>
  some (.inl (x_57, v_60))
 else
  some (.inr x_39)

def event_bytes (k : Nat) (t_1 : api_Event) : Option (((List UInt8))) :=
 Option.bind (wire_Dot k t_1.ID) fun (v_4, v_5) =>
 Option.bind (event_bytes_1 k v_4 v_5) fun x_8 =>
 Option.bind (wire_Blob k t_1.Topic) fun (v_11, v_12) =>
 Option.bind (event_bytes_1'2 k v_11 v_12 x_8) fun x_15 =>
 Option.bind (wire_Blob k t_1.Payload) fun (v_18, v_19) =>
 Option.bind (event_bytes_1'2 k v_18 v_19 x_15) fun x_22 =>
 Option.bind (wire_Vector k t_1.Past) fun v_25 =>
 Option.bind (event_bytes_1'2 k v_25 (0 : Int) x_22) fun x_28 =>
 lt1 ((UN.ofI (List.length t_1.To : Int) : UInt64)) fun v_31 =>
 Option.bind (wire_Put k v_31 (2 : Int)) fun (v_32, v_33) =>
 Option.bind (event_bytes_1'2 k v_32 v_33 x_28) fun x_36 =>
 Option.bind (
  loopO (fun s => event_bytes.b1 k t_1 s.1 s.2) k (x_36, (0 : Int))
 ) fun x_61 =>
  some x_61

def event_Bytes (k : Nat) (e_1 : api_Event) : Option (((List UInt8) × Int)) :=
 Option.bind (event_May k e_1) fun v_3 =>
 lt1 ((!v_3)) fun v_4 =>
 if v_4 = true then
  some (([] : (List UInt8)), (2 : Int))
 else
  Option.bind (event_bytes k e_1) fun v_5 =>
  some (v_5, (0 : Int))

def ref09_MayDot (k : Nat) (d_1 : api_Dot) : Option ((Bool)) :=
 Option.bind (
  lt1 (decide (d_1.Region ≥ (1 : Int))) fun v_3 =>
  if v_3 = true then
   lt1 (decide (d_1.Region ≤ (16 : Int))) fun v_4 =>
   if v_4 = true then
    lt1 (decide ((1 : UInt64) ≤ d_1.Count)) fun v_5 =>
    if v_5 = true then
     lt1 (decide (d_1.Count ≤ (4611686018427387904 : UInt64))) fun v_6 =>
     some v_6
    else
     some false
   else
    some false
  else
   some false
 ) fun x_7 =>
  some x_7

def ref09_MayVector.b1 (k : Nat) (v_1 : (Vector UInt64 16)) (i_3 : Int) : Option ((Int) ⊕ ((Unit) ⊕ ((Bool)))) :=
 lt1 (decide (i_3 < (16 : Int))) fun v_4 =>
 if v_4 = true then
  Option.bind (inV 16 i_3) fun i_5 =>
  lt1 ((getV v_1 i_5)) fun v_6 =>
  lt1 (decide ((4611686018427387904 : UInt64) < v_6)) fun v_7 =>
  if v_7 = true then
   some (.inr (.inr false))
  else
   lt1 (w64 (i_3 + (1 : Int))) fun v_8 =>
   some (.inl v_8)
 else
  some (.inr (.inl ()))

def ref09_MayVector (k : Nat) (v_1 : (Vector UInt64 16)) : Option ((Bool)) :=
 Option.bind (
  Option.bind (loopO (fun s => ref09_MayVector.b1 k v_1 s) k (0 : Int)) fun t => match t with
  | (.inl _) =>
   some (.inl ())
  | (.inr q) =>
   some (.inr q)
  : Option ((Unit) ⊕ ((Bool)))) fun t => match t with
 | (.inl _) =>
  some true
 | (.inr q) =>
  some q

def ref09_MayName (k : Nat) (s_1 : (List UInt8)) : Option ((Bool)) :=
 Option.bind (
  lt1 (decide ((List.length s_1 : Int) > (0 : Int))) fun v_2 =>
  lt1 (decide ((List.length s_1 : Int) ≤ (32 : Int))) fun v_3 =>
  lt1 (bif v_2 then v_3 else false) fun v_4 =>
  some v_4
 ) fun x_5 =>
  some x_5

def ref09_Less (k : Nat) (a_1 : api_Dot) (b_2 : api_Dot) : Option ((Bool)) :=
 Option.bind (
  lt1 (decide (a_1.Region < b_2.Region)) fun v_5 =>
  if v_5 = true then
   some true
  else
   lt1 ((a_1.Region == b_2.Region)) fun v_6 =>
   if v_6 = true then
    lt1 (decide (a_1.Count < b_2.Count)) fun v_7 =>
    some v_7
   else
    some false
 ) fun x_8 =>
  some x_8

def ref09_May.b1 (k : Nat) (t_1 : api_Event) (x_17 : Int) : Option ((Int) ⊕ ((Unit) ⊕ ((Bool)))) :=
 lt1 (decide (x_17 < (List.length t_1.To : Int))) fun v_18 =>
 if v_18 = true then
  Option.bind (
   Option.bind (idxL t_1.To x_17) fun v_19 =>
   Option.bind (ref09_MayDot k v_19.Dot) fun v_20 =>
   lt1 ((!v_20)) fun v_21 =>
   if v_21 = true then
    some true
   else
    Option.bind (idxL t_1.To x_17) fun v_22 =>
    Option.bind (ref09_MayName k v_22.Device) fun v_23 =>
    lt1 ((!v_23)) fun v_24 =>
    lt1 (decide (x_17 > (0 : Int))) fun v_25 =>
    if v_24 = true then
     some true
    else
     if v_25 = true then
      lt1 (w64 (x_17 - (1 : Int))) fun v_26 =>
      Option.bind (idxL t_1.To v_26) fun v_27 =>
      Option.bind (idxL t_1.To x_17) fun v_28 =>
      Option.bind (ref09_Less k v_27.Dot v_28.Dot) fun v_29 =>
      lt1 ((!v_29)) fun v_30 =>
      some v_30
     else
      some false
  ) fun x_31 =>
   if x_31 = true then
    some (.inr (.inr false))
   else
    lt1 (w64 (x_17 + (1 : Int))) fun v_32 =>
    some (.inl v_32)
 else
  some (.inr (.inl ()))

def ref09_May (k : Nat) (t_1 : api_Event) : Option ((Bool)) :=
 Option.bind (
  Option.bind (ref09_MayDot k t_1.ID) fun v_3 =>
  lt1 ((!v_3)) fun v_4 =>
  if v_4 = true then
   some true
  else
   Option.bind (ref09_MayVector k t_1.Past) fun v_5 =>
   lt1 ((!v_5)) fun v_6 =>
   if v_6 = true then
    some true
   else
    lt1 (w64 (t_1.ID.Region - (1 : Int))) fun v_7 =>
    Option.bind (inV 16 v_7) fun i_8 =>
    lt1 ((getV t_1.Past i_8)) fun v_9 =>
    lt1 ((v_9 + (1 : UInt64))) fun v_10 =>
    lt1 ((!(v_10 == t_1.ID.Count))) fun v_11 =>
    if v_11 = true then
     some true
    else
     Option.bind (ref09_MayName k t_1.Topic) fun v_12 =>
     lt1 ((!v_12)) fun v_13 =>
     if v_13 = true then
      some true
     else
      lt1 (decide ((List.length t_1.Payload : Int) > (512 : Int))) fun v_14 =>
      if v_14 = true then
       some true
      else
       lt1 (decide ((List.length t_1.To : Int) > (1024 : Int))) fun v_15 =>
       some v_15
 ) fun x_16 =>
  if x_16 = true then
   some false
  else
   Option.bind (
    Option.bind (loopO (fun s => ref09_May.b1 k t_1 s) k (0 : Int)) fun t => match t with
    | (.inl _) =>
     some (.inl ())
    | (.inr q) =>
     some (.inr q)
    : Option ((Unit) ⊕ ((Bool)))) fun t => match t with
   | (.inl _) =>
    some true
   | (.inr q) =>
    some q

def ref01_Put.b1 (k : Nat) (n_6 : UInt64) (b_7 : (List UInt8)) (i_8 : Int) : Option ((UInt64 × (List UInt8) × Int) ⊕ (((List UInt8)))) :=
 lt1 (decide (i_8 ≥ (0 : Int))) fun v_9 =>
 if v_9 = true then
  Option.bind (modU n_6 (256 : UInt64)) fun v_10 =>
  lt1 ((UN.to v_10 : UInt8)) fun v_11 =>
  Option.bind (inO b_7 i_8) fun i_12 =>
  Option.bind (setO' b_7 i_12 v_11) fun b_13 =>
  Option.bind (divU n_6 (256 : UInt64)) fun v_14 =>
  lt1 (w64 (i_8 - (1 : Int))) fun v_15 =>
  some (.inl (v_14, b_13, v_15))
 else
  some (.inr b_7)

def ref01_Put (k : Nat) (n_1 : UInt64) (size_2 : Int) : Option (((List UInt8))) :=
 Option.bind (mkL 1 size_2 (0 : UInt8)) fun v_3 =>
 Option.bind (
  lt1 (w64 (size_2 - (1 : Int))) fun v_5 =>
  loopO (fun s => ref01_Put.b1 k s.1 s.2.1 s.2.2) k (n_1, v_3, v_5)
 ) fun b_16 =>
  some b_16

def ref01_Dot (k : Nat) (d_1 : api_Dot) : Option (((List UInt8))) :=
 lt1 ((UN.ofI d_1.Region : UInt64)) fun v_3 =>
 Option.bind (ref01_Put k v_3 (1 : Int)) fun v_4 =>
 Option.bind (ref01_Put k d_1.Count (8 : Int)) fun v_6 =>
 Option.bind (apL 1 v_4 v_6) fun x_8 =>
 some x_8

def ref01_Blob (k : Nat) (b_1 : (List UInt8)) : Option (((List UInt8))) :=
 lt1 ((UN.ofI (List.length b_1 : Int) : UInt64)) fun v_2 =>
 Option.bind (ref01_Put k v_2 (2 : Int)) fun v_3 =>
 Option.bind (apL 1 v_3 b_1) fun x_5 =>
 some x_5

def ref01_Vector.b1 (k : Nat) (v_1 : (Vector UInt64 16)) (b_3 : (List UInt8)) (i_4 : Int) : Option (((List UInt8) × Int) ⊕ (((List UInt8)))) :=
 lt1 (decide (i_4 < (16 : Int))) fun v_7 =>
 if v_7 = true then
  Option.bind (inV 16 i_4) fun i_8 =>
  lt1 ((getV v_1 i_8)) fun v_9 =>
  Option.bind (ref01_Put k v_9 (8 : Int)) fun v_10 =>
  Option.bind (apL 1 b_3 v_10) fun b_12 =>
  lt1 (w64 (i_4 + (1 : Int))) fun v_15 =>
  some (.inl (b_12, v_15))
 else
  some (.inr b_3)

def ref01_Vector (k : Nat) (v_1 : (Vector UInt64 16)) : Option (((List UInt8))) :=
 Option.bind (
  loopO (fun s => ref01_Vector.b1 k v_1 s.1 s.2) k (([] : (List UInt8)), (0 : Int))
 ) fun b_16 =>
  some b_16

def ref01_Join.b1 (k : Nat) (l_1 : (List (List UInt8))) (o_2 : (List UInt8)) (i_3 : Int) : Option (((List UInt8) × Int) ⊕ (((List UInt8)))) :=
 lt1 (decide (i_3 < (List.length l_1 : Int))) fun v_6 =>
 if v_6 = true then
  Option.bind (idxL l_1 i_3) fun v_7 =>
  Option.bind (apL 1 o_2 v_7) fun o_8 =>
  lt1 (w64 (i_3 + (1 : Int))) fun v_11 =>
  some (.inl (o_8, v_11))
 else
  some (.inr o_2)

def ref01_Join (k : Nat) (l_1 : (List (List UInt8))) : Option (((List UInt8))) :=
 Option.bind (
  loopO (fun s => ref01_Join.b1 k l_1 s.1 s.2) k (([] : (List UInt8)), (0 : Int))
 ) fun o_12 =>
  some o_12

def ref09_Bytes.b1 (k : Nat) (e_1 : api_Event) (l_19 : (List (List UInt8))) (i_20 : Int) : Option (((List (List UInt8)) × Int) ⊕ (((List (List UInt8))))) :=
 lt1 (decide (i_20 < (List.length e_1.To : Int))) fun v_23 =>
 if v_23 = true then
  Option.bind (idxL e_1.To i_20) fun v_24 =>
  Option.bind (ref01_Dot k v_24.Dot) fun v_25 =>
  Option.bind (idxL e_1.To i_20) fun v_28 =>
  Option.bind (ref01_Blob k v_28.Device) fun v_29 =>
  Option.bind (apL 24 l_19 ([v_25, v_29] : (List (List UInt8)))) fun l_32 =>
  lt1 (w64 (i_20 + (1 : Int))) fun v_35 =>
  some (.inl (l_32, v_35))
 else
  some (.inr l_19)

def ref09_Bytes (k : Nat) (e_1 : api_Event) : Option (((List UInt8))) :=
 Option.bind (ref01_Dot k e_1.ID) fun v_3 =>
 Option.bind (ref01_Blob k e_1.Topic) fun v_6 =>
 Option.bind (ref01_Blob k e_1.Payload) fun v_9 =>
 Option.bind (ref01_Vector k e_1.Past) fun v_12 =>
 lt1 ((UN.ofI (List.length e_1.To : Int) : UInt64)) fun v_15 =>
 Option.bind (ref01_Put k v_15 (2 : Int)) fun v_16 =>
 Option.bind (
  loopO (fun s => ref09_Bytes.b1 k e_1 s.1 s.2) k (([v_3, v_6, v_9, v_12, v_16] : (List (List UInt8))), (0 : Int))
 ) fun l_36 =>
  Option.bind (ref01_Join k l_36) fun v_39 =>
  some v_39

def law09_num (k : Nat) (e_1 : Int) : Option ((Unit)) :=
 some ()

def slices_Clonebyte_byte (k : Nat) (s_1 : (List UInt8)) : Option (((List UInt8))) :=
 Option.bind (apL 1 ([] : (List UInt8)) s_1) fun x_3 =>
 some x_3

def wire_Read (k : Nat) (b_1 : (List UInt8)) : Option (((List UInt8) × Nat)) :=
 Option.bind (slices_Clonebyte_byte k b_1) fun v_2 =>
 some (v_2, (List.length v_2))

def wire_Reader_Failed (k : Nat) (o_1 : Nat) (n_2 : Nat) (is_3 : Bool) (made_4 : Bool) (x_6 : (List UInt8)) : Option ((Bool)) :=
 Option.bind (
  lt1 ((!is_3)) fun v_9 =>
  some v_9
 ) fun x_10 =>
  some x_10

def wire_Reader_take (k : Nat) (n_1 : Int) (o_2 : Nat) (n_3 : Nat) (is_4 : Bool) (made_5 : Bool) (x_7 : (List UInt8)) : Option ((Nat × Nat × Bool × Nat × Nat × Bool × Bool)) :=
 Option.bind (wire_Reader_Failed k o_2 n_3 is_4 made_5 x_7) fun v_10 =>
 if v_10 = true then
  some (0, 0, false, o_2, n_3, is_4, made_5)
 else
  Option.bind (
   lt1 (decide (n_1 < (0 : Int))) fun v_11 =>
   if v_11 = true then
    some true
   else
    lt1 (decide (n_1 > ((n_3 : Nat) : Int))) fun v_12 =>
    some v_12
  ) fun x_13 =>
   if x_13 = true then
    some (0, 0, false, 0, 0, false, true)
   else
    Option.bind (viewN o_2 n_3 (0 : Int) n_1) fun (o_14, n_15) =>
    Option.bind (viewN o_2 n_3 n_1 ((n_3 : Nat) : Int)) fun (o_16, n_17) =>
    some (o_14, n_15, true, o_16, n_17, is_4, made_5)

def slices_Clonebyte_byte'2 (k : Nat) (o_1 : Nat) (n_2 : Nat) (x_3 : (List UInt8)) : Option (((List UInt8))) :=
 Option.bind (apV 1 ([] : (List UInt8)) x_3 o_1 n_2) fun v_7 =>
 some v_7

def wire_Read'2 (k : Nat) (o_1 : Nat) (n_2 : Nat) (x_3 : (List UInt8)) : Option (((List UInt8) × Nat)) :=
 Option.bind (slices_Clonebyte_byte'2 k o_1 n_2 x_3) fun v_6 =>
 some (v_6, (List.length v_6))

def wire_Get.b1 (k : Nat) (n_2 : Nat) (o_1 : Nat) (x_3 : (List UInt8)) (n_9 : UInt64) (x_10 : Int) : Option ((UInt64 × Int) ⊕ ((UInt64))) :=
 lt1 (decide (x_10 < ((n_2 : Nat) : Int))) fun v_11 =>
 if v_11 = true then
  Option.bind (inX o_1 n_2 x_10) fun i_12 =>
  Option.bind (x_3[i_12]?) fun v_13 =>
  lt1 (UN.shl n_9 (UN.toN (8 : UInt64))) fun v_14 =>
  lt1 ((UN.to v_13 : UInt64)) fun v_15 =>
  lt1 ((v_14 ||| v_15)) fun v_16 =>
  lt1 (w64 (x_10 + (1 : Int))) fun v_17 =>
  some (.inl (v_16, v_17))
 else
  some (.inr n_9)

def wire_Get (k : Nat) (o_1 : Nat) (n_2 : Nat) (x_3 : (List UInt8)) : Option ((UInt64 × Int)) :=
 Option.bind (
  lt1 (decide (((n_2 : Nat) : Int) < (1 : Int))) fun v_6 =>
  if v_6 = true then
   some true
  else
   lt1 (decide (((n_2 : Nat) : Int) > (8 : Int))) fun v_7 =>
   some v_7
 ) fun x_8 =>
  if x_8 = true then
   some ((0 : UInt64), (2 : Int))
  else
   Option.bind (
    loopO (fun s => wire_Get.b1 k n_2 o_1 x_3 s.1 s.2) k ((0 : UInt64), (0 : Int))
   ) fun n_18 =>
    some (n_18, (0 : Int))

def wire_Reader_Number (k : Nat) (size_1 : Int) (o_2 : Nat) (n_3 : Nat) (is_4 : Bool) (made_5 : Bool) (x_7 : (List UInt8)) : Option ((UInt64 × Nat × Nat × Bool × Bool)) :=
 Option.bind (
  Option.bind (
   lt1 (decide (size_1 < (1 : Int))) fun v_10 =>
   lt1 (decide (size_1 > (8 : Int))) fun v_11 =>
   lt1 (bif v_10 then true else v_11) fun v_12 =>
   some v_12
  ) fun x_13 =>
   if x_13 = true then
    some (-1 : Int)
   else
    some size_1
 ) fun size_14 =>
  Option.bind (wire_Reader_take k size_14 o_2 n_3 is_4 made_5 x_7) fun (v_15, v_16, x_17, x_18, x_19, x_20, x_21) =>
  Option.bind (wire_Get k v_15 v_16 x_7) fun (v_22, v_23) =>
  some (v_22, x_18, x_19, x_20, x_21)

def wire_Reader_Dot (k : Nat) (o_1 : Nat) (n_2 : Nat) (is_3 : Bool) (made_4 : Bool) (x_6 : (List UInt8)) : Option ((api_Dot × Nat × Nat × Bool × Bool)) :=
 Option.bind (wire_Reader_take k (9 : Int) o_1 n_2 is_3 made_4 x_6) fun (v_10, v_11, x_12, x_13, x_14, x_15, x_16) =>
 Option.bind (wire_Read'2 k v_10 v_11 x_6) fun (v_17, x_18) =>
 Option.bind (wire_Reader_Number k (1 : Int) (0) x_18 true true v_17) fun (v_22, x_23, x_24, x_25, x_26) =>
 lt1 (w64 (UN.toN v_22 : Int)) fun v_27 =>
 Option.bind (wire_Reader_Number k (8 : Int) x_23 x_24 x_25 x_26 v_17) fun (v_28, x_29, x_30, x_31, x_32) =>
 some ((api_Dot.mk v_27 v_28), x_13, x_14, x_15, x_16)

def wire_Reader_Bytes (k : Nat) (n_1 : Int) (o_2 : Nat) (n_3 : Nat) (is_4 : Bool) (made_5 : Bool) (x_7 : (List UInt8)) : Option ((Nat × Nat × Nat × Nat × Bool × Bool)) :=
 Option.bind (wire_Reader_take k n_1 o_2 n_3 is_4 made_5 x_7) fun (v_10, v_11, x_12, x_13, x_14, x_15, x_16) =>
 some (v_10, v_11, x_13, x_14, x_15, x_16)

def wire_Reader_Blob (k : Nat) (o_1 : Nat) (n_2 : Nat) (is_3 : Bool) (made_4 : Bool) (x_6 : (List UInt8)) : Option ((Nat × Nat × Nat × Nat × Bool × Bool)) :=
 Option.bind (wire_Reader_Number k (2 : Int) o_1 n_2 is_3 made_4 x_6) fun (v_9, x_10, x_11, x_12, x_13) =>
 lt1 (w64 (UN.toN v_9 : Int)) fun v_14 =>
 Option.bind (wire_Reader_Bytes k v_14 x_10 x_11 x_12 x_13 x_6) fun (v_15, x_16, x_17, x_18, x_19, x_20) =>
 some (v_15, x_16, x_17, x_18, x_19, x_20)

def wire_Reader_Vector_1 (k : Nat) (o_2 : Nat) (n_3 : Nat) (is_4 : Bool) (made_5 : Bool) (x_7 : (List UInt8)) : Option ((UInt64 × Nat × Nat × Bool × Bool)) :=
 Option.bind (wire_Reader_Number k (8 : Int) o_2 n_3 is_4 made_5 x_7) fun (v_10, x_11, x_12, x_13, x_14) =>
 some (v_10, x_11, x_12, x_13, x_14)

def wire_Reader_Vector.b1 (k : Nat) (v_17 : (List UInt8)) (v_23 : (Vector UInt64 16)) (x_24 : Nat) (x_25 : Nat) (x_26 : Bool) (x_27 : Bool) (x_28 : Int) : Option (((Vector UInt64 16) × Nat × Nat × Bool × Bool × Int) ⊕ (((Vector UInt64 16)))) :=
 lt1 (decide (x_28 < (16 : Int))) fun v_29 =>
 if v_29 = true then
  Option.bind (wire_Reader_Vector_1 k x_24 x_25 x_26 x_27 v_17) fun (v_30, x_31, x_32, x_33, x_34) =>
  Option.bind (inV 16 x_28) fun i_35 =>
  lt1 ((putV v_23 i_35 v_30)) fun v_36 =>
  lt1 (w64 (x_28 + (1 : Int))) fun v_37 =>
  some (.inl (v_36, x_31, x_32, x_33, x_34, v_37))
 else
  some (.inr v_23)

def wire_Reader_Vector (k : Nat) (o_1 : Nat) (n_2 : Nat) (is_3 : Bool) (made_4 : Bool) (x_6 : (List UInt8)) : Option (((Vector UInt64 16) × Nat × Nat × Bool × Bool)) :=
 Option.bind (wire_Reader_take k (128 : Int) o_1 n_2 is_3 made_4 x_6) fun (v_10, v_11, x_12, x_13, x_14, x_15, x_16) =>
 Option.bind (wire_Read'2 k v_10 v_11 x_6) fun (v_17, x_18) =>
 Option.bind (
  loopO (fun s => wire_Reader_Vector.b1 k v_17 s.1 s.2.1 s.2.2.1 s.2.2.2.1 s.2.2.2.2.1 s.2.2.2.2.2) k ((Vector.replicate 16 (0 : UInt64)), 0, x_18, true, true, (0 : Int))
 ) fun v_38 =>
  some (v_38, x_13, x_14, x_15, x_16)

def wire_Reader_Left (k : Nat) (o_1 : Nat) (n_2 : Nat) (is_3 : Bool) (made_4 : Bool) (x_6 : (List UInt8)) : Option ((Int)) :=
 Option.bind (wire_Reader_Failed k o_1 n_2 is_3 made_4 x_6) fun v_9 =>
 if v_9 = true then
  some (0 : Int)
 else
  some ((n_2 : Nat) : Int)

def wire_Reader_End (k : Nat) (o_1 : Nat) (n_2 : Nat) (is_3 : Bool) (made_4 : Bool) (x_6 : (List UInt8)) : Option ((Int)) :=
 Option.bind (
  lt1 ((!made_4)) fun v_9 =>
  some v_9
 ) fun x_10 =>
  if x_10 = true then
   some (1 : Int)
  else
   Option.bind (
    Option.bind (wire_Reader_Failed k o_1 n_2 is_3 made_4 x_6) fun v_11 =>
    if v_11 = true then
     some true
    else
     lt1 (decide (((n_2 : Nat) : Int) > (0 : Int))) fun v_12 =>
     some v_12
   ) fun x_13 =>
    if x_13 = true then
     some (4 : Int)
    else
     some (0 : Int)

def event_May'2.b1 (k : Nat) (To_6 : (List api_Dest)) (x_26 : Bool) (x_27 : Int) : Option ((Bool × Int) ⊕ ((Bool))) :=
 lt1 (decide (x_27 < (List.length To_6 : Int))) fun v_28 =>
 if v_28 = true then
  Option.bind (idxL To_6 x_27) fun v_29 =>
  Option.bind (
   Option.bind (event_MayDot k v_29.Dot) fun v_31 =>
   if v_31 = true then
    Option.bind (event_MayName k v_29.Device) fun v_32 =>
    lt1 ((x_27 == (0 : Int))) fun v_33 =>
    if v_32 = true then
     if v_33 = true then
      some true
     else
      lt1 (w64 (x_27 - (1 : Int))) fun v_34 =>
      Option.bind (idxL To_6 v_34) fun v_35 =>
      Option.bind (event_Less k v_35.Dot v_29.Dot) fun v_36 =>
      some v_36
    else
     some false
   else
    some false
  ) fun x_37 =>
   lt1 ((!x_37)) fun v_38 =>
   if v_38 = true then
    some (.inr x_37)
   else
    lt1 (w64 (x_27 + (1 : Int))) fun v_39 =>
    some (.inl (x_37, v_39))
 else
  some (.inr x_26)

def event_May'2 (k : Nat) (ID_1 : api_Dot) (Topic_2 : (List UInt8)) (o_3 : Nat) (n_4 : Nat) (Past_5 : (Vector UInt64 16)) (To_6 : (List api_Dest)) (x_7 : (List UInt8)) : Option ((Bool)) :=
 Option.bind (
  Option.bind (event_MayDot k ID_1) fun v_11 =>
  lt1 ((!v_11)) fun v_12 =>
  if v_12 = true then
   some true
  else
   Option.bind (event_mayVector k Past_5) fun v_13 =>
   lt1 ((!v_13)) fun v_14 =>
   if v_14 = true then
    some true
   else
    lt1 (w64 (ID_1.Region - (1 : Int))) fun v_15 =>
    Option.bind (inV 16 v_15) fun i_16 =>
    lt1 ((getV Past_5 i_16)) fun v_17 =>
    lt1 ((ID_1.Count - (1 : UInt64))) fun v_18 =>
    lt1 ((!(v_17 == v_18))) fun v_19 =>
    some v_19
 ) fun x_20 =>
  if x_20 = true then
   some false
  else
   Option.bind (
    Option.bind (event_MayName k Topic_2) fun v_21 =>
    lt1 ((!v_21)) fun v_22 =>
    if v_22 = true then
     some true
    else
     lt1 (decide (((n_4 : Nat) : Int) > (512 : Int))) fun v_23 =>
     if v_23 = true then
      some true
     else
      lt1 (decide ((List.length To_6 : Int) > (1024 : Int))) fun v_24 =>
      some v_24
   ) fun x_25 =>
    if x_25 = true then
     some false
    else
     Option.bind (
      loopO (fun s => event_May'2.b1 k To_6 s.1 s.2) k (true, (0 : Int))
     ) fun x_40 =>
      some x_40

def wire_Blob'2 (k : Nat) (o_1 : Nat) (n_2 : Nat) (x_3 : (List UInt8)) : Option (((List UInt8) × Int)) :=
 lt1 (decide (((n_2 : Nat) : Int) > (65535 : Int))) fun v_6 =>
 if v_6 = true then
  some (([] : (List UInt8)), (3 : Int))
 else
  lt1 ((UN.ofI ((n_2 : Nat) : Int) : UInt64)) fun v_7 =>
  Option.bind (wire_Put k v_7 (2 : Int)) fun (v_8, v_9) =>
  Option.bind (apV 1 v_8 x_3 o_1 n_2) fun v_12 =>
  some (v_12, (0 : Int))

def event_bytes'2.b1 (k : Nat) (To_6 : (List api_Dest)) (x_47 : (List UInt8)) (x_48 : Int) : Option (((List UInt8) × Int) ⊕ (((List UInt8)))) :=
 lt1 (decide (x_48 < (List.length To_6 : Int))) fun v_51 =>
 if v_51 = true then
  Option.bind (idxL To_6 x_48) fun v_52 =>
  Option.bind (wire_Dot k v_52.Dot) fun (v_54, v_55) =>
  Option.bind (event_bytes_1'2 k v_54 v_55 x_47) fun x_58 =>
  Option.bind (wire_Blob k v_52.Device) fun (v_61, v_62) =>
  Option.bind (event_bytes_1'2 k v_61 v_62 x_58) fun x_65 =>
  lt1 (w64 (x_48 + (1 : Int))) fun v_68 =>
  some (.inl (x_65, v_68))
 else
  some (.inr x_47)

def event_bytes'2 (k : Nat) (ID_1 : api_Dot) (Topic_2 : (List UInt8)) (o_3 : Nat) (n_4 : Nat) (Past_5 : (Vector UInt64 16)) (To_6 : (List api_Dest)) (x_7 : (List UInt8)) : Option (((List UInt8))) :=
 Option.bind (wire_Dot k ID_1) fun (v_12, v_13) =>
 Option.bind (event_bytes_1 k v_12 v_13) fun x_16 =>
 Option.bind (wire_Blob k Topic_2) fun (v_19, v_20) =>
 Option.bind (event_bytes_1'2 k v_19 v_20 x_16) fun x_23 =>
 Option.bind (wire_Blob'2 k o_3 n_4 x_7) fun (v_26, v_27) =>
 Option.bind (event_bytes_1'2 k v_26 v_27 x_23) fun x_30 =>
 Option.bind (wire_Vector k Past_5) fun v_33 =>
 Option.bind (event_bytes_1'2 k v_33 (0 : Int) x_30) fun x_36 =>
 lt1 ((UN.ofI (List.length To_6 : Int) : UInt64)) fun v_39 =>
 Option.bind (wire_Put k v_39 (2 : Int)) fun (v_40, v_41) =>
 Option.bind (event_bytes_1'2 k v_40 v_41 x_36) fun x_44 =>
 Option.bind (
  loopO (fun s => event_bytes'2.b1 k To_6 s.1 s.2) k (x_44, (0 : Int))
 ) fun x_69 =>
  some x_69

def slices_Equalbyte_byte.b1 (k : Nat) (s1_1 : (List UInt8)) (s2_2 : (List UInt8)) (x_4 : Int) : Option ((Int) ⊕ ((Unit) ⊕ ((Bool)))) :=
 lt1 (decide (x_4 < (List.length s1_1 : Int))) fun v_5 =>
 if v_5 = true then
  Option.bind (idxL s1_1 x_4) fun v_6 =>
  Option.bind (idxL s2_2 x_4) fun v_7 =>
  lt1 ((!(v_6 == v_7))) fun v_8 =>
  if v_8 = true then
   some (.inr (.inr false))
  else
   lt1 (w64 (x_4 + (1 : Int))) fun v_9 =>
   some (.inl v_9)
 else
  some (.inr (.inl ()))

def slices_Equalbyte_byte (k : Nat) (s1_1 : (List UInt8)) (s2_2 : (List UInt8)) : Option ((Bool)) :=
 lt1 (((List.length s1_1 : Int) != (List.length s2_2 : Int))) fun v_3 =>
 if v_3 = true then
  some false
 else
  Option.bind (
   Option.bind (loopO (fun s => slices_Equalbyte_byte.b1 k s1_1 s2_2 s) k (0 : Int)) fun t => match t with
   | (.inl _) =>
    some (.inl ())
   | (.inr q) =>
    some (.inr q)
   : Option ((Unit) ⊕ ((Bool)))) fun t => match t with
  | (.inl _) =>
   some true
  | (.inr q) =>
   some q

def event_Of'2.b1 (k : Nat) (v_39 : Int) (v_3 : (List UInt8)) (x_40 : Nat) (x_41 : Nat) (is_42 : Bool) (made_43 : Bool) (To_44 : (List api_Dest)) (x_45 : Int) : Option ((Nat × Nat × Bool × Bool × (List api_Dest) × Int) ⊕ ((Nat × Nat × Bool × Bool × (List api_Dest)))) :=
 lt1 (decide (x_45 < v_39)) fun v_48 =>
 if v_48 = true then
  Option.bind (wire_Reader_Dot k x_40 x_41 is_42 made_43 v_3) fun (v_49, x_50, x_51, x_52, x_53) =>
  Option.bind (wire_Reader_Blob k x_50 x_51 x_52 x_53 v_3) fun (v_54, x_55, x_56, x_57, x_58, x_59) =>
  Option.bind (viewL v_3 v_54 x_55) fun v_60 =>
  Option.bind (apL 32 To_44 ([(api_Dest.mk v_49 v_60)] : (List api_Dest))) fun x_61 =>
  lt1 (w64 (x_45 + (1 : Int))) fun v_64 =>
  some (.inl (x_56, x_57, x_58, x_59, x_61, v_64))
 else
  some (.inr (x_40, x_41, is_42, made_43, To_44))

def event_Of'2 (k : Nat) (b_1 : (List UInt8)) : Option ((api_Dot × (List UInt8) × (List UInt8) × Nat × Nat × (Vector UInt64 16) × (List api_Dest) × Int)) :=
 Option.bind (wire_Read k b_1) fun (v_3, x_4) =>
 Option.bind (wire_Reader_Dot k (0) x_4 true true v_3) fun (v_8, x_9, x_10, x_11, x_12) =>
 Option.bind (wire_Reader_Blob k x_9 x_10 x_11 x_12 v_3) fun (v_13, x_14, x_15, x_16, x_17, x_18) =>
 Option.bind (viewL v_3 v_13 x_14) fun v_19 =>
 Option.bind (wire_Reader_Blob k x_15 x_16 x_17 x_18 v_3) fun (v_20, x_21, x_22, x_23, x_24, x_25) =>
 Option.bind (wire_Reader_Vector k x_22 x_23 x_24 x_25 v_3) fun (v_26, x_27, x_28, x_29, x_30) =>
 Option.bind (
  Option.bind (wire_Reader_Number k (2 : Int) x_27 x_28 x_29 x_30 v_3) fun (v_32, x_33, x_34, x_35, x_36) =>
  lt1 (w64 (UN.toN v_32 : Int)) fun v_37 =>
  Option.bind (wire_Reader_Left k x_33 x_34 x_35 x_36 v_3) fun v_38 =>
  lt1 (minI v_37 v_38) fun v_39 =>
  loopO (fun s => event_Of'2.b1 k v_39 v_3 s.1 s.2.1 s.2.2.1 s.2.2.2.1 s.2.2.2.2.1 s.2.2.2.2.2) k (x_33, x_34, x_35, x_36, ([] : (List api_Dest)), (0 : Int))
 ) fun (x_65, x_66, is_67, made_68, To_69) =>
  Option.bind (
   Option.bind (wire_Reader_End k x_65 x_66 is_67 made_68 v_3) fun v_72 =>
   lt1 ((v_72 != (0 : Int))) fun v_73 =>
   if v_73 = true then
    some true
   else
    Option.bind (event_May'2 k v_8 v_19 v_20 x_21 v_26 To_69 v_3) fun v_74 =>
    lt1 ((!v_74)) fun v_75 =>
    if v_75 = true then
     some true
    else
     Option.bind (event_bytes'2 k v_8 v_19 v_20 x_21 v_26 To_69 v_3) fun v_76 =>
     Option.bind (slices_Equalbyte_byte k v_76 b_1) fun v_79 =>
     lt1 ((!v_79)) fun v_80 =>
     some v_80
  ) fun x_81 =>
   if x_81 = true then
    some ((api_Dot.mk (0 : Int) (0 : UInt64)), ([] : (List UInt8)), v_3, 0, 0, (Vector.replicate 16 (0 : UInt64)), ([] : (List api_Dest)), (4 : Int))
   else
    some (v_8, v_19, v_3, v_20, x_21, v_26, To_69, (0 : Int))

def ref01_Reader_Bytes (k : Nat) (n_1 : Int) (r_2 : ref01_Reader) : Option (((List UInt8) × ref01_Reader)) :=
 Option.bind (
  lt1 (decide (n_1 < (0 : Int))) fun v_4 =>
  lt1 (bif r_2.Failed then true else v_4) fun v_5 =>
  if v_5 = true then
   some true
  else
   lt1 (w64 ((List.length r_2.B : Int) - r_2.At)) fun v_6 =>
   lt1 (decide (n_1 > v_6)) fun v_7 =>
   some v_7
 ) fun x_8 =>
  if x_8 = true then
   lt1 ({ r_2 with Failed := true }) fun r_9 =>
   some (([] : (List UInt8)), r_9)
  else
   lt1 (w64 (r_2.At + n_1)) fun v_10 =>
   lt1 ({ r_2 with At := v_10 }) fun r_11 =>
   lt1 (w64 (r_11.At - n_1)) fun v_12 =>
   Option.bind (subL r_11.B v_12 r_11.At) fun v_13 =>
   some (v_13, r_11)

def ref01_Get.b1 (k : Nat) (b_1 : (List UInt8)) (n_2 : UInt64) (i_3 : Int) : Option ((UInt64 × Int) ⊕ ((UInt64))) :=
 lt1 (decide (i_3 < (List.length b_1 : Int))) fun v_4 =>
 if v_4 = true then
  lt1 ((n_2 * (256 : UInt64))) fun v_5 =>
  Option.bind (idxL b_1 i_3) fun v_6 =>
  lt1 ((UN.to v_6 : UInt64)) fun v_7 =>
  lt1 ((v_5 + v_7)) fun v_8 =>
  lt1 (w64 (i_3 + (1 : Int))) fun v_9 =>
  some (.inl (v_8, v_9))
 else
  some (.inr n_2)

def ref01_Get (k : Nat) (b_1 : (List UInt8)) : Option ((UInt64)) :=
 Option.bind (
  loopO (fun s => ref01_Get.b1 k b_1 s.1 s.2) k ((0 : UInt64), (0 : Int))
 ) fun n_10 =>
  some n_10

def ref01_Reader_Dot (k : Nat) (r_1 : ref01_Reader) : Option ((api_Dot × ref01_Reader)) :=
 Option.bind (ref01_Reader_Bytes k (9 : Int) r_1) fun (v_4, x_5) =>
 lt1 (((List.length v_4 : Int) == (0 : Int))) fun v_6 =>
 if v_6 = true then
  some ((api_Dot.mk (0 : Int) (0 : UInt64)), x_5)
 else
  Option.bind (idxL v_4 (0 : Int)) fun v_7 =>
  lt1 (w64 (UN.toN v_7 : Int)) fun v_8 =>
  Option.bind (subL v_4 (1 : Int) (List.length v_4 : Int)) fun v_9 =>
  Option.bind (ref01_Get k v_9) fun v_10 =>
  some ((api_Dot.mk v_8 v_10), x_5)

def ref01_Reader_Number (k : Nat) (size_1 : Int) (r_2 : ref01_Reader) : Option ((UInt64 × ref01_Reader)) :=
 Option.bind (
  Option.bind (
   lt1 (decide (size_1 < (1 : Int))) fun v_4 =>
   lt1 (decide (size_1 > (8 : Int))) fun v_5 =>
   lt1 (bif v_4 then true else v_5) fun v_6 =>
   some v_6
  ) fun x_7 =>
   if x_7 = true then
    lt1 ({ r_2 with Failed := true }) fun r_8 =>
    some r_8
   else
    some r_2
 ) fun r_9 =>
  Option.bind (ref01_Reader_Bytes k size_1 r_9) fun (v_10, x_11) =>
  Option.bind (ref01_Get k v_10) fun v_12 =>
  some (v_12, x_11)

def ref01_Reader_Blob (k : Nat) (r_1 : ref01_Reader) : Option (((List UInt8) × ref01_Reader)) :=
 Option.bind (ref01_Reader_Number k (2 : Int) r_1) fun (v_3, x_4) =>
 lt1 (w64 (UN.toN v_3 : Int)) fun v_5 =>
 Option.bind (ref01_Reader_Bytes k v_5 x_4) fun (v_6, x_7) =>
 some (v_6, x_7)

def ref01_Reader_Vector.b1 (k : Nat) (v_5 : (List UInt8)) (v_7 : (Vector UInt64 16)) (i_8 : Int) : Option (((Vector UInt64 16) × Int) ⊕ (((Vector UInt64 16)))) :=
 Option.bind (divI (List.length v_5 : Int) (8 : Int)) fun v_9 =>
 lt1 (decide (i_8 < v_9)) fun v_10 =>
 if v_10 = true then
  lt1 (w64 ((8 : Int) * i_8)) fun v_11 =>
  lt1 (w64 ((8 : Int) * i_8)) fun v_12 =>
  lt1 (w64 (v_12 + (8 : Int))) fun v_13 =>
  Option.bind (subL v_5 v_11 v_13) fun v_14 =>
  Option.bind (ref01_Get k v_14) fun v_15 =>
  Option.bind (inV 16 i_8) fun i_16 =>
  lt1 ((putV v_7 i_16 v_15)) fun v_17 =>
  lt1 (w64 (i_8 + (1 : Int))) fun v_18 =>
  some (.inl (v_17, v_18))
 else
  some (.inr v_7)

def ref01_Reader_Vector (k : Nat) (r_1 : ref01_Reader) : Option (((Vector UInt64 16) × ref01_Reader)) :=
 Option.bind (ref01_Reader_Bytes k (128 : Int) r_1) fun (v_5, x_6) =>
 Option.bind (
  loopO (fun s => ref01_Reader_Vector.b1 k v_5 s.1 s.2) k ((Vector.replicate 16 (0 : UInt64)), (0 : Int))
 ) fun v_19 =>
  some (v_19, x_6)

def ref01_Reader_Left (k : Nat) (r_1 : ref01_Reader) : Option ((Int)) :=
 if r_1.Failed = true then
  some (0 : Int)
 else
  lt1 (w64 ((List.length r_1.B : Int) - r_1.At)) fun v_3 =>
  some v_3

def ref01_Reader_End (k : Nat) (r_1 : ref01_Reader) : Option ((Int)) :=
 Option.bind (
  if r_1.Failed = true then
   some true
  else
   Option.bind (ref01_Reader_Left k r_1) fun v_3 =>
   lt1 (decide (v_3 > (0 : Int))) fun v_4 =>
   some v_4
 ) fun x_5 =>
  if x_5 = true then
   some (4 : Int)
  else
   some (0 : Int)

def ref09_Of.b1 (k : Nat) (v_15 : Int) (r_16 : ref01_Reader) (To_17 : (List api_Dest)) (i_18 : Int) : Option ((ref01_Reader × (List api_Dest) × Int) ⊕ ((ref01_Reader × (List api_Dest)))) :=
 Option.bind (
  lt1 (decide (i_18 < v_15)) fun v_21 =>
  if v_21 = true then
   lt1 ((!r_16.Failed)) fun v_22 =>
   some v_22
  else
   some false
 ) fun x_23 =>
  if x_23 = true then
   Option.bind (ref01_Reader_Dot k r_16) fun (v_25, x_26) =>
   lt1 ({ (api_Dest.mk (api_Dot.mk (0 : Int) (0 : UInt64)) ([] : (List UInt8))) with Dot := v_25 }) fun t_27 =>
   Option.bind (ref01_Reader_Blob k x_26) fun (v_28, x_29) =>
   lt1 ({ t_27 with Device := v_28 }) fun t_30 =>
   Option.bind (apL 32 To_17 ([t_30] : (List api_Dest))) fun x_31 =>
   lt1 (w64 (i_18 + (1 : Int))) fun v_34 =>
   some (.inl (x_29, x_31, v_34))
  else
   some (.inr (r_16, To_17))

def ref09_Of (k : Nat) (b_1 : (List UInt8)) : Option ((api_Event × Bool)) :=
 Option.bind (ref01_Reader_Dot k (ref01_Reader.mk b_1 (0 : Int) false)) fun (v_5, x_6) =>
 Option.bind (ref01_Reader_Blob k x_6) fun (v_7, x_8) =>
 Option.bind (ref01_Reader_Blob k x_8) fun (v_9, x_10) =>
 Option.bind (ref01_Reader_Vector k x_10) fun (v_11, x_12) =>
 Option.bind (ref01_Reader_Number k (2 : Int) x_12) fun (v_13, x_14) =>
 lt1 (w64 (UN.toN v_13 : Int)) fun v_15 =>
 Option.bind (
  loopO (fun s => ref09_Of.b1 k v_15 s.1 s.2.1 s.2.2) k (x_14, ([] : (List api_Dest)), (0 : Int))
 ) fun (r_35, To_36) =>
  Option.bind (
   Option.bind (ref01_Reader_End k r_35) fun v_39 =>
   lt1 ((v_39 != (0 : Int))) fun v_40 =>
   if v_40 = true then
    some true
   else
    Option.bind (ref09_May k (api_Event.mk v_5 v_7 v_9 v_11 To_36)) fun v_41 =>
    lt1 ((!v_41)) fun v_42 =>
    some v_42
  ) fun x_43 =>
   if x_43 = true then
    some ((api_Event.mk (api_Dot.mk (0 : Int) (0 : UInt64)) ([] : (List UInt8)) ([] : (List UInt8)) (Vector.replicate 16 (0 : UInt64)) ([] : (List api_Dest))), false)
   else
    some ((api_Event.mk v_5 v_7 v_9 v_11 To_36), true)

def ref09_Same.b1 (k : Nat) (To_6 : (List api_Dest)) (b_7 : api_Event) (i_20 : Int) : Option ((Int) ⊕ ((Unit) ⊕ ((Bool)))) :=
 lt1 (decide (i_20 < (List.length To_6 : Int))) fun v_21 =>
 if v_21 = true then
  Option.bind (idxL To_6 i_20) fun v_22 =>
  Option.bind (idxL b_7.To i_20) fun v_23 =>
  lt1 ((!(eq_api_Dest v_22 v_23))) fun v_24 =>
  if v_24 = true then
   some (.inr (.inr false))
  else
   lt1 (w64 (i_20 + (1 : Int))) fun v_25 =>
   some (.inl v_25)
 else
  some (.inr (.inl ()))

def ref09_Same (k : Nat) (ID_1 : api_Dot) (Topic_2 : (List UInt8)) (o_3 : Nat) (n_4 : Nat) (Past_5 : (Vector UInt64 16)) (To_6 : (List api_Dest)) (b_7 : api_Event) (x_8 : (List UInt8)) : Option ((Bool)) :=
 Option.bind (
  lt1 ((!(eq_api_Dot ID_1 b_7.ID))) fun v_13 =>
  if v_13 = true then
   some true
  else
   lt1 ((Topic_2 != b_7.Topic)) fun v_14 =>
   if v_14 = true then
    some true
   else
    Option.bind (viewL x_8 o_3 n_4) fun v_15 =>
    lt1 ((v_15 != b_7.Payload)) fun v_16 =>
    if v_16 = true then
     some true
    else
     lt1 ((!((eqV (fun x y => x == y)) Past_5 b_7.Past))) fun v_17 =>
     if v_17 = true then
      some true
     else
      lt1 (((List.length To_6 : Int) != (List.length b_7.To : Int))) fun v_18 =>
      some v_18
 ) fun x_19 =>
  if x_19 = true then
   some false
  else
   Option.bind (
    Option.bind (loopO (fun s => ref09_Same.b1 k To_6 b_7 s) k (0 : Int)) fun t => match t with
    | (.inl _) =>
     some (.inl ())
    | (.inr q) =>
     some (.inr q)
    : Option ((Unit) ⊕ ((Bool)))) fun t => match t with
   | (.inl _) =>
    some true
   | (.inr q) =>
    some q

def law09_EventBytes'2.b1 (k : Nat) (x_34 : Nat) (x_33 : Nat) (x_58 : (List UInt8)) (x_59 : Int) : Option (((List UInt8) × Int) ⊕ ((Unit))) :=
 lt1 (decide (x_59 < ((x_34 : Nat) : Int))) fun v_60 =>
 if v_60 = true then
  Option.bind (inX x_33 x_34 x_59) fun i_61 =>
  Option.bind (setO' x_58 i_61 (9 : UInt8)) fun x_62 =>
  lt1 (w64 (x_59 + (1 : Int))) fun v_63 =>
  some (.inl (x_62, v_63))
 else
  some (.inr ())

def law09_EventBytes'2 (k : Nat) (t_1 : api_Event) (a_2 : (List UInt8)) : Option ((Bool)) :=
 Option.bind (
  Option.bind (ref09_Much k t_1) fun v_4 =>
  lt1 (decide ((List.length a_2 : Int) > (70000 : Int))) fun v_5 =>
  lt1 (bif v_4 then true else v_5) fun v_6 =>
  some v_6
 ) fun x_7 =>
  if x_7 = true then
   Option.bind (law09_known k) fun v_8 =>
   some v_8
  else
   Option.bind (event_Bytes k t_1) fun (v_9, v_10) =>
   Option.bind (event_May k t_1) fun v_13 =>
   Option.bind (ref09_May k t_1) fun v_14 =>
   lt1 ((v_13 != v_14)) fun v_15 =>
   if v_15 = true then
    some false
   else
    Option.bind (
     Option.bind (ref09_May k t_1) fun v_16 =>
     if v_16 = true then
      Option.bind (
       Option.bind (ref09_Bytes k t_1) fun v_17 =>
       lt1 ((v_9 != v_17)) fun v_20 =>
       Option.bind (if (!v_20) = true then law09_num k v_10 else some default) fun _ =>
       lt1 ((v_10 != (0 : Int))) fun v_22 =>
       lt1 (bif v_20 then true else v_22) fun v_23 =>
       some v_23
      ) fun x_24 =>
       if x_24 = true then
        some (.inr false)
       else
        some (.inl ())
     else
      Option.bind (
       lt1 (((List.length v_9 : Int) != (0 : Int))) fun v_25 =>
       Option.bind (if (!v_25) = true then law09_num k v_10 else some default) fun _ =>
       lt1 ((v_10 != (2 : Int))) fun v_27 =>
       lt1 (bif v_25 then true else v_27) fun v_28 =>
       some v_28
      ) fun x_29 =>
       if x_29 = true then
        some (.inr false)
       else
        some (.inl ())
     : Option ((Unit) ⊕ ((Bool)))) fun t => match t with
    | (.inl _) =>
     Option.bind (event_Of'2 k a_2) fun (v_30, v_31, x_32, x_33, x_34, x_35, x_36, x_37) =>
     Option.bind (ref09_Of k a_2) fun (v_43, v_44) =>
     Option.bind (
      Option.bind (ref09_Same k v_30 v_31 x_33 x_34 x_35 x_36 v_43 x_32) fun v_46 =>
      lt1 ((!v_46)) fun v_47 =>
      Option.bind (if (!v_47) = true then law09_num k x_37 else some default) fun _ =>
      lt1 ((x_37 == (0 : Int))) fun v_49 =>
      lt1 ((v_49 != v_44)) fun v_50 =>
      lt1 (bif v_47 then true else v_50) fun v_51 =>
      lt1 ((!v_44)) fun v_52 =>
      Option.bind (if ((!v_51) && v_52) = true then law09_num k x_37 else some default) fun _ =>
      lt1 ((x_37 != (4 : Int))) fun v_54 =>
      lt1 (bif v_52 then v_54 else false) fun v_55 =>
      lt1 (bif v_51 then true else v_55) fun v_56 =>
      some v_56
     ) fun x_57 =>
      if x_57 = true then
       some false
      else
       Option.bind (
        loopO (fun s => law09_EventBytes'2.b1 k x_34 x_33 s.1 s.2) k (x_32, (0 : Int))
       ) fun _ =>
        Option.bind (
         lt1 ((a_2 == a_2)) fun v_64 =>
         Option.bind (if v_64 = true then law09_known k else some default) fun v_65 =>
         lt1 (bif v_64 then v_65 else false) fun v_66 =>
         some v_66
        ) fun x_67 =>
         some x_67
    | (.inr q) =>
     some q

end
end Go.Proofs.Ythoggbomakolkaa
