/- The functions as plain Lean functions: no program and no memory here. -/
import Derived.Test.YtkbkdfcakpbojaaFp
namespace Go.Proofs.Ytkbkdfcakpbojaa
open Fw
set_option linter.unusedVariables false
noncomputable section

structure law01_Step where
  Kind : Int
  N : Int
  deriving DecidableEq, Inhabited

def eq_law01_Step (x y : law01_Step) : Bool := ((x.Kind == y.Kind) && ((x.N == y.N) && true))
theorem eq_law01_Step_iff {x y : law01_Step} : eq_law01_Step x y = true ↔ x = y := by
  cases x; cases y; simp [eq_law01_Step]

structure api_Dot where
  Region : Int
  Count : UInt64
  deriving DecidableEq, Inhabited

def eq_api_Dot (x y : api_Dot) : Bool := ((x.Region == y.Region) && ((x.Count == y.Count) && true))
theorem eq_api_Dot_iff {x y : api_Dot} : eq_api_Dot x y = true ↔ x = y := by
  cases x; cases y; simp [eq_api_Dot]

structure ref01_Reader where
  B : (List UInt8)
  At : Int
  Failed : Bool
  deriving DecidableEq, Inhabited

def wire_Put.b1 (k : Nat) (size_2 : Int) (n_1 : UInt64) (b_13 : (List UInt8)) (x_14 : Int) : Option (((List UInt8) × Int) ⊕ (((List UInt8)))) :=
 lt1 (decide (x_14 < size_2)) fun v_17 =>
 if v_17 = true then
  lt1 (w64 (size_2 - (1 : Int))) fun v_18 =>
  lt1 (w64 (v_18 - x_14)) fun v_19 =>
  lt1 (w64 ((8 : Int) * v_19)) fun v_20 =>
  Option.bind (shrU n_1 v_20) fun v_21 =>
  lt1 ((UN.to v_21 : UInt8)) fun v_22 =>
  Option.bind (apL 1 b_13 ([v_22] : (List UInt8))) fun b_23 =>
  lt1 (w64 (x_14 + (1 : Int))) fun v_26 =>
  some (.inl (b_23, v_26))
 else
  some (.inr b_13)

def wire_Put (k : Nat) (n_1 : UInt64) (size_2 : Int) : Option (((List UInt8) × Int)) :=
 Option.bind (
  lt1 (decide (size_2 < (1 : Int))) fun v_3 =>
  lt1 (decide (size_2 > (8 : Int))) fun v_4 =>
  lt1 (bif v_3 then true else v_4) fun v_5 =>
  lt1 (decide (size_2 < (8 : Int))) fun v_6 =>
  lt1 (w64 ((8 : Int) * size_2)) fun v_7 =>
  Option.bind (if ((!v_5) && v_6) = true then shrU n_1 v_7 else some default) fun v_8 =>
  lt1 ((!(v_8 == (0 : UInt64)))) fun v_9 =>
  lt1 (bif v_6 then v_9 else false) fun v_10 =>
  lt1 (bif v_5 then true else v_10) fun v_11 =>
  some v_11
 ) fun x_12 =>
  if x_12 = true then
   some (([] : (List UInt8)), (2 : Int))
  else
   Option.bind (
    loopO (fun s => wire_Put.b1 k size_2 n_1 s.1 s.2) k (([] : (List UInt8)), (0 : Int))
   ) fun b_27 =>
    some (b_27, (0 : Int))

def wire_Blob (k : Nat) (b_1 : (List UInt8)) : Option (((List UInt8) × Int)) :=
 lt1 (decide ((List.length b_1 : Int) > (65535 : Int))) fun v_2 =>
 if v_2 = true then
  some (([] : (List UInt8)), (3 : Int))
 else
  lt1 ((UN.ofI (List.length b_1 : Int) : UInt64)) fun v_3 =>
  Option.bind (wire_Put k v_3 (2 : Int)) fun (v_4, v_5) =>
  Option.bind (apL 1 v_4 b_1) fun n_8 =>
  some (n_8, (0 : Int))

def wire_Dot (k : Nat) (d_1 : api_Dot) : Option (((List UInt8) × Int)) :=
 Option.bind (
  lt1 (decide (d_1.Region < (0 : Int))) fun v_3 =>
  if v_3 = true then
   some true
  else
   lt1 (decide (d_1.Region > (255 : Int))) fun v_4 =>
   some v_4
 ) fun x_5 =>
  if x_5 = true then
   some (([] : (List UInt8)), (2 : Int))
  else
   Option.bind (wire_Put k d_1.Count (8 : Int)) fun (v_6, v_7) =>
   lt1 ((UN.ofI d_1.Region : UInt8)) fun v_10 =>
   Option.bind (apL 1 ([v_10] : (List UInt8)) v_6) fun x_12 =>
   some (x_12, (0 : Int))

def law01_num (k : Nat) (e_1 : Int) : Option ((Unit)) :=
 some ()

def slices_Clonebyte_byte (k : Nat) (s_1 : (List UInt8)) : Option (((List UInt8))) :=
 Option.bind (apL 1 ([] : (List UInt8)) s_1) fun x_3 =>
 some x_3

def wire_Read (k : Nat) (b_1 : (List UInt8)) : Option (((List UInt8) × Nat)) :=
 Option.bind (slices_Clonebyte_byte k b_1) fun v_2 =>
 some (v_2, (List.length v_2))

def wire_Reader_Failed (k : Nat) (o_1 : Nat) (n_2 : Nat) (is_3 : Bool) (made_4 : Bool) (x_6 : (List UInt8)) : Option ((Bool)) :=
 Option.bind (
  lt1 ((!is_3)) fun v_9 =>
  some v_9
 ) fun x_10 =>
  some x_10

def wire_Reader_take (k : Nat) (n_1 : Int) (o_2 : Nat) (n_3 : Nat) (is_4 : Bool) (made_5 : Bool) (x_7 : (List UInt8)) : Option ((Nat × Nat × Bool × Nat × Nat × Bool × Bool)) :=
 Option.bind (wire_Reader_Failed k o_2 n_3 is_4 made_5 x_7) fun v_10 =>
 if v_10 = true then
  some (0, 0, false, o_2, n_3, is_4, made_5)
 else
  Option.bind (
   lt1 (decide (n_1 < (0 : Int))) fun v_11 =>
   if v_11 = true then
    some true
   else
    lt1 (decide (n_1 > ((n_3 : Nat) : Int))) fun v_12 =>
    some v_12
  ) fun x_13 =>
   if x_13 = true then
    some (0, 0, false, 0, 0, false, true)
   else
    Option.bind (viewN o_2 n_3 (0 : Int) n_1) fun (o_14, n_15) =>
    Option.bind (viewN o_2 n_3 n_1 ((n_3 : Nat) : Int)) fun (o_16, n_17) =>
    some (o_14, n_15, true, o_16, n_17, is_4, made_5)

def wire_Get.b1 (k : Nat) (n_2 : Nat) (o_1 : Nat) (x_3 : (List UInt8)) (n_9 : UInt64) (x_10 : Int) : Option ((UInt64 × Int) ⊕ ((UInt64))) :=
 lt1 (decide (x_10 < ((n_2 : Nat) : Int))) fun v_11 =>
 if v_11 = true then
  Option.bind (inX o_1 n_2 x_10) fun i_12 =>
  Option.bind (x_3[i_12]?) fun v_13 =>
  lt1 (UN.shl n_9 (UN.toN (8 : UInt64))) fun v_14 =>
  lt1 ((UN.to v_13 : UInt64)) fun v_15 =>
  lt1 ((v_14 ||| v_15)) fun v_16 =>
  lt1 (w64 (x_10 + (1 : Int))) fun v_17 =>
  some (.inl (v_16, v_17))
 else
  some (.inr n_9)

def wire_Get (k : Nat) (o_1 : Nat) (n_2 : Nat) (x_3 : (List UInt8)) : Option ((UInt64 × Int)) :=
 Option.bind (
  lt1 (decide (((n_2 : Nat) : Int) < (1 : Int))) fun v_6 =>
  if v_6 = true then
   some true
  else
   lt1 (decide (((n_2 : Nat) : Int) > (8 : Int))) fun v_7 =>
   some v_7
 ) fun x_8 =>
  if x_8 = true then
   some ((0 : UInt64), (2 : Int))
  else
   Option.bind (
    loopO (fun s => wire_Get.b1 k n_2 o_1 x_3 s.1 s.2) k ((0 : UInt64), (0 : Int))
   ) fun n_18 =>
    some (n_18, (0 : Int))

def wire_Reader_Number (k : Nat) (size_1 : Int) (o_2 : Nat) (n_3 : Nat) (is_4 : Bool) (made_5 : Bool) (x_7 : (List UInt8)) : Option ((UInt64 × Nat × Nat × Bool × Bool)) :=
 Option.bind (
  Option.bind (
   lt1 (decide (size_1 < (1 : Int))) fun v_10 =>
   lt1 (decide (size_1 > (8 : Int))) fun v_11 =>
   lt1 (bif v_10 then true else v_11) fun v_12 =>
   some v_12
  ) fun x_13 =>
   if x_13 = true then
    some (-1 : Int)
   else
    some size_1
 ) fun size_14 =>
  Option.bind (wire_Reader_take k size_14 o_2 n_3 is_4 made_5 x_7) fun (v_15, v_16, x_17, x_18, x_19, x_20, x_21) =>
  Option.bind (wire_Get k v_15 v_16 x_7) fun (v_22, v_23) =>
  some (v_22, x_18, x_19, x_20, x_21)

def wire_Reader_Bytes (k : Nat) (n_1 : Int) (o_2 : Nat) (n_3 : Nat) (is_4 : Bool) (made_5 : Bool) (x_7 : (List UInt8)) : Option ((Nat × Nat × Nat × Nat × Bool × Bool)) :=
 Option.bind (wire_Reader_take k n_1 o_2 n_3 is_4 made_5 x_7) fun (v_10, v_11, x_12, x_13, x_14, x_15, x_16) =>
 some (v_10, v_11, x_13, x_14, x_15, x_16)

def wire_Reader_Blob (k : Nat) (o_1 : Nat) (n_2 : Nat) (is_3 : Bool) (made_4 : Bool) (x_6 : (List UInt8)) : Option ((Nat × Nat × Nat × Nat × Bool × Bool)) :=
 Option.bind (wire_Reader_Number k (2 : Int) o_1 n_2 is_3 made_4 x_6) fun (v_9, x_10, x_11, x_12, x_13) =>
 lt1 (w64 (UN.toN v_9 : Int)) fun v_14 =>
 Option.bind (wire_Reader_Bytes k v_14 x_10 x_11 x_12 x_13 x_6) fun (v_15, x_16, x_17, x_18, x_19, x_20) =>
 some (v_15, x_16, x_17, x_18, x_19, x_20)

def wire_Reader_Left (k : Nat) (o_1 : Nat) (n_2 : Nat) (is_3 : Bool) (made_4 : Bool) (x_6 : (List UInt8)) : Option ((Int)) :=
 Option.bind (wire_Reader_Failed k o_1 n_2 is_3 made_4 x_6) fun v_9 =>
 if v_9 = true then
  some (0 : Int)
 else
  some ((n_2 : Nat) : Int)

def wire_Reader_End (k : Nat) (o_1 : Nat) (n_2 : Nat) (is_3 : Bool) (made_4 : Bool) (x_6 : (List UInt8)) : Option ((Int)) :=
 Option.bind (
  lt1 ((!made_4)) fun v_9 =>
  some v_9
 ) fun x_10 =>
  if x_10 = true then
   some (1 : Int)
  else
   Option.bind (
    Option.bind (wire_Reader_Failed k o_1 n_2 is_3 made_4 x_6) fun v_11 =>
    if v_11 = true then
     some true
    else
     lt1 (decide (((n_2 : Nat) : Int) > (0 : Int))) fun v_12 =>
     some v_12
   ) fun x_13 =>
    if x_13 = true then
     some (4 : Int)
    else
     some (0 : Int)

def law01_known (k : Nat) : Option ((Bool)) :=
 Option.bind (wire_Put k (258 : UInt64) (2 : Int)) fun (v_1, v_2) =>
 Option.bind (wire_Put k (256 : UInt64) (1 : Int)) fun (v_5, v_6) =>
 Option.bind (wire_Blob k ([(97 : UInt8), (98 : UInt8)] : (List UInt8))) fun (v_10, v_11) =>
 Option.bind (wire_Dot k (api_Dot.mk (2 : Int) (5 : UInt64))) fun (v_14, v_15) =>
 Option.bind (
  lt1 ((v_1 != ([1, 2] : List UInt8))) fun v_18 =>
  Option.bind (if (!v_18) = true then law01_num k v_6 else some default) fun _ =>
  lt1 ((v_6 != (2 : Int))) fun v_20 =>
  lt1 (bif v_18 then true else v_20) fun v_21 =>
  if v_21 = true then
   some true
  else
   lt1 ((v_10 != ([0, 2, 97, 98] : List UInt8))) fun v_22 =>
   if v_22 = true then
    some true
   else
    lt1 ((v_14 != ([2, 0, 0, 0, 0, 0, 0, 0, 5] : List UInt8))) fun v_23 =>
    Option.bind (if (!v_23) = true then law01_num k v_2 else some default) fun _ =>
    Option.bind (if (!v_23) = true then law01_num k v_11 else some default) fun _ =>
    lt1 (w64 (v_2 + v_11)) fun v_26 =>
    Option.bind (if (!v_23) = true then law01_num k v_15 else some default) fun _ =>
    lt1 (w64 (v_26 + v_15)) fun v_28 =>
    lt1 ((v_28 != (0 : Int))) fun v_29 =>
    lt1 (bif v_23 then true else v_29) fun v_30 =>
    some v_30
 ) fun x_31 =>
  if x_31 = true then
   some false
  else
   Option.bind (wire_Read k ([(0 : UInt8), (1 : UInt8), (7 : UInt8), (9 : UInt8)] : (List UInt8))) fun (v_32, x_33) =>
   Option.bind (wire_Reader_Blob k (0) x_33 true true v_32) fun (v_37, x_38, x_39, x_40, x_41, x_42) =>
   Option.bind (wire_Reader_Left k x_39 x_40 x_41 x_42 v_32) fun v_43 =>
   Option.bind (wire_Reader_Number k (2 : Int) x_39 x_40 x_41 x_42 v_32) fun (v_44, x_45, x_46, x_47, x_48) =>
   Option.bind (
    Option.bind (viewL v_32 v_37 x_38) fun v_49 =>
    lt1 ((v_49 == ([7] : List UInt8))) fun v_50 =>
    lt1 ((v_43 == (1 : Int))) fun v_51 =>
    lt1 (bif v_50 then v_51 else false) fun v_52 =>
    lt1 ((v_44 == (0 : UInt64))) fun v_53 =>
    lt1 (bif v_52 then v_53 else false) fun v_54 =>
    if v_54 = true then
     Option.bind (wire_Reader_Failed k x_45 x_46 x_47 x_48 v_32) fun v_55 =>
     if v_55 = true then
      Option.bind (wire_Reader_Left k x_45 x_46 x_47 x_48 v_32) fun v_56 =>
      lt1 ((v_56 == (0 : Int))) fun v_57 =>
      if v_57 = true then
       Option.bind (wire_Reader_End k x_45 x_46 x_47 x_48 v_32) fun v_58 =>
       Option.bind (law01_num k v_58) fun _ =>
       lt1 ((v_58 == (4 : Int))) fun v_60 =>
       some v_60
      else
       some false
     else
      some false
    else
     some false
   ) fun t_61 =>
    some t_61

def ref01_Reader_Bytes (k : Nat) (n_1 : Int) (r_2 : ref01_Reader) : Option (((List UInt8) × ref01_Reader)) :=
 Option.bind (
  lt1 (decide (n_1 < (0 : Int))) fun v_4 =>
  lt1 (bif r_2.Failed then true else v_4) fun v_5 =>
  if v_5 = true then
   some true
  else
   lt1 (w64 ((List.length r_2.B : Int) - r_2.At)) fun v_6 =>
   lt1 (decide (n_1 > v_6)) fun v_7 =>
   some v_7
 ) fun x_8 =>
  if x_8 = true then
   lt1 ({ r_2 with Failed := true }) fun r_9 =>
   some (([] : (List UInt8)), r_9)
  else
   lt1 (w64 (r_2.At + n_1)) fun v_10 =>
   lt1 ({ r_2 with At := v_10 }) fun r_11 =>
   lt1 (w64 (r_11.At - n_1)) fun v_12 =>
   Option.bind (subL r_11.B v_12 r_11.At) fun v_13 =>
   some (v_13, r_11)

def ref01_Get.b1 (k : Nat) (b_1 : (List UInt8)) (n_2 : UInt64) (i_3 : Int) : Option ((UInt64 × Int) ⊕ ((UInt64))) :=
 lt1 (decide (i_3 < (List.length b_1 : Int))) fun v_4 =>
 if v_4 = true then
  lt1 ((n_2 * (256 : UInt64))) fun v_5 =>
  Option.bind (idxL b_1 i_3) fun v_6 =>
  lt1 ((UN.to v_6 : UInt64)) fun v_7 =>
  lt1 ((v_5 + v_7)) fun v_8 =>
  lt1 (w64 (i_3 + (1 : Int))) fun v_9 =>
  some (.inl (v_8, v_9))
 else
  some (.inr n_2)

def ref01_Get (k : Nat) (b_1 : (List UInt8)) : Option ((UInt64)) :=
 Option.bind (
  loopO (fun s => ref01_Get.b1 k b_1 s.1 s.2) k ((0 : UInt64), (0 : Int))
 ) fun n_10 =>
  some n_10

def ref01_Reader_Number (k : Nat) (size_1 : Int) (B_2 : (List UInt8)) (At_3 : Int) (Failed_4 : Bool) : Option ((UInt64 × ref01_Reader)) :=
 Option.bind (
  Option.bind (
   lt1 (decide (size_1 < (1 : Int))) fun v_6 =>
   lt1 (decide (size_1 > (8 : Int))) fun v_7 =>
   lt1 (bif v_6 then true else v_7) fun v_8 =>
   some v_8
  ) fun x_9 =>
   if x_9 = true then
    some (ref01_Reader.mk B_2 At_3 true)
   else
    some (ref01_Reader.mk B_2 At_3 Failed_4)
 ) fun r_10 =>
  Option.bind (ref01_Reader_Bytes k size_1 r_10) fun (v_11, x_12) =>
  Option.bind (ref01_Get k v_11) fun v_13 =>
  some (v_13, x_12)

def ref01_Reader_Number'2 (k : Nat) (size_1 : Int) (r_2 : ref01_Reader) : Option ((UInt64 × ref01_Reader)) :=
 Option.bind (
  Option.bind (
   lt1 (decide (size_1 < (1 : Int))) fun v_4 =>
   lt1 (decide (size_1 > (8 : Int))) fun v_5 =>
   lt1 (bif v_4 then true else v_5) fun v_6 =>
   some v_6
  ) fun x_7 =>
   if x_7 = true then
    lt1 ({ r_2 with Failed := true }) fun r_8 =>
    some r_8
   else
    some r_2
 ) fun r_9 =>
  Option.bind (ref01_Reader_Bytes k size_1 r_9) fun (v_10, x_11) =>
  Option.bind (ref01_Get k v_10) fun v_12 =>
  some (v_12, x_11)

def ref01_Reader_Blob (k : Nat) (B_1 : (List UInt8)) (At_2 : Int) (Failed_3 : Bool) : Option (((List UInt8) × ref01_Reader)) :=
 Option.bind (ref01_Reader_Number'2 k (2 : Int) (ref01_Reader.mk B_1 At_2 Failed_3)) fun (v_5, x_6) =>
 lt1 (w64 (UN.toN v_5 : Int)) fun v_7 =>
 Option.bind (ref01_Reader_Bytes k v_7 x_6) fun (v_8, x_9) =>
 some (v_8, x_9)

def slices_Clonebyte_byte'2 (k : Nat) (o_1 : Nat) (n_2 : Nat) (x_3 : (List UInt8)) : Option (((List UInt8))) :=
 Option.bind (apV 1 ([] : (List UInt8)) x_3 o_1 n_2) fun v_7 =>
 some v_7

def wire_Read'2 (k : Nat) (o_1 : Nat) (n_2 : Nat) (x_3 : (List UInt8)) : Option (((List UInt8) × Nat)) :=
 Option.bind (slices_Clonebyte_byte'2 k o_1 n_2 x_3) fun v_6 =>
 some (v_6, (List.length v_6))

def wire_Reader_Dot (k : Nat) (o_1 : Nat) (n_2 : Nat) (is_3 : Bool) (made_4 : Bool) (x_6 : (List UInt8)) : Option ((api_Dot × Nat × Nat × Bool × Bool)) :=
 Option.bind (wire_Reader_take k (9 : Int) o_1 n_2 is_3 made_4 x_6) fun (v_10, v_11, x_12, x_13, x_14, x_15, x_16) =>
 Option.bind (wire_Read'2 k v_10 v_11 x_6) fun (v_17, x_18) =>
 Option.bind (wire_Reader_Number k (1 : Int) (0) x_18 true true v_17) fun (v_22, x_23, x_24, x_25, x_26) =>
 lt1 (w64 (UN.toN v_22 : Int)) fun v_27 =>
 Option.bind (wire_Reader_Number k (8 : Int) x_23 x_24 x_25 x_26 v_17) fun (v_28, x_29, x_30, x_31, x_32) =>
 some ((api_Dot.mk v_27 v_28), x_13, x_14, x_15, x_16)

def ref01_Reader_Dot (k : Nat) (r_1 : ref01_Reader) : Option ((api_Dot × ref01_Reader)) :=
 Option.bind (ref01_Reader_Bytes k (9 : Int) r_1) fun (v_4, x_5) =>
 lt1 (((List.length v_4 : Int) == (0 : Int))) fun v_6 =>
 if v_6 = true then
  some ((api_Dot.mk (0 : Int) (0 : UInt64)), x_5)
 else
  Option.bind (idxL v_4 (0 : Int)) fun v_7 =>
  lt1 (w64 (UN.toN v_7 : Int)) fun v_8 =>
  Option.bind (subL v_4 (1 : Int) (List.length v_4 : Int)) fun v_9 =>
  Option.bind (ref01_Get k v_9) fun v_10 =>
  some ((api_Dot.mk v_8 v_10), x_5)

def wire_Reader_Vector_1 (k : Nat) (o_2 : Nat) (n_3 : Nat) (is_4 : Bool) (made_5 : Bool) (x_7 : (List UInt8)) : Option ((UInt64 × Nat × Nat × Bool × Bool)) :=
 Option.bind (wire_Reader_Number k (8 : Int) o_2 n_3 is_4 made_5 x_7) fun (v_10, x_11, x_12, x_13, x_14) =>
 some (v_10, x_11, x_12, x_13, x_14)

def wire_Reader_Vector.b1 (k : Nat) (v_17 : (List UInt8)) (v_23 : (Vector UInt64 16)) (x_24 : Nat) (x_25 : Nat) (x_26 : Bool) (x_27 : Bool) (x_28 : Int) : Option (((Vector UInt64 16) × Nat × Nat × Bool × Bool × Int) ⊕ (((Vector UInt64 16)))) :=
 lt1 (decide (x_28 < (16 : Int))) fun v_29 =>
 if v_29 = true then
  Option.bind (wire_Reader_Vector_1 k x_24 x_25 x_26 x_27 v_17) fun (v_30, x_31, x_32, x_33, x_34) =>
  Option.bind (inV 16 x_28) fun i_35 =>
  lt1 ((putV v_23 i_35 v_30)) fun v_36 =>
  lt1 (w64 (x_28 + (1 : Int))) fun v_37 =>
  some (.inl (v_36, x_31, x_32, x_33, x_34, v_37))
 else
  some (.inr v_23)

def wire_Reader_Vector (k : Nat) (o_1 : Nat) (n_2 : Nat) (is_3 : Bool) (made_4 : Bool) (x_6 : (List UInt8)) : Option (((Vector UInt64 16) × Nat × Nat × Bool × Bool)) :=
 Option.bind (wire_Reader_take k (128 : Int) o_1 n_2 is_3 made_4 x_6) fun (v_10, v_11, x_12, x_13, x_14, x_15, x_16) =>
 Option.bind (wire_Read'2 k v_10 v_11 x_6) fun (v_17, x_18) =>
 Option.bind (
  loopO (fun s => wire_Reader_Vector.b1 k v_17 s.1 s.2.1 s.2.2.1 s.2.2.2.1 s.2.2.2.2.1 s.2.2.2.2.2) k ((Vector.replicate 16 (0 : UInt64)), 0, x_18, true, true, (0 : Int))
 ) fun v_38 =>
  some (v_38, x_13, x_14, x_15, x_16)

def ref01_Reader_Vector.b1 (k : Nat) (v_5 : (List UInt8)) (v_7 : (Vector UInt64 16)) (i_8 : Int) : Option (((Vector UInt64 16) × Int) ⊕ (((Vector UInt64 16)))) :=
 Option.bind (divI (List.length v_5 : Int) (8 : Int)) fun v_9 =>
 lt1 (decide (i_8 < v_9)) fun v_10 =>
 if v_10 = true then
  lt1 (w64 ((8 : Int) * i_8)) fun v_11 =>
  lt1 (w64 ((8 : Int) * i_8)) fun v_12 =>
  lt1 (w64 (v_12 + (8 : Int))) fun v_13 =>
  Option.bind (subL v_5 v_11 v_13) fun v_14 =>
  Option.bind (ref01_Get k v_14) fun v_15 =>
  Option.bind (inV 16 i_8) fun i_16 =>
  lt1 ((putV v_7 i_16 v_15)) fun v_17 =>
  lt1 (w64 (i_8 + (1 : Int))) fun v_18 =>
  some (.inl (v_17, v_18))
 else
  some (.inr v_7)

def ref01_Reader_Vector (k : Nat) (r_1 : ref01_Reader) : Option (((Vector UInt64 16) × ref01_Reader)) :=
 Option.bind (ref01_Reader_Bytes k (128 : Int) r_1) fun (v_5, x_6) =>
 Option.bind (
  loopO (fun s => ref01_Reader_Vector.b1 k v_5 s.1 s.2) k ((Vector.replicate 16 (0 : UInt64)), (0 : Int))
 ) fun v_19 =>
  some (v_19, x_6)

def ref01_Reader_Bytes'2 (k : Nat) (n_1 : Int) (B_2 : (List UInt8)) (At_3 : Int) (Failed_4 : Bool) : Option (((List UInt8) × ref01_Reader)) :=
 Option.bind (
  lt1 (decide (n_1 < (0 : Int))) fun v_6 =>
  lt1 (bif Failed_4 then true else v_6) fun v_7 =>
  if v_7 = true then
   some true
  else
   lt1 (w64 ((List.length B_2 : Int) - At_3)) fun v_8 =>
   lt1 (decide (n_1 > v_8)) fun v_9 =>
   some v_9
 ) fun x_10 =>
  if x_10 = true then
   some (([] : (List UInt8)), (ref01_Reader.mk B_2 At_3 true))
  else
   lt1 (w64 (At_3 + n_1)) fun v_11 =>
   lt1 (w64 (v_11 - n_1)) fun v_12 =>
   Option.bind (subL B_2 v_12 v_11) fun v_13 =>
   some (v_13, (ref01_Reader.mk B_2 v_11 Failed_4))

def law01_step.b1 (k : Nat) (x_55 : Nat) (v_54 : Nat) (x_64 : (List UInt8)) (x_65 : Int) : Option (((List UInt8) × Int) ⊕ (((List UInt8)))) :=
 lt1 (decide (x_65 < ((x_55 : Nat) : Int))) fun v_66 =>
 if v_66 = true then
  Option.bind (inX v_54 x_55 x_65) fun i_67 =>
  Option.bind (x_64[i_67]?) fun v_68 =>
  lt1 ((v_68 + (1 : UInt8))) fun v_69 =>
  Option.bind (inX v_54 x_55 x_65) fun i_70 =>
  Option.bind (setO' x_64 i_70 v_69) fun x_71 =>
  lt1 (w64 (x_65 + (1 : Int))) fun v_72 =>
  some (.inl (x_71, v_72))
 else
  some (.inr x_64)

def law01_step (k : Nat) (a_1 : law01_Step) (o_2 : Nat) (n_3 : Nat) (is_4 : Bool) (made_5 : Bool) (x_7 : (List UInt8)) (B_10 : (List UInt8)) (At_11 : Int) (Failed_12 : Bool) : Option ((Bool × (List UInt8) × Nat × Nat × Bool × Bool × ref01_Reader)) :=
 Option.bind (
  lt1 ((a_1.Kind == (1 : Int))) fun v_15 =>
  if v_15 = true then
   Option.bind (wire_Reader_Number k a_1.N o_2 n_3 is_4 made_5 x_7) fun (v_16, x_17, x_18, x_19, x_20) =>
   Option.bind (ref01_Reader_Number k a_1.N B_10 At_11 Failed_12) fun (v_21, x_22) =>
   lt1 ((v_16 == v_21)) fun v_23 =>
   some (.inr (v_23, x_7, x_17, x_18, x_19, x_20, x_22))
  else
   lt1 ((a_1.Kind == (2 : Int))) fun v_24 =>
   if v_24 = true then
    Option.bind (wire_Reader_Blob k o_2 n_3 is_4 made_5 x_7) fun (v_25, x_26, x_27, x_28, x_29, x_30) =>
    Option.bind (viewL x_7 v_25 x_26) fun v_31 =>
    Option.bind (ref01_Reader_Blob k B_10 At_11 Failed_12) fun (v_32, x_33) =>
    lt1 ((v_31 == v_32)) fun v_34 =>
    some (.inr (v_34, x_7, x_27, x_28, x_29, x_30, x_33))
   else
    lt1 ((a_1.Kind == (3 : Int))) fun v_35 =>
    if v_35 = true then
     Option.bind (wire_Reader_Dot k o_2 n_3 is_4 made_5 x_7) fun (v_36, x_37, x_38, x_39, x_40) =>
     Option.bind (ref01_Reader_Dot k (ref01_Reader.mk B_10 At_11 Failed_12)) fun (v_41, x_42) =>
     lt1 ((eq_api_Dot v_36 v_41)) fun v_43 =>
     some (.inr (v_43, x_7, x_37, x_38, x_39, x_40, x_42))
    else
     lt1 ((a_1.Kind == (4 : Int))) fun v_44 =>
     if v_44 = true then
      Option.bind (wire_Reader_Vector k o_2 n_3 is_4 made_5 x_7) fun (v_45, x_46, x_47, x_48, x_49) =>
      Option.bind (ref01_Reader_Vector k (ref01_Reader.mk B_10 At_11 Failed_12)) fun (v_50, x_51) =>
      lt1 (((eqV (fun x y => x == y)) v_45 v_50)) fun v_52 =>
      some (.inr (v_52, x_7, x_46, x_47, x_48, x_49, x_51))
     else
      lt1 ((a_1.Kind == (5 : Int))) fun v_53 =>
      if v_53 = true then
       Option.bind (wire_Reader_Bytes k a_1.N o_2 n_3 is_4 made_5 x_7) fun (v_54, x_55, x_56, x_57, x_58, x_59) =>
       Option.bind (viewL x_7 v_54 x_55) fun v_60 =>
       Option.bind (ref01_Reader_Bytes'2 k a_1.N B_10 At_11 Failed_12) fun (v_61, x_62) =>
       lt1 ((v_60 == v_61)) fun v_63 =>
       Option.bind (
        loopO (fun s => law01_step.b1 k x_55 v_54 s.1 s.2) k (x_7, (0 : Int))
       ) fun x_73 =>
        some (.inr (v_63, x_73, x_56, x_57, x_58, x_59, x_62))
      else
       some (.inl ())
  : Option ((Unit) ⊕ ((Bool × (List UInt8) × Nat × Nat × Bool × Bool × ref01_Reader)))) fun t => match t with
 | (.inl _) =>
  some (true, x_7, o_2, n_3, is_4, made_5, (ref01_Reader.mk B_10 At_11 Failed_12))
 | (.inr q) =>
  some q

def ref01_Reader_Left (k : Nat) (r_1 : ref01_Reader) : Option ((Int)) :=
 if r_1.Failed = true then
  some (0 : Int)
 else
  lt1 (w64 ((List.length r_1.B : Int) - r_1.At)) fun v_3 =>
  some v_3

def ref01_Reader_End (k : Nat) (r_1 : ref01_Reader) : Option ((Int)) :=
 Option.bind (
  if r_1.Failed = true then
   some true
  else
   Option.bind (ref01_Reader_Left k r_1) fun v_3 =>
   lt1 (decide (v_3 > (0 : Int))) fun v_4 =>
   some v_4
 ) fun x_5 =>
  if x_5 = true then
   some (4 : Int)
  else
   some (0 : Int)

def ref01_Reader_Blob'2 (k : Nat) (r_1 : ref01_Reader) : Option (((List UInt8) × ref01_Reader)) :=
 Option.bind (ref01_Reader_Number'2 k (2 : Int) r_1) fun (v_3, x_4) =>
 lt1 (w64 (UN.toN v_3 : Int)) fun v_5 =>
 Option.bind (ref01_Reader_Bytes k v_5 x_4) fun (v_6, x_7) =>
 some (v_6, x_7)

def law01_step'2.b1 (k : Nat) (x_53 : Nat) (v_52 : Nat) (x_62 : (List UInt8)) (x_63 : Int) : Option (((List UInt8) × Int) ⊕ (((List UInt8)))) :=
 lt1 (decide (x_63 < ((x_53 : Nat) : Int))) fun v_64 =>
 if v_64 = true then
  Option.bind (inX v_52 x_53 x_63) fun i_65 =>
  Option.bind (x_62[i_65]?) fun v_66 =>
  lt1 ((v_66 + (1 : UInt8))) fun v_67 =>
  Option.bind (inX v_52 x_53 x_63) fun i_68 =>
  Option.bind (setO' x_62 i_68 v_67) fun x_69 =>
  lt1 (w64 (x_63 + (1 : Int))) fun v_70 =>
  some (.inl (x_69, v_70))
 else
  some (.inr x_62)

def law01_step'2 (k : Nat) (a_1 : law01_Step) (o_2 : Nat) (n_3 : Nat) (is_4 : Bool) (made_5 : Bool) (x_7 : (List UInt8)) (x_10 : ref01_Reader) : Option ((Bool × (List UInt8) × Nat × Nat × Bool × Bool × ref01_Reader)) :=
 Option.bind (
  lt1 ((a_1.Kind == (1 : Int))) fun v_13 =>
  if v_13 = true then
   Option.bind (wire_Reader_Number k a_1.N o_2 n_3 is_4 made_5 x_7) fun (v_14, x_15, x_16, x_17, x_18) =>
   Option.bind (ref01_Reader_Number'2 k a_1.N x_10) fun (v_19, x_20) =>
   lt1 ((v_14 == v_19)) fun v_21 =>
   some (.inr (v_21, x_7, x_15, x_16, x_17, x_18, x_20))
  else
   lt1 ((a_1.Kind == (2 : Int))) fun v_22 =>
   if v_22 = true then
    Option.bind (wire_Reader_Blob k o_2 n_3 is_4 made_5 x_7) fun (v_23, x_24, x_25, x_26, x_27, x_28) =>
    Option.bind (viewL x_7 v_23 x_24) fun v_29 =>
    Option.bind (ref01_Reader_Blob'2 k x_10) fun (v_30, x_31) =>
    lt1 ((v_29 == v_30)) fun v_32 =>
    some (.inr (v_32, x_7, x_25, x_26, x_27, x_28, x_31))
   else
    lt1 ((a_1.Kind == (3 : Int))) fun v_33 =>
    if v_33 = true then
     Option.bind (wire_Reader_Dot k o_2 n_3 is_4 made_5 x_7) fun (v_34, x_35, x_36, x_37, x_38) =>
     Option.bind (ref01_Reader_Dot k x_10) fun (v_39, x_40) =>
     lt1 ((eq_api_Dot v_34 v_39)) fun v_41 =>
     some (.inr (v_41, x_7, x_35, x_36, x_37, x_38, x_40))
    else
     lt1 ((a_1.Kind == (4 : Int))) fun v_42 =>
     if v_42 = true then
      Option.bind (wire_Reader_Vector k o_2 n_3 is_4 made_5 x_7) fun (v_43, x_44, x_45, x_46, x_47) =>
      Option.bind (ref01_Reader_Vector k x_10) fun (v_48, x_49) =>
      lt1 (((eqV (fun x y => x == y)) v_43 v_48)) fun v_50 =>
      some (.inr (v_50, x_7, x_44, x_45, x_46, x_47, x_49))
     else
      lt1 ((a_1.Kind == (5 : Int))) fun v_51 =>
      if v_51 = true then
       Option.bind (wire_Reader_Bytes k a_1.N o_2 n_3 is_4 made_5 x_7) fun (v_52, x_53, x_54, x_55, x_56, x_57) =>
       Option.bind (viewL x_7 v_52 x_53) fun v_58 =>
       Option.bind (ref01_Reader_Bytes k a_1.N x_10) fun (v_59, x_60) =>
       lt1 ((v_58 == v_59)) fun v_61 =>
       Option.bind (
        loopO (fun s => law01_step'2.b1 k x_53 v_52 s.1 s.2) k (x_7, (0 : Int))
       ) fun x_71 =>
        some (.inr (v_61, x_71, x_54, x_55, x_56, x_57, x_60))
      else
       some (.inl ())
  : Option ((Unit) ⊕ ((Bool × (List UInt8) × Nat × Nat × Bool × Bool × ref01_Reader)))) fun t => match t with
 | (.inl _) =>
  some (true, x_7, o_2, n_3, is_4, made_5, x_10)
 | (.inr q) =>
  some q

def law01_WireReads.b1 (k : Nat) (a_2 : (List law01_Step)) (x_14 : (List UInt8)) (x_15 : Nat) (x_16 : Nat) (is_17 : Bool) (made_18 : Bool) (x_19 : ref01_Reader) (x_20 : Int) : Option (((List UInt8) × Nat × Nat × Bool × Bool × ref01_Reader × Int) ⊕ ((Unit) ⊕ ((Bool)))) :=
 lt1 (decide (x_20 < (List.length a_2 : Int))) fun v_21 =>
 if v_21 = true then
  Option.bind (
   Option.bind (idxL a_2 x_20) fun v_22 =>
   Option.bind (law01_step'2 k v_22 x_15 x_16 is_17 made_18 x_14 x_19) fun (v_23, x_24, x_25, x_26, x_27, x_28, x_29) =>
   lt1 ((!v_23)) fun v_30 =>
   if v_30 = true then
    some (x_24, x_25, x_26, x_27, x_28, x_29, true)
   else
    Option.bind (wire_Reader_Left k x_25 x_26 x_27 x_28 x_24) fun v_31 =>
    Option.bind (ref01_Reader_Left k x_29) fun v_32 =>
    lt1 ((v_31 != v_32)) fun v_33 =>
    if v_33 = true then
     some (x_24, x_25, x_26, x_27, x_28, x_29, true)
    else
     Option.bind (wire_Reader_Failed k x_25 x_26 x_27 x_28 x_24) fun v_34 =>
     lt1 ((v_34 != x_29.Failed)) fun v_35 =>
     if v_35 = true then
      some (x_24, x_25, x_26, x_27, x_28, x_29, true)
     else
      Option.bind (wire_Reader_End k x_25 x_26 x_27 x_28 x_24) fun v_36 =>
      Option.bind (law01_num k v_36) fun _ =>
      Option.bind (ref01_Reader_End k x_29) fun v_38 =>
      lt1 ((v_36 != v_38)) fun v_39 =>
      some (x_24, x_25, x_26, x_27, x_28, x_29, v_39)
  ) fun (x_40, x_41, x_42, is_43, made_44, x_45, x_46) =>
   if x_46 = true then
    some (.inr (.inr false))
   else
    lt1 (w64 (x_20 + (1 : Int))) fun v_47 =>
    some (.inl (x_40, x_41, x_42, is_43, made_44, x_45, v_47))
 else
  some (.inr (.inl ()))

def law01_WireReads (k : Nat) (t_1 : (List UInt8)) (a_2 : (List law01_Step)) : Option ((Bool)) :=
 Option.bind (
  lt1 (decide ((List.length t_1 : Int) > (9000 : Int))) fun v_3 =>
  lt1 (decide ((List.length a_2 : Int) > (300 : Int))) fun v_4 =>
  lt1 (bif v_3 then true else v_4) fun v_5 =>
  some v_5
 ) fun x_6 =>
  if x_6 = true then
   Option.bind (law01_known k) fun v_7 =>
   some v_7
  else
   Option.bind (wire_Read k t_1) fun (v_8, x_9) =>
   Option.bind (
    Option.bind (loopO (fun s => law01_WireReads.b1 k a_2 s.1 s.2.1 s.2.2.1 s.2.2.2.1 s.2.2.2.2.1 s.2.2.2.2.2.1 s.2.2.2.2.2.2) k (v_8, 0, x_9, true, true, (ref01_Reader.mk t_1 (0 : Int) false), (0 : Int))) fun t => match t with
    | (.inl _) =>
     some (.inl ())
    | (.inr q) =>
     some (.inr q)
    : Option ((Unit) ⊕ ((Bool)))) fun t => match t with
   | (.inl _) =>
    Option.bind (
     lt1 ((t_1 == t_1)) fun v_48 =>
     Option.bind (if v_48 = true then law01_known k else some default) fun v_49 =>
     lt1 (bif v_48 then v_49 else false) fun v_50 =>
     some v_50
    ) fun x_51 =>
     some x_51
   | (.inr q) =>
    some q

end
end Go.Proofs.Ytkbkdfcakpbojaa
