/- The functions as plain Lean functions: no program and no memory here. -/
import Derived.Test.YtkbkdfcakpbojaaFp
namespace Go.Proofs.Ytkbkdfcakpbojaa
open Fw
set_option linter.unusedVariables false
noncomputable section

structure api_Dot where
  Region : Int
  Count : UInt64
  deriving DecidableEq, Inhabited

def eq_api_Dot (x y : api_Dot) : Bool := ((x.Region == y.Region) && ((x.Count == y.Count) && true))
theorem eq_api_Dot_iff {x y : api_Dot} : eq_api_Dot x y = true ↔ x = y := by
  cases x; cases y; simp [eq_api_Dot]

structure wire_Reader where
  rest : (List UInt8)
  is : Bool
  made : Bool
  deriving DecidableEq, Inhabited

structure law01_Step where
  Kind : Int
  N : Int
  deriving DecidableEq, Inhabited

def eq_law01_Step (x y : law01_Step) : Bool := ((x.Kind == y.Kind) && ((x.N == y.N) && true))
theorem eq_law01_Step_iff {x y : law01_Step} : eq_law01_Step x y = true ↔ x = y := by
  cases x; cases y; simp [eq_law01_Step]

structure ref01_Reader where
  B : (List UInt8)
  At : Int
  Failed : Bool
  deriving DecidableEq, Inhabited

def wire_Put.b1 (k : Nat) (size_2 : Int) (n_1 : UInt64) (b_13 : (List UInt8)) (x_14 : Int) : Option (((List UInt8) × Int) ⊕ (((List UInt8)))) :=
 lt1 (decide (x_14 < size_2)) fun v_17 =>
 if v_17 = true then
  lt1 (w64 (size_2 - (1 : Int))) fun v_18 =>
  lt1 (w64 (v_18 - x_14)) fun v_19 =>
  lt1 (w64 ((8 : Int) * v_19)) fun v_20 =>
  Option.bind (shrU n_1 v_20) fun v_21 =>
  lt1 ((UN.to v_21 : UInt8)) fun v_22 =>
  Option.bind (apL 1 b_13 ([v_22] : (List UInt8))) fun b_23 =>
  lt1 (w64 (x_14 + (1 : Int))) fun v_26 =>
  some (.inl (b_23, v_26))
 else
  some (.inr b_13)

def wire_Put (k : Nat) (n_1 : UInt64) (size_2 : Int) : Option (((List UInt8) × Int)) :=
 Option.bind (
  lt1 (decide (size_2 < (1 : Int))) fun v_3 =>
  lt1 (decide (size_2 > (8 : Int))) fun v_4 =>
  lt1 (bif v_3 then true else v_4) fun v_5 =>
  lt1 (decide (size_2 < (8 : Int))) fun v_6 =>
  lt1 (w64 ((8 : Int) * size_2)) fun v_7 =>
  Option.bind (if ((!v_5) && v_6) = true then shrU n_1 v_7 else some default) fun v_8 =>
  lt1 ((!(v_8 == (0 : UInt64)))) fun v_9 =>
  lt1 (bif v_6 then v_9 else false) fun v_10 =>
  lt1 (bif v_5 then true else v_10) fun v_11 =>
  some v_11
 ) fun x_12 =>
  if x_12 = true then
   some (([] : (List UInt8)), (2 : Int))
  else
   Option.bind (
    loopO (fun s => wire_Put.b1 k size_2 n_1 s.1 s.2) k (([] : (List UInt8)), (0 : Int))
   ) fun b_27 =>
    some (b_27, (0 : Int))

def wire_Blob (k : Nat) (b_1 : (List UInt8)) : Option (((List UInt8) × Int)) :=
 lt1 (decide ((List.length b_1 : Int) > (65535 : Int))) fun v_2 =>
 if v_2 = true then
  some (([] : (List UInt8)), (3 : Int))
 else
  lt1 ((UN.ofI (List.length b_1 : Int) : UInt64)) fun v_3 =>
  Option.bind (wire_Put k v_3 (2 : Int)) fun (v_4, v_5) =>
  Option.bind (apL 1 v_4 b_1) fun n_8 =>
  some (n_8, (0 : Int))

def wire_Dot (k : Nat) (d_1 : api_Dot) : Option (((List UInt8) × Int)) :=
 Option.bind (
  lt1 (decide (d_1.Region < (0 : Int))) fun v_3 =>
  if v_3 = true then
   some true
  else
   lt1 (decide (d_1.Region > (255 : Int))) fun v_4 =>
   some v_4
 ) fun x_5 =>
  if x_5 = true then
   some (([] : (List UInt8)), (2 : Int))
  else
   Option.bind (wire_Put k d_1.Count (8 : Int)) fun (v_6, v_7) =>
   lt1 ((UN.ofI d_1.Region : UInt8)) fun v_10 =>
   Option.bind (apL 1 ([v_10] : (List UInt8)) v_6) fun x_12 =>
   some (x_12, (0 : Int))

def law01_num (k : Nat) (e_1 : Int) : Option ((Unit)) :=
 some ()

def slices_Clonebyte_byte (k : Nat) (s_1 : (List UInt8)) : Option (((List UInt8))) :=
 Option.bind (apL 1 ([] : (List UInt8)) s_1) fun x_3 =>
 some x_3

def wire_Read (k : Nat) (b_1 : (List UInt8)) : Option (((List UInt8))) :=
 Option.bind (slices_Clonebyte_byte k b_1) fun v_2 =>
 some v_2

def wire_Reader_Failed (k : Nat) (is_1 : Bool) (made_2 : Bool) (x_4 : (List UInt8)) : Option ((Bool)) :=
 Option.bind (
  lt1 ((!is_1)) fun v_7 =>
  some v_7
 ) fun x_8 =>
  some x_8

def wire_Reader_take (k : Nat) (n_1 : Int) (is_2 : Bool) (made_3 : Bool) (x_5 : (List UInt8)) : Option (((List UInt8) × Bool × (List UInt8) × Bool × Bool)) :=
 Option.bind (wire_Reader_Failed k is_2 made_3 x_5) fun v_8 =>
 if v_8 = true then
  some (([] : (List UInt8)), false, x_5, is_2, made_3)
 else
  Option.bind (
   lt1 (decide (n_1 < (0 : Int))) fun v_9 =>
   if v_9 = true then
    some true
   else
    lt1 (decide (n_1 > (List.length x_5 : Int))) fun v_10 =>
    some v_10
  ) fun x_11 =>
   if x_11 = true then
    some (([] : (List UInt8)), false, ([] : (List UInt8)), false, true)
   else
    Option.bind (subL x_5 (0) n_1) fun v_12 =>
    Option.bind (subL x_5 n_1 (List.length x_5 : Int)) fun v_13 =>
    some (v_12, true, v_13, is_2, made_3)

def wire_Get.b1 (k : Nat) (b_1 : (List UInt8)) (n_6 : UInt64) (x_7 : Int) : Option ((UInt64 × Int) ⊕ ((UInt64))) :=
 lt1 (decide (x_7 < (List.length b_1 : Int))) fun v_8 =>
 if v_8 = true then
  Option.bind (idxL b_1 x_7) fun v_9 =>
  lt1 (UN.shl n_6 (UN.toN (8 : UInt64))) fun v_10 =>
  lt1 ((UN.to v_9 : UInt64)) fun v_11 =>
  lt1 ((v_10 ||| v_11)) fun v_12 =>
  lt1 (w64 (x_7 + (1 : Int))) fun v_13 =>
  some (.inl (v_12, v_13))
 else
  some (.inr n_6)

def wire_Get (k : Nat) (b_1 : (List UInt8)) : Option ((UInt64 × Int)) :=
 Option.bind (
  lt1 (decide ((List.length b_1 : Int) < (1 : Int))) fun v_2 =>
  lt1 (decide ((List.length b_1 : Int) > (8 : Int))) fun v_3 =>
  lt1 (bif v_2 then true else v_3) fun v_4 =>
  some v_4
 ) fun x_5 =>
  if x_5 = true then
   some ((0 : UInt64), (2 : Int))
  else
   Option.bind (
    loopO (fun s => wire_Get.b1 k b_1 s.1 s.2) k ((0 : UInt64), (0 : Int))
   ) fun n_14 =>
    some (n_14, (0 : Int))

def wire_Reader_Number (k : Nat) (size_1 : Int) (is_2 : Bool) (made_3 : Bool) (x_5 : (List UInt8)) : Option ((UInt64 × wire_Reader)) :=
 Option.bind (
  Option.bind (
   lt1 (decide (size_1 < (1 : Int))) fun v_8 =>
   lt1 (decide (size_1 > (8 : Int))) fun v_9 =>
   lt1 (bif v_8 then true else v_9) fun v_10 =>
   some v_10
  ) fun x_11 =>
   if x_11 = true then
    some (-1 : Int)
   else
    some size_1
 ) fun size_12 =>
  Option.bind (wire_Reader_take k size_12 is_2 made_3 x_5) fun (v_13, v_14, x_15, x_16, x_17) =>
  Option.bind (wire_Get k v_13) fun (v_18, v_19) =>
  some (v_18, (wire_Reader.mk x_15 x_16 x_17))

def wire_Reader_Failed'2 (k : Nat) (r_1 : wire_Reader) : Option ((Bool)) :=
 Option.bind (
  lt1 ((!r_1.is)) fun v_3 =>
  some v_3
 ) fun x_4 =>
  some x_4

def wire_Reader_take'2 (k : Nat) (n_1 : Int) (r_2 : wire_Reader) : Option (((List UInt8) × Bool × wire_Reader)) :=
 Option.bind (wire_Reader_Failed'2 k r_2) fun v_4 =>
 if v_4 = true then
  some (([] : (List UInt8)), false, r_2)
 else
  Option.bind (
   lt1 (decide (n_1 < (0 : Int))) fun v_5 =>
   if v_5 = true then
    some true
   else
    lt1 (decide (n_1 > (List.length r_2.rest : Int))) fun v_6 =>
    some v_6
  ) fun x_7 =>
   if x_7 = true then
    some (([] : (List UInt8)), false, (wire_Reader.mk ([] : (List UInt8)) false true))
   else
    Option.bind (subL r_2.rest (0) n_1) fun v_8 =>
    Option.bind (subL r_2.rest n_1 (List.length r_2.rest : Int)) fun v_9 =>
    lt1 ({ r_2 with rest := v_9 }) fun x_10 =>
    some (v_8, true, x_10)

def wire_Reader_Bytes (k : Nat) (n_1 : Int) (r_2 : wire_Reader) : Option (((List UInt8) × wire_Reader)) :=
 Option.bind (wire_Reader_take'2 k n_1 r_2) fun (v_4, v_5, x_6) =>
 some (v_4, x_6)

def wire_Reader_Blob (k : Nat) (is_1 : Bool) (made_2 : Bool) (x_4 : (List UInt8)) : Option (((List UInt8) × wire_Reader)) :=
 Option.bind (wire_Reader_Number k (2 : Int) is_1 made_2 x_4) fun (v_7, x_8) =>
 lt1 (w64 (UN.toN v_7 : Int)) fun v_9 =>
 Option.bind (wire_Reader_Bytes k v_9 x_8) fun (v_10, x_11) =>
 some (v_10, x_11)

def wire_Reader_Left (k : Nat) (r_1 : wire_Reader) : Option ((Int)) :=
 Option.bind (wire_Reader_Failed'2 k r_1) fun v_3 =>
 if v_3 = true then
  some (0 : Int)
 else
  some (List.length r_1.rest : Int)

def wire_Reader_Number'2 (k : Nat) (size_1 : Int) (r_2 : wire_Reader) : Option ((UInt64 × wire_Reader)) :=
 Option.bind (
  Option.bind (
   lt1 (decide (size_1 < (1 : Int))) fun v_4 =>
   lt1 (decide (size_1 > (8 : Int))) fun v_5 =>
   lt1 (bif v_4 then true else v_5) fun v_6 =>
   some v_6
  ) fun x_7 =>
   if x_7 = true then
    some (-1 : Int)
   else
    some size_1
 ) fun size_8 =>
  Option.bind (wire_Reader_take'2 k size_8 r_2) fun (v_9, v_10, x_11) =>
  Option.bind (wire_Get k v_9) fun (v_12, v_13) =>
  some (v_12, x_11)

def wire_Reader_End (k : Nat) (r_1 : wire_Reader) : Option ((Int)) :=
 Option.bind (
  lt1 ((!r_1.made)) fun v_3 =>
  some v_3
 ) fun x_4 =>
  if x_4 = true then
   some (1 : Int)
  else
   Option.bind (
    Option.bind (wire_Reader_Failed'2 k r_1) fun v_5 =>
    if v_5 = true then
     some true
    else
     lt1 (decide ((List.length r_1.rest : Int) > (0 : Int))) fun v_6 =>
     some v_6
   ) fun x_7 =>
    if x_7 = true then
     some (4 : Int)
    else
     some (0 : Int)

def law01_known (k : Nat) : Option ((Bool)) :=
 Option.bind (wire_Put k (258 : UInt64) (2 : Int)) fun (v_1, v_2) =>
 Option.bind (wire_Put k (256 : UInt64) (1 : Int)) fun (v_5, v_6) =>
 Option.bind (wire_Blob k ([(97 : UInt8), (98 : UInt8)] : (List UInt8))) fun (v_10, v_11) =>
 Option.bind (wire_Dot k (api_Dot.mk (2 : Int) (5 : UInt64))) fun (v_14, v_15) =>
 Option.bind (
  lt1 ((v_1 != ([1, 2] : List UInt8))) fun v_18 =>
  Option.bind (if (!v_18) = true then law01_num k v_6 else some default) fun _ =>
  lt1 ((v_6 != (2 : Int))) fun v_20 =>
  lt1 (bif v_18 then true else v_20) fun v_21 =>
  if v_21 = true then
   some true
  else
   lt1 ((v_10 != ([0, 2, 97, 98] : List UInt8))) fun v_22 =>
   if v_22 = true then
    some true
   else
    lt1 ((v_14 != ([2, 0, 0, 0, 0, 0, 0, 0, 5] : List UInt8))) fun v_23 =>
    Option.bind (if (!v_23) = true then law01_num k v_2 else some default) fun _ =>
    Option.bind (if (!v_23) = true then law01_num k v_11 else some default) fun _ =>
    lt1 (w64 (v_2 + v_11)) fun v_26 =>
    Option.bind (if (!v_23) = true then law01_num k v_15 else some default) fun _ =>
    lt1 (w64 (v_26 + v_15)) fun v_28 =>
    lt1 ((v_28 != (0 : Int))) fun v_29 =>
    lt1 (bif v_23 then true else v_29) fun v_30 =>
    some v_30
 ) fun x_31 =>
  if x_31 = true then
   some false
  else
   Option.bind (wire_Read k ([(0 : UInt8), (1 : UInt8), (7 : UInt8), (9 : UInt8)] : (List UInt8))) fun v_32 =>
   Option.bind (wire_Reader_Blob k true true v_32) fun (v_36, x_37) =>
   Option.bind (wire_Reader_Left k x_37) fun v_38 =>
   Option.bind (wire_Reader_Number'2 k (2 : Int) x_37) fun (v_39, x_40) =>
   Option.bind (
    lt1 ((v_36 == ([7] : List UInt8))) fun v_41 =>
    lt1 ((v_38 == (1 : Int))) fun v_42 =>
    lt1 (bif v_41 then v_42 else false) fun v_43 =>
    lt1 ((v_39 == (0 : UInt64))) fun v_44 =>
    lt1 (bif v_43 then v_44 else false) fun v_45 =>
    if v_45 = true then
     Option.bind (wire_Reader_Failed'2 k x_40) fun v_46 =>
     if v_46 = true then
      Option.bind (wire_Reader_Left k x_40) fun v_47 =>
      lt1 ((v_47 == (0 : Int))) fun v_48 =>
      if v_48 = true then
       Option.bind (wire_Reader_End k x_40) fun v_49 =>
       Option.bind (law01_num k v_49) fun _ =>
       lt1 ((v_49 == (4 : Int))) fun v_51 =>
       some v_51
      else
       some false
     else
      some false
    else
     some false
   ) fun t_52 =>
    some t_52

def ref01_Room.b1 (k : Nat) (size_2 : Int) (n_7 : UInt64) (i_8 : Int) : Option ((UInt64 × Int) ⊕ ((UInt64))) :=
 lt1 (decide (i_8 < size_2)) fun v_9 =>
 if v_9 = true then
  Option.bind (divU n_7 (256 : UInt64)) fun v_10 =>
  lt1 (w64 (i_8 + (1 : Int))) fun v_11 =>
  some (.inl (v_10, v_11))
 else
  some (.inr n_7)

def ref01_Room (k : Nat) (n_1 : UInt64) (size_2 : Int) : Option ((Bool)) :=
 Option.bind (
  lt1 (decide (size_2 < (1 : Int))) fun v_3 =>
  lt1 (decide (size_2 > (8 : Int))) fun v_4 =>
  lt1 (bif v_3 then true else v_4) fun v_5 =>
  some v_5
 ) fun x_6 =>
  if x_6 = true then
   some false
  else
   Option.bind (
    loopO (fun s => ref01_Room.b1 k size_2 s.1 s.2) k (n_1, (0 : Int))
   ) fun n_12 =>
    lt1 ((n_12 == (0 : UInt64))) fun v_13 =>
    some v_13

def ref01_Put.b1 (k : Nat) (n_6 : UInt64) (b_7 : (List UInt8)) (i_8 : Int) : Option ((UInt64 × (List UInt8) × Int) ⊕ (((List UInt8)))) :=
 lt1 (decide (i_8 ≥ (0 : Int))) fun v_9 =>
 if v_9 = true then
  Option.bind (modU n_6 (256 : UInt64)) fun v_10 =>
  lt1 ((UN.to v_10 : UInt8)) fun v_11 =>
  Option.bind (inO b_7 i_8) fun i_12 =>
  Option.bind (setO' b_7 i_12 v_11) fun b_13 =>
  Option.bind (divU n_6 (256 : UInt64)) fun v_14 =>
  lt1 (w64 (i_8 - (1 : Int))) fun v_15 =>
  some (.inl (v_14, b_13, v_15))
 else
  some (.inr b_7)

def ref01_Put (k : Nat) (n_1 : UInt64) (size_2 : Int) : Option (((List UInt8))) :=
 Option.bind (mkL 1 size_2 (0 : UInt8)) fun v_3 =>
 Option.bind (
  lt1 (w64 (size_2 - (1 : Int))) fun v_5 =>
  loopO (fun s => ref01_Put.b1 k s.1 s.2.1 s.2.2) k (n_1, v_3, v_5)
 ) fun b_16 =>
  some b_16

def ref01_Get.b1 (k : Nat) (b_1 : (List UInt8)) (n_2 : UInt64) (i_3 : Int) : Option ((UInt64 × Int) ⊕ ((UInt64))) :=
 lt1 (decide (i_3 < (List.length b_1 : Int))) fun v_4 =>
 if v_4 = true then
  lt1 ((n_2 * (256 : UInt64))) fun v_5 =>
  Option.bind (idxL b_1 i_3) fun v_6 =>
  lt1 ((UN.to v_6 : UInt64)) fun v_7 =>
  lt1 ((v_5 + v_7)) fun v_8 =>
  lt1 (w64 (i_3 + (1 : Int))) fun v_9 =>
  some (.inl (v_8, v_9))
 else
  some (.inr n_2)

def ref01_Get (k : Nat) (b_1 : (List UInt8)) : Option ((UInt64)) :=
 Option.bind (
  loopO (fun s => ref01_Get.b1 k b_1 s.1 s.2) k ((0 : UInt64), (0 : Int))
 ) fun n_10 =>
  some n_10

def law01_WireNumbers (k : Nat) (t_1 : UInt64) (a_2 : Int) (a_3 : (List UInt8)) : Option ((Bool)) :=
 lt1 (decide ((List.length a_3 : Int) > (9000 : Int))) fun v_4 =>
 if v_4 = true then
  Option.bind (law01_known k) fun v_5 =>
  some v_5
 else
  Option.bind (wire_Put k t_1 a_2) fun (v_6, v_7) =>
  Option.bind (
   Option.bind (ref01_Room k t_1 a_2) fun v_10 =>
   if v_10 = true then
    Option.bind (
     Option.bind (ref01_Put k t_1 a_2) fun v_11 =>
     lt1 ((v_6 != v_11)) fun v_13 =>
     Option.bind (if (!v_13) = true then law01_num k v_7 else some default) fun _ =>
     lt1 ((v_7 != (0 : Int))) fun v_15 =>
     lt1 (bif v_13 then true else v_15) fun v_16 =>
     some v_16
    ) fun x_17 =>
     if x_17 = true then
      some (.inr false)
     else
      some (.inl ())
   else
    Option.bind (
     lt1 (((List.length v_6 : Int) != (0 : Int))) fun v_18 =>
     Option.bind (if (!v_18) = true then law01_num k v_7 else some default) fun _ =>
     lt1 ((v_7 != (2 : Int))) fun v_20 =>
     lt1 (bif v_18 then true else v_20) fun v_21 =>
     some v_21
    ) fun x_22 =>
     if x_22 = true then
      some (.inr false)
     else
      some (.inl ())
   : Option ((Unit) ⊕ ((Bool)))) fun t => match t with
  | (.inl _) =>
   Option.bind (wire_Get k a_3) fun (v_23, v_24) =>
   Option.bind (
    lt1 (decide ((List.length a_3 : Int) < (1 : Int))) fun v_25 =>
    lt1 (decide ((List.length a_3 : Int) > (8 : Int))) fun v_26 =>
    lt1 (bif v_25 then true else v_26) fun v_27 =>
    some v_27
   ) fun x_28 =>
    if x_28 = true then
     Option.bind (
      lt1 ((v_23 == (0 : UInt64))) fun v_29 =>
      Option.bind (if v_29 = true then law01_num k v_24 else some default) fun _ =>
      lt1 ((v_24 == (2 : Int))) fun v_31 =>
      lt1 (bif v_29 then v_31 else false) fun v_32 =>
      Option.bind (if v_32 = true then law01_known k else some default) fun v_33 =>
      lt1 (bif v_32 then v_33 else false) fun v_34 =>
      some v_34
     ) fun x_35 =>
      some x_35
    else
     Option.bind (
      Option.bind (ref01_Get k a_3) fun v_36 =>
      lt1 ((v_23 == v_36)) fun v_37 =>
      Option.bind (if v_37 = true then law01_num k v_24 else some default) fun _ =>
      lt1 ((v_24 == (0 : Int))) fun v_39 =>
      lt1 (bif v_37 then v_39 else false) fun v_40 =>
      Option.bind (if v_40 = true then law01_known k else some default) fun v_41 =>
      lt1 (bif v_40 then v_41 else false) fun v_42 =>
      some v_42
     ) fun x_43 =>
      some x_43
  | (.inr q) =>
   some q

def ref01_Reader_Bytes (k : Nat) (n_1 : Int) (r_2 : ref01_Reader) : Option (((List UInt8) × ref01_Reader)) :=
 Option.bind (
  lt1 (decide (n_1 < (0 : Int))) fun v_4 =>
  lt1 (bif r_2.Failed then true else v_4) fun v_5 =>
  if v_5 = true then
   some true
  else
   lt1 (w64 ((List.length r_2.B : Int) - r_2.At)) fun v_6 =>
   lt1 (decide (n_1 > v_6)) fun v_7 =>
   some v_7
 ) fun x_8 =>
  if x_8 = true then
   lt1 ({ r_2 with Failed := true }) fun r_9 =>
   some (([] : (List UInt8)), r_9)
  else
   lt1 (w64 (r_2.At + n_1)) fun v_10 =>
   lt1 ({ r_2 with At := v_10 }) fun r_11 =>
   lt1 (w64 (r_11.At - n_1)) fun v_12 =>
   Option.bind (subL r_11.B v_12 r_11.At) fun v_13 =>
   some (v_13, r_11)

def ref01_Reader_Number (k : Nat) (size_1 : Int) (B_2 : (List UInt8)) (At_3 : Int) (Failed_4 : Bool) : Option ((UInt64 × ref01_Reader)) :=
 Option.bind (
  Option.bind (
   lt1 (decide (size_1 < (1 : Int))) fun v_6 =>
   lt1 (decide (size_1 > (8 : Int))) fun v_7 =>
   lt1 (bif v_6 then true else v_7) fun v_8 =>
   some v_8
  ) fun x_9 =>
   if x_9 = true then
    some (ref01_Reader.mk B_2 At_3 true)
   else
    some (ref01_Reader.mk B_2 At_3 Failed_4)
 ) fun r_10 =>
  Option.bind (ref01_Reader_Bytes k size_1 r_10) fun (v_11, x_12) =>
  Option.bind (ref01_Get k v_11) fun v_13 =>
  some (v_13, x_12)

def ref01_Reader_Number'2 (k : Nat) (size_1 : Int) (r_2 : ref01_Reader) : Option ((UInt64 × ref01_Reader)) :=
 Option.bind (
  Option.bind (
   lt1 (decide (size_1 < (1 : Int))) fun v_4 =>
   lt1 (decide (size_1 > (8 : Int))) fun v_5 =>
   lt1 (bif v_4 then true else v_5) fun v_6 =>
   some v_6
  ) fun x_7 =>
   if x_7 = true then
    lt1 ({ r_2 with Failed := true }) fun r_8 =>
    some r_8
   else
    some r_2
 ) fun r_9 =>
  Option.bind (ref01_Reader_Bytes k size_1 r_9) fun (v_10, x_11) =>
  Option.bind (ref01_Get k v_10) fun v_12 =>
  some (v_12, x_11)

def ref01_Reader_Blob (k : Nat) (B_1 : (List UInt8)) (At_2 : Int) (Failed_3 : Bool) : Option (((List UInt8) × ref01_Reader)) :=
 Option.bind (ref01_Reader_Number'2 k (2 : Int) (ref01_Reader.mk B_1 At_2 Failed_3)) fun (v_5, x_6) =>
 lt1 (w64 (UN.toN v_5 : Int)) fun v_7 =>
 Option.bind (ref01_Reader_Bytes k v_7 x_6) fun (v_8, x_9) =>
 some (v_8, x_9)

def wire_Reader_Dot (k : Nat) (is_1 : Bool) (made_2 : Bool) (x_4 : (List UInt8)) : Option ((api_Dot × wire_Reader)) :=
 Option.bind (wire_Reader_take k (9 : Int) is_1 made_2 x_4) fun (v_8, v_9, x_10, x_11, x_12) =>
 Option.bind (wire_Read k v_8) fun v_13 =>
 Option.bind (wire_Reader_Number k (1 : Int) true true v_13) fun (v_17, x_18) =>
 lt1 (w64 (UN.toN v_17 : Int)) fun v_19 =>
 Option.bind (wire_Reader_Number'2 k (8 : Int) x_18) fun (v_20, x_21) =>
 some ((api_Dot.mk v_19 v_20), (wire_Reader.mk x_10 x_11 x_12))

def ref01_Reader_Dot (k : Nat) (r_1 : ref01_Reader) : Option ((api_Dot × ref01_Reader)) :=
 Option.bind (ref01_Reader_Bytes k (9 : Int) r_1) fun (v_4, x_5) =>
 lt1 (((List.length v_4 : Int) == (0 : Int))) fun v_6 =>
 if v_6 = true then
  some ((api_Dot.mk (0 : Int) (0 : UInt64)), x_5)
 else
  Option.bind (idxL v_4 (0 : Int)) fun v_7 =>
  lt1 (w64 (UN.toN v_7 : Int)) fun v_8 =>
  Option.bind (subL v_4 (1 : Int) (List.length v_4 : Int)) fun v_9 =>
  Option.bind (ref01_Get k v_9) fun v_10 =>
  some ((api_Dot.mk v_8 v_10), x_5)

def wire_Reader_Vector_1 (k : Nat) (is_2 : Bool) (made_3 : Bool) (x_5 : (List UInt8)) : Option ((UInt64 × wire_Reader)) :=
 Option.bind (wire_Reader_Number k (8 : Int) is_2 made_3 x_5) fun (v_8, x_9) =>
 some (v_8, x_9)

def wire_Reader_Vector_1'2 (k : Nat) (x_2 : wire_Reader) : Option ((UInt64 × wire_Reader)) :=
 Option.bind (wire_Reader_Number'2 k (8 : Int) x_2) fun (v_4, x_5) =>
 some (v_4, x_5)

def wire_Reader_Vector.b1 (k : Nat) (v_18 : (Vector UInt64 16)) (x_19 : wire_Reader) (x_20 : Int) : Option (((Vector UInt64 16) × wire_Reader × Int) ⊕ (((Vector UInt64 16)))) :=
 lt1 (decide (x_20 < (16 : Int))) fun v_21 =>
 if v_21 = true then
  Option.bind (wire_Reader_Vector_1'2 k x_19) fun (v_22, x_23) =>
  Option.bind (inV 16 x_20) fun i_24 =>
  lt1 ((putV v_18 i_24 v_22)) fun v_25 =>
  lt1 (w64 (x_20 + (1 : Int))) fun v_26 =>
  some (.inl (v_25, x_23, v_26))
 else
  some (.inr v_18)

def wire_Reader_Vector (k : Nat) (is_1 : Bool) (made_2 : Bool) (x_4 : (List UInt8)) : Option (((Vector UInt64 16) × wire_Reader)) :=
 Option.bind (wire_Reader_take k (128 : Int) is_1 made_2 x_4) fun (v_8, v_9, x_10, x_11, x_12) =>
 Option.bind (wire_Read k v_8) fun v_13 =>
 Option.bind (
  loopO (fun s => wire_Reader_Vector.b1 k s.1 s.2.1 s.2.2) k ((Vector.replicate 16 (0 : UInt64)), (wire_Reader.mk v_13 true true), (0 : Int))
 ) fun v_27 =>
  some (v_27, (wire_Reader.mk x_10 x_11 x_12))

def ref01_Reader_Vector.b1 (k : Nat) (v_5 : (List UInt8)) (v_7 : (Vector UInt64 16)) (i_8 : Int) : Option (((Vector UInt64 16) × Int) ⊕ (((Vector UInt64 16)))) :=
 Option.bind (divI (List.length v_5 : Int) (8 : Int)) fun v_9 =>
 lt1 (decide (i_8 < v_9)) fun v_10 =>
 if v_10 = true then
  lt1 (w64 ((8 : Int) * i_8)) fun v_11 =>
  lt1 (w64 ((8 : Int) * i_8)) fun v_12 =>
  lt1 (w64 (v_12 + (8 : Int))) fun v_13 =>
  Option.bind (subL v_5 v_11 v_13) fun v_14 =>
  Option.bind (ref01_Get k v_14) fun v_15 =>
  Option.bind (inV 16 i_8) fun i_16 =>
  lt1 ((putV v_7 i_16 v_15)) fun v_17 =>
  lt1 (w64 (i_8 + (1 : Int))) fun v_18 =>
  some (.inl (v_17, v_18))
 else
  some (.inr v_7)

def ref01_Reader_Vector (k : Nat) (r_1 : ref01_Reader) : Option (((Vector UInt64 16) × ref01_Reader)) :=
 Option.bind (ref01_Reader_Bytes k (128 : Int) r_1) fun (v_5, x_6) =>
 Option.bind (
  loopO (fun s => ref01_Reader_Vector.b1 k v_5 s.1 s.2) k ((Vector.replicate 16 (0 : UInt64)), (0 : Int))
 ) fun v_19 =>
  some (v_19, x_6)

def wire_Reader_Bytes'2 (k : Nat) (n_1 : Int) (is_2 : Bool) (made_3 : Bool) (x_5 : (List UInt8)) : Option (((List UInt8) × wire_Reader)) :=
 Option.bind (wire_Reader_take k n_1 is_2 made_3 x_5) fun (v_8, v_9, x_10, x_11, x_12) =>
 some (v_8, (wire_Reader.mk x_10 x_11 x_12))

def ref01_Reader_Bytes'2 (k : Nat) (n_1 : Int) (B_2 : (List UInt8)) (At_3 : Int) (Failed_4 : Bool) : Option (((List UInt8) × ref01_Reader)) :=
 Option.bind (
  lt1 (decide (n_1 < (0 : Int))) fun v_6 =>
  lt1 (bif Failed_4 then true else v_6) fun v_7 =>
  if v_7 = true then
   some true
  else
   lt1 (w64 ((List.length B_2 : Int) - At_3)) fun v_8 =>
   lt1 (decide (n_1 > v_8)) fun v_9 =>
   some v_9
 ) fun x_10 =>
  if x_10 = true then
   some (([] : (List UInt8)), (ref01_Reader.mk B_2 At_3 true))
  else
   lt1 (w64 (At_3 + n_1)) fun v_11 =>
   lt1 (w64 (v_11 - n_1)) fun v_12 =>
   Option.bind (subL B_2 v_12 v_11) fun v_13 =>
   some (v_13, (ref01_Reader.mk B_2 v_11 Failed_4))

def ref01_Blob (k : Nat) (b_1 : (List UInt8)) : Option (((List UInt8))) :=
 lt1 ((UN.ofI (List.length b_1 : Int) : UInt64)) fun v_2 =>
 Option.bind (ref01_Put k v_2 (2 : Int)) fun v_3 =>
 Option.bind (apL 1 v_3 b_1) fun x_5 =>
 some x_5

def ref01_Dot (k : Nat) (d_1 : api_Dot) : Option (((List UInt8))) :=
 lt1 ((UN.ofI d_1.Region : UInt64)) fun v_3 =>
 Option.bind (ref01_Put k v_3 (1 : Int)) fun v_4 =>
 Option.bind (ref01_Put k d_1.Count (8 : Int)) fun v_6 =>
 Option.bind (apL 1 v_4 v_6) fun x_8 =>
 some x_8

def ref01_Vector.b1 (k : Nat) (v_1 : (Vector UInt64 16)) (b_3 : (List UInt8)) (i_4 : Int) : Option (((List UInt8) × Int) ⊕ (((List UInt8)))) :=
 lt1 (decide (i_4 < (16 : Int))) fun v_7 =>
 if v_7 = true then
  Option.bind (inV 16 i_4) fun i_8 =>
  lt1 ((getV v_1 i_8)) fun v_9 =>
  Option.bind (ref01_Put k v_9 (8 : Int)) fun v_10 =>
  Option.bind (apL 1 b_3 v_10) fun b_12 =>
  lt1 (w64 (i_4 + (1 : Int))) fun v_15 =>
  some (.inl (b_12, v_15))
 else
  some (.inr b_3)

def ref01_Vector (k : Nat) (v_1 : (Vector UInt64 16)) : Option (((List UInt8))) :=
 Option.bind (
  loopO (fun s => ref01_Vector.b1 k v_1 s.1 s.2) k (([] : (List UInt8)), (0 : Int))
 ) fun b_16 =>
  some b_16

def wire_Reader_Dot'2 (k : Nat) (r_1 : wire_Reader) : Option ((api_Dot × wire_Reader)) :=
 Option.bind (wire_Reader_take'2 k (9 : Int) r_1) fun (v_4, v_5, x_6) =>
 Option.bind (wire_Read k v_4) fun v_7 =>
 Option.bind (wire_Reader_Number k (1 : Int) true true v_7) fun (v_11, x_12) =>
 lt1 (w64 (UN.toN v_11 : Int)) fun v_13 =>
 Option.bind (wire_Reader_Number'2 k (8 : Int) x_12) fun (v_14, x_15) =>
 some ((api_Dot.mk v_13 v_14), x_6)

def wire_Reader_Vector'2.b1 (k : Nat) (v_12 : (Vector UInt64 16)) (x_13 : wire_Reader) (x_14 : Int) : Option (((Vector UInt64 16) × wire_Reader × Int) ⊕ (((Vector UInt64 16)))) :=
 lt1 (decide (x_14 < (16 : Int))) fun v_15 =>
 if v_15 = true then
  Option.bind (wire_Reader_Vector_1'2 k x_13) fun (v_16, x_17) =>
  Option.bind (inV 16 x_14) fun i_18 =>
  lt1 ((putV v_12 i_18 v_16)) fun v_19 =>
  lt1 (w64 (x_14 + (1 : Int))) fun v_20 =>
  some (.inl (v_19, x_17, v_20))
 else
  some (.inr v_12)

def wire_Reader_Vector'2 (k : Nat) (r_1 : wire_Reader) : Option (((Vector UInt64 16) × wire_Reader)) :=
 Option.bind (wire_Reader_take'2 k (128 : Int) r_1) fun (v_4, v_5, x_6) =>
 Option.bind (wire_Read k v_4) fun v_7 =>
 Option.bind (
  loopO (fun s => wire_Reader_Vector'2.b1 k s.1 s.2.1 s.2.2) k ((Vector.replicate 16 (0 : UInt64)), (wire_Reader.mk v_7 true true), (0 : Int))
 ) fun v_21 =>
  some (v_21, x_6)

def law01_WireCuts (k : Nat) (t_1 : (List UInt8)) (a_2 : api_Dot) (a_3 : (Vector UInt64 16)) (a_4 : Int) : Option ((Bool)) :=
 Option.bind (
  lt1 (decide ((List.length t_1 : Int) > (9000 : Int))) fun v_7 =>
  if v_7 = true then
   some true
  else
   lt1 (decide (a_2.Region < (0 : Int))) fun v_8 =>
   if v_8 = true then
    some true
   else
    lt1 (decide (a_2.Region > (255 : Int))) fun v_9 =>
    some v_9
 ) fun x_10 =>
  if x_10 = true then
   Option.bind (law01_known k) fun v_11 =>
   some v_11
  else
   Option.bind (ref01_Blob k t_1) fun v_12 =>
   Option.bind (ref01_Dot k a_2) fun v_15 =>
   Option.bind (apL 1 v_12 v_15) fun x_18 =>
   Option.bind (ref01_Vector k a_3) fun v_21 =>
   Option.bind (apL 1 x_18 v_21) fun x_24 =>
   Option.bind (
    lt1 (decide (a_4 < (0 : Int))) fun v_27 =>
    if v_27 = true then
     some true
    else
     lt1 (decide (a_4 > (List.length x_24 : Int))) fun v_28 =>
     some v_28
   ) fun x_29 =>
    if x_29 = true then
     Option.bind (law01_known k) fun v_30 =>
     some v_30
    else
     Option.bind (subL x_24 (0) a_4) fun v_31 =>
     Option.bind (wire_Read k v_31) fun v_32 =>
     Option.bind (wire_Reader_Blob k true true v_32) fun (v_36, x_37) =>
     lt1 (w64 ((2 : Int) + (List.length t_1 : Int))) fun v_38 =>
     lt1 (decide (a_4 ≥ v_38)) fun v_39 =>
     Option.bind (wire_Reader_Dot'2 k x_37) fun (v_40, x_41) =>
     lt1 (w64 ((11 : Int) + (List.length t_1 : Int))) fun v_43 =>
     lt1 (decide (a_4 ≥ v_43)) fun v_44 =>
     Option.bind (wire_Reader_Vector'2 k x_41) fun (v_45, x_46) =>
     lt1 ((a_4 == (List.length x_24 : Int))) fun v_48 =>
     Option.bind (
      lt1 ((v_36 != t_1)) fun v_49 =>
      lt1 (bif v_39 then v_49 else false) fun v_50 =>
      lt1 ((!v_39)) fun v_51 =>
      lt1 (((List.length v_36 : Int) != (0 : Int))) fun v_52 =>
      lt1 (bif v_51 then v_52 else false) fun v_53 =>
      lt1 (bif v_50 then true else v_53) fun v_54 =>
      lt1 ((!(eq_api_Dot v_40 a_2))) fun v_55 =>
      lt1 (bif v_44 then v_55 else false) fun v_56 =>
      lt1 (bif v_54 then true else v_56) fun v_57 =>
      lt1 ((!v_44)) fun v_58 =>
      lt1 ((!(eq_api_Dot v_40 (api_Dot.mk (0 : Int) (0 : UInt64))))) fun v_59 =>
      lt1 (bif v_58 then v_59 else false) fun v_60 =>
      lt1 (bif v_57 then true else v_60) fun v_61 =>
      lt1 ((!((eqV (fun x y => x == y)) v_45 a_3))) fun v_62 =>
      lt1 (bif v_48 then v_62 else false) fun v_63 =>
      lt1 (bif v_61 then true else v_63) fun v_64 =>
      lt1 ((!v_48)) fun v_65 =>
      lt1 ((!((eqV (fun x y => x == y)) v_45 (Vector.replicate 16 (0 : UInt64))))) fun v_66 =>
      lt1 (bif v_65 then v_66 else false) fun v_67 =>
      lt1 (bif v_64 then true else v_67) fun v_68 =>
      some v_68
     ) fun x_69 =>
      if x_69 = true then
       some false
      else
       Option.bind (
        Option.bind (wire_Reader_Failed'2 k x_46) fun v_70 =>
        lt1 ((!v_48)) fun v_71 =>
        lt1 ((v_70 == v_71)) fun v_72 =>
        if v_72 = true then
         Option.bind (wire_Reader_End k x_46) fun v_73 =>
         Option.bind (law01_num k v_73) fun _ =>
         lt1 ((v_73 == (0 : Int))) fun v_75 =>
         lt1 ((v_75 == v_48)) fun v_76 =>
         Option.bind (if v_76 = true then law01_known k else some default) fun v_77 =>
         lt1 (bif v_76 then v_77 else false) fun v_78 =>
         some v_78
        else
         some false
       ) fun x_79 =>
        some x_79

def ref01_Much.b1 (k : Nat) (l_1 : (List (List UInt8))) (most_2 : Int) (n_3 : Int) (i_4 : Int) : Option ((Int × Int) ⊕ ((Int))) :=
 Option.bind (
  lt1 (decide (i_4 < (List.length l_1 : Int))) fun v_5 =>
  lt1 (decide (n_3 ≤ most_2)) fun v_6 =>
  lt1 (bif v_5 then v_6 else false) fun v_7 =>
  some v_7
 ) fun x_8 =>
  if x_8 = true then
   Option.bind (idxL l_1 i_4) fun v_9 =>
   lt1 (w64 (most_2 + (1 : Int))) fun v_10 =>
   lt1 (minI (List.length v_9 : Int) v_10) fun v_11 =>
   lt1 (w64 (n_3 + v_11)) fun v_12 =>
   lt1 (w64 (i_4 + (1 : Int))) fun v_13 =>
   some (.inl (v_12, v_13))
  else
   some (.inr n_3)

def ref01_Much (k : Nat) (l_1 : (List (List UInt8))) (most_2 : Int) : Option ((Bool)) :=
 Option.bind (
  loopO (fun s => ref01_Much.b1 k l_1 most_2 s.1 s.2) k ((List.length l_1 : Int), (0 : Int))
 ) fun n_14 =>
  lt1 (decide (n_14 > most_2)) fun v_15 =>
  some v_15

def wire_Vector.b1 (k : Nat) (v_1 : (Vector UInt64 16)) (b_3 : (List UInt8)) (x_4 : Int) : Option (((List UInt8) × Int) ⊕ (((List UInt8)))) :=
 lt1 (decide (x_4 < (16 : Int))) fun v_7 =>
 if v_7 = true then
  Option.bind (idxV v_1 x_4) fun v_8 =>
  Option.bind (wire_Put k v_8 (8 : Int)) fun (v_9, v_10) =>
  Option.bind (apL 1 b_3 v_9) fun b_13 =>
  lt1 (w64 (x_4 + (1 : Int))) fun v_16 =>
  some (.inl (b_13, v_16))
 else
  some (.inr b_3)

def wire_Vector (k : Nat) (v_1 : (Vector UInt64 16)) : Option (((List UInt8))) :=
 Option.bind (
  loopO (fun s => wire_Vector.b1 k v_1 s.1 s.2) k (([] : (List UInt8)), (0 : Int))
 ) fun b_17 =>
  some b_17

def slices_Growbyte_byte (k : Nat) (n_1 : Int) : Option ((Unit)) :=
 Option.bind (
  lt1 (decide (n_1 < (0 : Int))) fun v_2 =>
  if v_2 = true then
   none
  else
   some ()
 ) fun _ =>
  Option.bind (
   lt1 (w64 ((0 : Int) - (0 : Int))) fun v_3 =>
   lt1 (w64 (n_1 - v_3)) fun v_4 =>
   lt1 (decide (v_4 > (0 : Int))) fun v_5 =>
   if v_5 = true then
    Option.bind (apZ 1 ([] : (List UInt8)) v_4 (0 : UInt8)) fun v_6 =>
    some ()
   else
    some ()
  ) fun _ =>
   some ()

def slices_Concatbyte_byte.b1 (k : Nat) (slices_1 : (List (List UInt8))) (size_2 : Int) (x_3 : Int) : Option ((Int × Int) ⊕ ((Int))) :=
 lt1 (decide (x_3 < (List.length slices_1 : Int))) fun v_4 =>
 if v_4 = true then
  Option.bind (
   Option.bind (idxL slices_1 x_3) fun v_5 =>
   lt1 (w64 (size_2 + (List.length v_5 : Int))) fun v_6 =>
   lt1 (decide (v_6 < (0 : Int))) fun v_7 =>
   if v_7 = true then
    none
   else
    some v_6
  ) fun size_8 =>
   lt1 (w64 (x_3 + (1 : Int))) fun v_9 =>
   some (.inl (size_8, v_9))
 else
  some (.inr size_2)

def slices_Concatbyte_byte.b2 (k : Nat) (slices_1 : (List (List UInt8))) (newslice_14 : (List UInt8)) (x_15 : Int) : Option (((List UInt8) × Int) ⊕ (((List UInt8)))) :=
 lt1 (decide (x_15 < (List.length slices_1 : Int))) fun v_18 =>
 if v_18 = true then
  Option.bind (idxL slices_1 x_15) fun v_19 =>
  Option.bind (apL 1 newslice_14 v_19) fun newslice_20 =>
  lt1 (w64 (x_15 + (1 : Int))) fun v_23 =>
  some (.inl (newslice_20, v_23))
 else
  some (.inr newslice_14)

def slices_Concatbyte_byte (k : Nat) (slices_1 : (List (List UInt8))) : Option (((List UInt8))) :=
 Option.bind (
  loopO (fun s => slices_Concatbyte_byte.b1 k slices_1 s.1 s.2) k ((0 : Int), (0 : Int))
 ) fun size_10 =>
  Option.bind (slices_Growbyte_byte k size_10) fun _ =>
  Option.bind (
   loopO (fun s => slices_Concatbyte_byte.b2 k slices_1 s.1 s.2) k (([] : (List UInt8)), (0 : Int))
  ) fun newslice_24 =>
   some newslice_24

def wire_Join (k : Nat) (l_1 : (List (List UInt8))) : Option (((List UInt8))) :=
 Option.bind (slices_Concatbyte_byte k l_1) fun v_2 =>
 some v_2

def ref01_Join.b1 (k : Nat) (l_1 : (List (List UInt8))) (o_2 : (List UInt8)) (i_3 : Int) : Option (((List UInt8) × Int) ⊕ (((List UInt8)))) :=
 lt1 (decide (i_3 < (List.length l_1 : Int))) fun v_6 =>
 if v_6 = true then
  Option.bind (idxL l_1 i_3) fun v_7 =>
  Option.bind (apL 1 o_2 v_7) fun o_8 =>
  lt1 (w64 (i_3 + (1 : Int))) fun v_11 =>
  some (.inl (o_8, v_11))
 else
  some (.inr o_2)

def ref01_Join (k : Nat) (l_1 : (List (List UInt8))) : Option (((List UInt8))) :=
 Option.bind (
  loopO (fun s => ref01_Join.b1 k l_1 s.1 s.2) k (([] : (List UInt8)), (0 : Int))
 ) fun o_12 =>
  some o_12

def law01_WireParts (k : Nat) (t_1 : api_Dot) (a_2 : (Vector UInt64 16)) (a_3 : (List (List UInt8))) (a_4 : (List UInt8)) : Option ((Bool)) :=
 Option.bind (
  Option.bind (ref01_Much k a_3 (9000 : Int)) fun v_7 =>
  lt1 (decide ((List.length a_4 : Int) > (70000 : Int))) fun v_8 =>
  lt1 (bif v_7 then true else v_8) fun v_9 =>
  some v_9
 ) fun x_10 =>
  if x_10 = true then
   Option.bind (law01_known k) fun v_11 =>
   some v_11
  else
   Option.bind (wire_Dot k t_1) fun (v_12, v_13) =>
   Option.bind (
    Option.bind (
     lt1 (decide (t_1.Region ≥ (0 : Int))) fun v_16 =>
     if v_16 = true then
      lt1 (decide (t_1.Region ≤ (255 : Int))) fun v_17 =>
      some v_17
     else
      some false
    ) fun x_18 =>
     if x_18 = true then
      Option.bind (
       Option.bind (ref01_Dot k t_1) fun v_19 =>
       lt1 ((v_12 != v_19)) fun v_22 =>
       Option.bind (if (!v_22) = true then law01_num k v_13 else some default) fun _ =>
       lt1 ((v_13 != (0 : Int))) fun v_24 =>
       lt1 (bif v_22 then true else v_24) fun v_25 =>
       some v_25
      ) fun x_26 =>
       if x_26 = true then
        some (.inr false)
       else
        some (.inl ())
     else
      Option.bind (
       lt1 (((List.length v_12 : Int) != (0 : Int))) fun v_27 =>
       Option.bind (if (!v_27) = true then law01_num k v_13 else some default) fun _ =>
       lt1 ((v_13 != (2 : Int))) fun v_29 =>
       lt1 (bif v_27 then true else v_29) fun v_30 =>
       some v_30
      ) fun x_31 =>
       if x_31 = true then
        some (.inr false)
       else
        some (.inl ())
    : Option ((Unit) ⊕ ((Bool)))) fun t => match t with
   | (.inl _) =>
    Option.bind (wire_Blob k a_4) fun (v_32, v_33) =>
    Option.bind (
     lt1 (decide ((List.length a_4 : Int) ≤ (65535 : Int))) fun v_36 =>
     if v_36 = true then
      Option.bind (
       Option.bind (ref01_Blob k a_4) fun v_37 =>
       lt1 ((v_32 != v_37)) fun v_40 =>
       Option.bind (if (!v_40) = true then law01_num k v_33 else some default) fun _ =>
       lt1 ((v_33 != (0 : Int))) fun v_42 =>
       lt1 (bif v_40 then true else v_42) fun v_43 =>
       some v_43
      ) fun x_44 =>
       if x_44 = true then
        some (.inr false)
       else
        some (.inl ())
     else
      Option.bind (
       lt1 (((List.length v_32 : Int) != (0 : Int))) fun v_45 =>
       Option.bind (if (!v_45) = true then law01_num k v_33 else some default) fun _ =>
       lt1 ((v_33 != (3 : Int))) fun v_47 =>
       lt1 (bif v_45 then true else v_47) fun v_48 =>
       some v_48
      ) fun x_49 =>
       if x_49 = true then
        some (.inr false)
       else
        some (.inl ())
     : Option ((Unit) ⊕ ((Bool)))) fun t => match t with
    | (.inl _) =>
     Option.bind (
      Option.bind (wire_Vector k a_2) fun v_50 =>
      Option.bind (ref01_Vector k a_2) fun v_53 =>
      lt1 ((v_50 == v_53)) fun v_56 =>
      if v_56 = true then
       Option.bind (wire_Join k a_3) fun v_57 =>
       Option.bind (ref01_Join k a_3) fun v_60 =>
       lt1 ((v_57 == v_60)) fun v_63 =>
       Option.bind (if v_63 = true then law01_known k else some default) fun v_64 =>
       lt1 (bif v_63 then v_64 else false) fun v_65 =>
       some v_65
      else
       some false
     ) fun x_66 =>
      some x_66
    | (.inr q) =>
     some q
   | (.inr q) =>
    some q

def internal_stringslite_IndexByte (k : Nat) (s_1 : (List UInt8)) (c_2 : UInt8) : Option ((Int)) :=
 lt1 (indexB s_1 c_2) fun v_3 =>
 some v_3

def strings_IndexByte (k : Nat) (s_1 : (List UInt8)) (c_2 : UInt8) : Option ((Int)) :=
 Option.bind (internal_stringslite_IndexByte k s_1 c_2) fun v_3 =>
 some v_3

def wire_Unhex.b1 (k : Nat) (s_1 : (List UInt8)) (out_4 : (List UInt8)) (good_5 : Bool) (i_6 : Int) : Option (((List UInt8) × Bool × Int) ⊕ (((List UInt8) × Bool))) :=
 Option.bind (
  lt1 (decide (i_6 < (List.length s_1 : Int))) fun v_9 =>
  lt1 (bif good_5 then v_9 else false) fun v_10 =>
  some v_10
 ) fun x_11 =>
  if x_11 = true then
   Option.bind (idxL s_1 i_6) fun v_12 =>
   Option.bind (strings_IndexByte k ([48, 49, 50, 51, 52, 53, 54, 55, 56, 57, 97, 98, 99, 100, 101, 102] : List UInt8) v_12) fun v_13 =>
   lt1 (w64 (i_6 + (1 : Int))) fun v_14 =>
   Option.bind (idxL s_1 v_14) fun v_15 =>
   Option.bind (strings_IndexByte k ([48, 49, 50, 51, 52, 53, 54, 55, 56, 57, 97, 98, 99, 100, 101, 102] : List UInt8) v_15) fun v_16 =>
   Option.bind (
    lt1 (decide (v_13 ≥ (0 : Int))) fun v_17 =>
    lt1 (decide (v_16 ≥ (0 : Int))) fun v_18 =>
    lt1 (bif v_17 then v_18 else false) fun v_19 =>
    some v_19
   ) fun good_20 =>
    lt1 ((!good_20)) fun v_21 =>
    if v_21 = true then
     some (.inr (out_4, good_20))
    else
     Option.bind (shlI v_13 (UN.toN (4 : UInt64))) fun v_22 =>
     lt1 (orI v_22 v_16) fun v_23 =>
     lt1 ((UN.ofI v_23 : UInt8)) fun v_24 =>
     Option.bind (apL 1 out_4 ([v_24] : (List UInt8))) fun out_25 =>
     lt1 (w64 (i_6 + (2 : Int))) fun v_28 =>
     some (.inl (out_25, good_20, v_28))
  else
   some (.inr (out_4, good_5))

def wire_Unhex (k : Nat) (s_1 : (List UInt8)) : Option (((List UInt8) × Int)) :=
 Option.bind (modI (List.length s_1 : Int) (2 : Int)) fun v_2 =>
 lt1 ((v_2 == (0 : Int))) fun v_3 =>
 Option.bind (
  loopO (fun s => wire_Unhex.b1 k s_1 s.1 s.2.1 s.2.2) k (([] : (List UInt8)), v_3, (0 : Int))
 ) fun (out_29, good_30) =>
  lt1 ((!good_30)) fun v_33 =>
  if v_33 = true then
   some (([] : (List UInt8)), (4 : Int))
  else
   some (out_29, (0 : Int))

def ref01_Unhex.b2 (k : Nat) (x_5 : Int) (t_1 : (List UInt8)) (x_9 : Int) (x_10 : Int) : Option ((Int × Int) ⊕ ((Int) ⊕ (((List UInt8) × Bool)))) :=
 lt1 (w64 (x_5 + (2 : Int))) fun v_11 =>
 lt1 (decide (x_10 < v_11)) fun v_12 =>
 if v_12 = true then
  Option.bind (
   Option.bind (
    Option.bind (idxL t_1 x_10) fun v_13 =>
    lt1 (decide ((48 : UInt8) ≤ v_13)) fun v_14 =>
    Option.bind (if v_14 = true then idxL t_1 x_10 else some default) fun v_15 =>
    lt1 (decide (v_15 ≤ (57 : UInt8))) fun v_16 =>
    lt1 (bif v_14 then v_16 else false) fun v_17 =>
    some v_17
   ) fun x_18 =>
    if x_18 = true then
     lt1 (w64 ((16 : Int) * x_9)) fun v_19 =>
     Option.bind (idxL t_1 x_10) fun v_20 =>
     lt1 ((v_20 - (48 : UInt8))) fun v_21 =>
     lt1 (w64 (UN.toN v_21 : Int)) fun v_22 =>
     lt1 (w64 (v_19 + v_22)) fun v_23 =>
     some (.inl v_23)
    else
     Option.bind (
      Option.bind (idxL t_1 x_10) fun v_24 =>
      lt1 (decide ((97 : UInt8) ≤ v_24)) fun v_25 =>
      Option.bind (if v_25 = true then idxL t_1 x_10 else some default) fun v_26 =>
      lt1 (decide (v_26 ≤ (102 : UInt8))) fun v_27 =>
      lt1 (bif v_25 then v_27 else false) fun v_28 =>
      some v_28
     ) fun x_29 =>
      if x_29 = true then
       lt1 (w64 ((16 : Int) * x_9)) fun v_30 =>
       Option.bind (idxL t_1 x_10) fun v_31 =>
       lt1 ((v_31 - (97 : UInt8))) fun v_32 =>
       lt1 (w64 (UN.toN v_32 : Int)) fun v_33 =>
       lt1 (w64 (v_30 + v_33)) fun v_34 =>
       lt1 (w64 (v_34 + (10 : Int))) fun v_35 =>
       some (.inl v_35)
      else
       some (.inr (([] : (List UInt8)), false))
   : Option ((Int) ⊕ (((List UInt8) × Bool)))) fun t => match t with
  | (.inl x_36) =>
   lt1 (w64 (x_10 + (1 : Int))) fun v_37 =>
   some (.inl (x_36, v_37))
  | (.inr q) =>
   some (.inr (.inr q))
 else
  some (.inr (.inl x_9))

def ref01_Unhex.b1 (k : Nat) (t_1 : (List UInt8)) (x_4 : (List UInt8)) (x_5 : Int) : Option (((List UInt8) × Int) ⊕ (((List UInt8)) ⊕ (((List UInt8) × Bool)))) :=
 lt1 (decide (x_5 < (List.length t_1 : Int))) fun v_8 =>
 if v_8 = true then
  Option.bind (
   Option.bind (
    Option.bind (loopO (fun s => ref01_Unhex.b2 k x_5 t_1 s.1 s.2) k ((0 : Int), x_5)) fun t => match t with
    | (.inl x_38) =>
     some (.inl x_38)
    | (.inr q) =>
     some (.inr q)
    : Option ((Int) ⊕ (((List UInt8) × Bool)))) fun t => match t with
   | (.inl x_39) =>
    lt1 ((UN.ofI x_39 : UInt8)) fun v_40 =>
    Option.bind (apL 1 x_4 ([v_40] : (List UInt8))) fun x_41 =>
    some (.inl x_41)
   | (.inr q) =>
    some (.inr q)
   : Option (((List UInt8)) ⊕ (((List UInt8) × Bool)))) fun t => match t with
  | (.inl x_44) =>
   lt1 (w64 (x_5 + (2 : Int))) fun v_47 =>
   some (.inl (x_44, v_47))
  | (.inr q) =>
   some (.inr (.inr q))
 else
  some (.inr (.inl x_4))

def ref01_Unhex (k : Nat) (t_1 : (List UInt8)) : Option (((List UInt8) × Bool)) :=
 Option.bind (modI (List.length t_1 : Int) (2 : Int)) fun v_2 =>
 lt1 ((v_2 != (0 : Int))) fun v_3 =>
 if v_3 = true then
  some (([] : (List UInt8)), false)
 else
  Option.bind (
   Option.bind (loopO (fun s => ref01_Unhex.b1 k t_1 s.1 s.2) k (([] : (List UInt8)), (0 : Int))) fun t => match t with
   | (.inl x_48) =>
    some (.inl x_48)
   | (.inr q) =>
    some (.inr q)
   : Option (((List UInt8)) ⊕ (((List UInt8) × Bool)))) fun t => match t with
  | (.inl x_51) =>
   some (x_51, true)
  | (.inr q) =>
   some q

def strings_Builder_copyCheck (k : Nat) : Option ((Unit)) :=
 some ()

def strings_Builder_WriteByte (k : Nat) (c_1 : UInt8) : Option (((List UInt8))) :=
 Option.bind (strings_Builder_copyCheck k) fun _ =>
 Option.bind (apL 1 ([] : (List UInt8)) ([c_1] : (List UInt8))) fun v_4 =>
 some v_4

def strings_Builder_copyCheck'2 (k : Nat) (x_2 : (List UInt8)) : Option ((Unit)) :=
 some ()

def strings_Builder_WriteByte'2 (k : Nat) (c_1 : UInt8) (x_3 : (List UInt8)) : Option (((List UInt8))) :=
 Option.bind (strings_Builder_copyCheck'2 k x_3) fun _ =>
 Option.bind (apL 1 x_3 ([c_1] : (List UInt8))) fun x_7 =>
 some x_7

def strings_Builder_copyCheck'3 (k : Nat) (x_2 : (List UInt8)) : Option ((Unit)) :=
 some ()

def strings_Builder_WriteByte'3 (k : Nat) (c_1 : UInt8) (x_3 : (List UInt8)) : Option (((List UInt8))) :=
 Option.bind (strings_Builder_copyCheck'3 k x_3) fun _ =>
 Option.bind (apL 1 x_3 ([c_1] : (List UInt8))) fun x_7 =>
 some x_7

def strings_Builder_String (k : Nat) (x_2 : (List UInt8)) : Option (((List UInt8))) :=
 Option.bind (toStr x_2) fun v_5 =>
 some v_5

def wire_Hex.b1 (k : Nat) (b_1 : (List UInt8)) (buf_3 : (List UInt8)) (x_4 : Int) : Option (((List UInt8) × Int) ⊕ (((List UInt8)))) :=
 lt1 (decide (x_4 < (List.length b_1 : Int))) fun v_7 =>
 if v_7 = true then
  Option.bind (idxL b_1 x_4) fun v_8 =>
  lt1 (UN.shr v_8 (UN.toN (4 : UInt64))) fun v_9 =>
  Option.bind (idxL ([48, 49, 50, 51, 52, 53, 54, 55, 56, 57, 97, 98, 99, 100, 101, 102] : List UInt8) (UN.toN v_9)) fun v_10 =>
  Option.bind (strings_Builder_WriteByte'3 k v_10 buf_3) fun v_11 =>
  lt1 ((v_8 &&& (15 : UInt8))) fun v_14 =>
  Option.bind (idxL ([48, 49, 50, 51, 52, 53, 54, 55, 56, 57, 97, 98, 99, 100, 101, 102] : List UInt8) (UN.toN v_14)) fun v_15 =>
  Option.bind (strings_Builder_WriteByte'2 k v_15 v_11) fun v_16 =>
  lt1 (w64 (x_4 + (1 : Int))) fun v_19 =>
  some (.inl (v_16, v_19))
 else
  some (.inr buf_3)

def wire_Hex (k : Nat) (b_1 : (List UInt8)) : Option (((List UInt8))) :=
 Option.bind (
  loopO (fun s => wire_Hex.b1 k b_1 s.1 s.2) k (([] : (List UInt8)), (0 : Int))
 ) fun buf_20 =>
  Option.bind (strings_Builder_String k buf_20) fun v_23 =>
  some v_23

def ref01_Hex.b1 (k : Nat) (b_1 : (List UInt8)) (o_2 : (List UInt8)) (i_3 : Int) : Option (((List UInt8) × Int) ⊕ (((List UInt8)))) :=
 lt1 (decide (i_3 < (List.length b_1 : Int))) fun v_6 =>
 if v_6 = true then
  Option.bind (idxL b_1 i_3) fun v_7 =>
  Option.bind (divU v_7 (16 : UInt8)) fun v_8 =>
  Option.bind (idxL ([48, 49, 50, 51, 52, 53, 54, 55, 56, 57, 97, 98, 99, 100, 101, 102] : List UInt8) (UN.toN v_8)) fun v_9 =>
  Option.bind (idxL b_1 i_3) fun v_10 =>
  Option.bind (modU v_10 (16 : UInt8)) fun v_11 =>
  Option.bind (idxL ([48, 49, 50, 51, 52, 53, 54, 55, 56, 57, 97, 98, 99, 100, 101, 102] : List UInt8) (UN.toN v_11)) fun v_12 =>
  Option.bind (apL 1 o_2 ([v_9, v_12] : (List UInt8))) fun o_13 =>
  lt1 (w64 (i_3 + (1 : Int))) fun v_16 =>
  some (.inl (o_13, v_16))
 else
  some (.inr o_2)

def ref01_Hex (k : Nat) (b_1 : (List UInt8)) : Option (((List UInt8))) :=
 Option.bind (
  loopO (fun s => ref01_Hex.b1 k b_1 s.1 s.2) k (([] : (List UInt8)), (0 : Int))
 ) fun o_17 =>
  some o_17

def law01_WireHex (k : Nat) (b_1 : (List UInt8)) (s_2 : (List UInt8)) : Option ((Bool)) :=
 Option.bind (
  lt1 (decide ((List.length b_1 : Int) > (9000 : Int))) fun v_3 =>
  lt1 (decide ((List.length s_2 : Int) > (9000 : Int))) fun v_4 =>
  lt1 (bif v_3 then true else v_4) fun v_5 =>
  some v_5
 ) fun x_6 =>
  if x_6 = true then
   Option.bind (law01_known k) fun v_7 =>
   some v_7
  else
   Option.bind (wire_Unhex k s_2) fun (v_8, v_9) =>
   Option.bind (ref01_Unhex k s_2) fun (v_12, v_13) =>
   Option.bind (
    Option.bind (wire_Hex k b_1) fun v_16 =>
    Option.bind (ref01_Hex k b_1) fun v_17 =>
    lt1 ((v_16 == v_17)) fun v_18 =>
    if v_18 = true then
     lt1 ((v_8 == v_12)) fun v_19 =>
     Option.bind (if v_19 = true then law01_num k v_9 else some default) fun _ =>
     lt1 ((v_9 == (0 : Int))) fun v_21 =>
     lt1 ((v_21 == v_13)) fun v_22 =>
     lt1 (bif v_19 then v_22 else false) fun v_23 =>
     Option.bind (if (v_23 && (!v_13)) = true then law01_num k v_9 else some default) fun _ =>
     lt1 ((v_9 == (4 : Int))) fun v_25 =>
     lt1 (bif v_13 then true else v_25) fun v_26 =>
     lt1 (bif v_23 then v_26 else false) fun v_27 =>
     Option.bind (if v_27 = true then law01_known k else some default) fun v_28 =>
     lt1 (bif v_27 then v_28 else false) fun v_29 =>
     some v_29
    else
     some false
   ) fun x_30 =>
    some x_30

def wire_Reader_Blob'2 (k : Nat) (r_1 : wire_Reader) : Option (((List UInt8) × wire_Reader)) :=
 Option.bind (wire_Reader_Number'2 k (2 : Int) r_1) fun (v_3, x_4) =>
 lt1 (w64 (UN.toN v_3 : Int)) fun v_5 =>
 Option.bind (wire_Reader_Bytes k v_5 x_4) fun (v_6, x_7) =>
 some (v_6, x_7)

def law01_WireBack (k : Nat) (t_1 : UInt64) (a_2 : api_Dot) (a_3 : (Vector UInt64 16)) (a_4 : (List UInt8)) : Option ((Bool)) :=
 Option.bind (law01_known k) fun v_7 =>
 lt1 ((!v_7)) fun v_8 =>
 if v_8 = true then
  some false
 else
  Option.bind (
   lt1 (decide ((List.length a_4 : Int) > (9000 : Int))) fun v_9 =>
   if v_9 = true then
    some true
   else
    lt1 (decide (a_2.Region < (0 : Int))) fun v_10 =>
    if v_10 = true then
     some true
    else
     lt1 (decide (a_2.Region > (255 : Int))) fun v_11 =>
     some v_11
  ) fun x_12 =>
   if x_12 = true then
    some true
   else
    Option.bind (wire_Put k t_1 (8 : Int)) fun (v_13, v_14) =>
    Option.bind (wire_Dot k a_2) fun (v_17, v_18) =>
    Option.bind (wire_Blob k a_4) fun (v_21, v_22) =>
    Option.bind (wire_Vector k a_3) fun v_25 =>
    Option.bind (wire_Join k ([v_13, v_21, v_17, v_25, a_4] : (List (List UInt8)))) fun v_28 =>
    Option.bind (wire_Read k v_28) fun v_31 =>
    Option.bind (
     Option.bind (law01_num k v_14) fun _ =>
     Option.bind (law01_num k v_18) fun _ =>
     lt1 (w64 (v_14 + v_18)) fun v_37 =>
     Option.bind (law01_num k v_22) fun _ =>
     lt1 (w64 (v_37 + v_22)) fun v_39 =>
     lt1 ((v_39 != (0 : Int))) fun v_40 =>
     some v_40
    ) fun x_41 =>
     if x_41 = true then
      some false
     else
      Option.bind (
       Option.bind (wire_Reader_Number k (8 : Int) true true v_31) fun (v_42, x_43) =>
       lt1 ((!(v_42 == t_1))) fun v_44 =>
       if v_44 = true then
        some (x_43, true)
       else
        Option.bind (wire_Reader_Blob'2 k x_43) fun (v_45, x_46) =>
        lt1 ((v_45 != a_4)) fun v_47 =>
        if v_47 = true then
         some (x_46, true)
        else
         Option.bind (wire_Reader_Dot'2 k x_46) fun (v_48, x_49) =>
         lt1 ((!(eq_api_Dot v_48 a_2))) fun v_50 =>
         if v_50 = true then
          some (x_49, true)
         else
          Option.bind (wire_Reader_Vector'2 k x_49) fun (v_51, x_52) =>
          lt1 ((!((eqV (fun x y => x == y)) v_51 a_3))) fun v_53 =>
          if v_53 = true then
           some (x_52, true)
          else
           Option.bind (wire_Reader_Bytes k (List.length a_4 : Int) x_52) fun (v_54, x_55) =>
           lt1 ((v_54 != a_4)) fun v_56 =>
           if v_56 = true then
            some (x_55, true)
           else
            Option.bind (wire_Reader_End k x_55) fun v_57 =>
            Option.bind (law01_num k v_57) fun _ =>
            lt1 ((v_57 != (0 : Int))) fun v_59 =>
            some (x_55, v_59)
      ) fun (x_60, x_61) =>
       if x_61 = true then
        some false
       else
        Option.bind (wire_Hex k a_4) fun v_62 =>
        Option.bind (wire_Unhex k v_62) fun (v_63, v_64) =>
        Option.bind (
         Option.bind (law01_num k v_64) fun _ =>
         lt1 ((v_64 == (0 : Int))) fun v_68 =>
         if v_68 = true then
          lt1 ((v_63 == a_4)) fun v_69 =>
          if v_69 = true then
           Option.bind (wire_Reader_Number'2 k (1 : Int) x_60) fun (v_70, x_71) =>
           lt1 ((v_70 == (0 : UInt64))) fun v_72 =>
           if v_72 = true then
            Option.bind (wire_Reader_Failed'2 k x_71) fun v_73 =>
            some v_73
           else
            some false
          else
           some false
         else
          some false
        ) fun x_74 =>
         some x_74

end
end Go.Proofs.Ytkbkdfcakpbojaa
