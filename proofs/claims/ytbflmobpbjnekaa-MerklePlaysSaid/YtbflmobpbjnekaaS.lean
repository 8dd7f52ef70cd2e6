/- The functions as plain Lean functions: no program and no memory here. -/
import Derived.Test.YtbflmobpbjnekaaFp
import Derived.Test.YtbflmobpbjnekaaFdp
namespace Go.Proofs.Ytbflmobpbjnekaa
open Fw
set_option linter.unusedVariables false
noncomputable section

structure law08_Step where
  Bucket : Int
  B : (List UInt8)
  deriving DecidableEq, Inhabited

structure sha_state where
  h : (Vector UInt32 8)
  k : (Vector UInt32 64)
  deriving DecidableEq, Inhabited

structure merkle_Tree where
  n : (Vector (Vector UInt8 32) 128)
  is : Bool
  deriving DecidableEq, Inhabited

def law08_much.b1 (k : Nat) (l_1 : (List law08_Step)) (n_2 : Int) (i_3 : Int) : Option ((Int × Int) ⊕ ((Int))) :=
 Option.bind (
  lt1 (decide (i_3 < (List.length l_1 : Int))) fun v_4 =>
  lt1 (decide (i_3 ≤ (40 : Int))) fun v_5 =>
  lt1 (bif v_4 then v_5 else false) fun v_6 =>
  some v_6
 ) fun x_7 =>
  if x_7 = true then
   Option.bind (idxL l_1 i_3) fun v_8 =>
   lt1 (minI (List.length v_8.B : Int) (9001 : Int)) fun v_9 =>
   lt1 (w64 (n_2 + v_9)) fun v_10 =>
   lt1 (w64 (i_3 + (1 : Int))) fun v_11 =>
   some (.inl (v_10, v_11))
  else
   some (.inr n_2)

def law08_much (k : Nat) (l_1 : (List law08_Step)) : Option ((Bool)) :=
 Option.bind (
  loopO (fun s => law08_much.b1 k l_1 s.1 s.2) k ((0 : Int), (0 : Int))
 ) fun n_12 =>
  Option.bind (
   lt1 (decide (n_12 > (9000 : Int))) fun v_13 =>
   lt1 (decide ((List.length l_1 : Int) > (40 : Int))) fun v_14 =>
   lt1 (bif v_13 then true else v_14) fun v_15 =>
   some v_15
  ) fun x_16 =>
   some x_16

def sha_primes_1 (k : Nat) (p_1 : UInt64) (x_2 : UInt64) : Option ((Bool)) :=
 Option.bind (modU x_2 p_1) fun v_4 =>
 lt1 ((v_4 == (0 : UInt64))) fun v_5 =>
 some v_5

def slices_IndexFuncuint64_uint64.b1 (k : Nat) (s_1 : (List UInt64)) (x_2 : UInt64) (x_4 : Int) : Option ((Int) ⊕ ((Unit) ⊕ ((Int)))) :=
 lt1 (decide (x_4 < (List.length s_1 : Int))) fun v_5 =>
 if v_5 = true then
  Option.bind (idxL s_1 x_4) fun v_6 =>
  Option.bind (sha_primes_1 k v_6 x_2) fun v_7 =>
  if v_7 = true then
   some (.inr (.inr x_4))
  else
   lt1 (w64 (x_4 + (1 : Int))) fun v_8 =>
   some (.inl v_8)
 else
  some (.inr (.inl ()))

def slices_IndexFuncuint64_uint64 (k : Nat) (s_1 : (List UInt64)) (x_2 : UInt64) : Option ((Int)) :=
 Option.bind (
  Option.bind (loopO (fun s => slices_IndexFuncuint64_uint64.b1 k s_1 x_2 s) k (0 : Int)) fun t => match t with
  | (.inl _) =>
   some (.inl ())
  | (.inr q) =>
   some (.inr q)
  : Option ((Unit) ⊕ ((Int)))) fun t => match t with
 | (.inl _) =>
  some (-1 : Int)
 | (.inr q) =>
  some q

def slices_ContainsFuncuint64_uint64 (k : Nat) (s_1 : (List UInt64)) (x_2 : UInt64) : Option ((Bool)) :=
 Option.bind (slices_IndexFuncuint64_uint64 k s_1 x_2) fun v_4 =>
 lt1 (decide (v_4 ≥ (0 : Int))) fun v_5 =>
 some v_5

def sha_primes.b1 (k : Nat) (l_2 : (List UInt64)) (n_3 : UInt64) : Option (((List UInt64) × UInt64) ⊕ (((List UInt64)))) :=
 lt1 (decide ((List.length l_2 : Int) < (64 : Int))) fun v_7 =>
 if v_7 = true then
  Option.bind (
   Option.bind (slices_ContainsFuncuint64_uint64 k l_2 n_3) fun v_8 =>
   lt1 ((!v_8)) fun v_9 =>
   if v_9 = true then
    Option.bind (apL 8 l_2 ([n_3] : (List UInt64))) fun x_10 =>
    some x_10
   else
    some l_2
  ) fun l_13 =>
   lt1 ((n_3 + (1 : UInt64))) fun v_17 =>
   some (.inl (l_13, v_17))
 else
  some (.inr l_2)

def sha_primes (k : Nat) : Option (((List UInt64))) :=
 Option.bind (
  loopO (fun s => sha_primes.b1 k s.1 s.2) k (([] : (List UInt64)), (2 : UInt64))
 ) fun l_18 =>
  some l_18

def math_bits_Mul64 (k : Nat) (x_1 : UInt64) (y_2 : UInt64) : Option ((UInt64 × UInt64)) :=
 lt1 ((x_1 &&& (4294967295 : UInt64))) fun v_3 =>
 lt1 (UN.shr x_1 (UN.toN (32 : UInt64))) fun v_4 =>
 lt1 ((y_2 &&& (4294967295 : UInt64))) fun v_5 =>
 lt1 (UN.shr y_2 (UN.toN (32 : UInt64))) fun v_6 =>
 lt1 ((v_3 * v_5)) fun v_7 =>
 lt1 ((v_4 * v_5)) fun v_8 =>
 lt1 (UN.shr v_7 (UN.toN (32 : UInt64))) fun v_9 =>
 lt1 ((v_8 + v_9)) fun v_10 =>
 lt1 ((v_10 &&& (4294967295 : UInt64))) fun v_11 =>
 lt1 (UN.shr v_10 (UN.toN (32 : UInt64))) fun v_12 =>
 lt1 ((v_3 * v_6)) fun v_13 =>
 lt1 ((v_11 + v_13)) fun v_14 =>
 lt1 ((v_4 * v_6)) fun v_15 =>
 lt1 ((v_15 + v_12)) fun v_16 =>
 lt1 (UN.shr v_14 (UN.toN (32 : UInt64))) fun v_17 =>
 lt1 ((v_16 + v_17)) fun v_18 =>
 lt1 ((x_1 * y_2)) fun v_19 =>
 some (v_18, v_19)

def sha_square (k : Nat) (x_1 : UInt64) : Option (((Vector UInt64 2))) :=
 Option.bind (math_bits_Mul64 k x_1 x_1) fun (v_3, v_4) =>
 some (#v[v_3, v_4] : (Vector UInt64 2))

def sha_cube (k : Nat) (x_1 : UInt64) : Option (((Vector UInt64 2) × Bool)) :=
 Option.bind (sha_square k x_1) fun v_3 =>
 Option.bind (inV 2 (1 : Int)) fun i_5 =>
 lt1 ((getV v_3 i_5)) fun v_6 =>
 Option.bind (math_bits_Mul64 k v_6 x_1) fun (v_7, v_8) =>
 Option.bind (inV 2 (0 : Int)) fun i_9 =>
 lt1 ((getV v_3 i_9)) fun v_10 =>
 Option.bind (math_bits_Mul64 k v_10 x_1) fun (v_11, v_12) =>
 Option.bind (add64 v_12 v_7 (0 : UInt64)) fun (s_13, o_14) =>
 lt1 ((v_11 + o_14)) fun v_15 =>
 lt1 (UN.shl v_15 (UN.toN (32 : UInt64))) fun v_16 =>
 lt1 (UN.shr s_13 (UN.toN (32 : UInt64))) fun v_17 =>
 lt1 ((v_16 ||| v_17)) fun v_18 =>
 lt1 (UN.shl s_13 (UN.toN (32 : UInt64))) fun v_19 =>
 lt1 (UN.shr v_8 (UN.toN (32 : UInt64))) fun v_20 =>
 lt1 ((v_19 ||| v_20)) fun v_21 =>
 lt1 (UN.shl v_8 (UN.toN (32 : UInt64))) fun v_22 =>
 lt1 ((!(v_22 == (0 : UInt64)))) fun v_23 =>
 some ((#v[v_18, v_21] : (Vector UInt64 2)), v_23)

def sha_above (k : Nat) (x_1 : (Vector UInt64 2)) (lost_2 : Bool) (p_3 : UInt64) : Option ((Bool)) :=
 Option.bind (
  Option.bind (inV 2 (0 : Int)) fun i_5 =>
  lt1 ((getV x_1 i_5)) fun v_6 =>
  lt1 (decide (p_3 < v_6)) fun v_7 =>
  if v_7 = true then
   some true
  else
   Option.bind (inV 2 (0 : Int)) fun i_8 =>
   lt1 ((getV x_1 i_8)) fun v_9 =>
   lt1 ((v_9 == p_3)) fun v_10 =>
   if v_10 = true then
    Option.bind (inV 2 (1 : Int)) fun i_11 =>
    lt1 ((getV x_1 i_11)) fun v_12 =>
    lt1 (decide ((0 : UInt64) < v_12)) fun v_13 =>
    lt1 (bif v_13 then true else lost_2) fun v_14 =>
    some v_14
   else
    some false
 ) fun x_15 =>
  some x_15

def sha_constant_1 (k : Nat) (x_1 : UInt64) (x_2 : UInt64) : Option ((Bool)) :=
 Option.bind (sha_cube k x_1) fun (v_4, v_5) =>
 Option.bind (sha_above k v_4 v_5 x_2) fun v_7 =>
 some v_7

def sha_root.b1 (k : Nat) (x_1 : UInt64) (x_3 : UInt64) (x_4 : Int) : Option ((UInt64 × Int) ⊕ ((UInt64))) :=
 lt1 (decide (x_4 < (38 : Int))) fun v_5 =>
 if v_5 = true then
  Option.bind (
   lt1 (w64 ((37 : Int) - x_4)) fun v_6 =>
   Option.bind (shlU (1 : UInt64) v_6) fun v_7 =>
   lt1 ((x_3 ||| v_7)) fun v_8 =>
   Option.bind (sha_constant_1 k v_8 x_1) fun v_9 =>
   lt1 ((!v_9)) fun v_10 =>
   if v_10 = true then
    some v_8
   else
    some x_3
  ) fun x_11 =>
   lt1 (w64 (x_4 + (1 : Int))) fun v_12 =>
   some (.inl (x_11, v_12))
 else
  some (.inr x_3)

def sha_root (k : Nat) (x_1 : UInt64) : Option ((UInt32)) :=
 Option.bind (
  loopO (fun s => sha_root.b1 k x_1 s.1 s.2) k ((0 : UInt64), (0 : Int))
 ) fun x_13 =>
  lt1 ((UN.to x_13 : UInt32)) fun v_14 =>
  some v_14

def sha_constant (k : Nat) (p_1 : UInt64) : Option ((UInt32)) :=
 Option.bind (sha_root k p_1) fun v_3 =>
 some v_3

def sha_start_1 (k : Nat) (x_1 : UInt64) (x_2 : UInt64) : Option ((Bool)) :=
 Option.bind (sha_square k x_1) fun v_4 =>
 Option.bind (sha_above k v_4 false x_2) fun v_5 =>
 some v_5

def sha_root'2.b1 (k : Nat) (x_1 : UInt64) (x_3 : UInt64) (x_4 : Int) : Option ((UInt64 × Int) ⊕ ((UInt64))) :=
 lt1 (decide (x_4 < (38 : Int))) fun v_5 =>
 if v_5 = true then
  Option.bind (
   lt1 (w64 ((37 : Int) - x_4)) fun v_6 =>
   Option.bind (shlU (1 : UInt64) v_6) fun v_7 =>
   lt1 ((x_3 ||| v_7)) fun v_8 =>
   Option.bind (sha_start_1 k v_8 x_1) fun v_9 =>
   lt1 ((!v_9)) fun v_10 =>
   if v_10 = true then
    some v_8
   else
    some x_3
  ) fun x_11 =>
   lt1 (w64 (x_4 + (1 : Int))) fun v_12 =>
   some (.inl (x_11, v_12))
 else
  some (.inr x_3)

def sha_root'2 (k : Nat) (x_1 : UInt64) : Option ((UInt32)) :=
 Option.bind (
  loopO (fun s => sha_root'2.b1 k x_1 s.1 s.2) k ((0 : UInt64), (0 : Int))
 ) fun x_13 =>
  lt1 ((UN.to x_13 : UInt32)) fun v_14 =>
  some v_14

def sha_start (k : Nat) (p_1 : UInt64) : Option ((UInt32)) :=
 Option.bind (sha_root'2 k p_1) fun v_3 =>
 some v_3

def sha_begun.b1 (k : Nat) (v_3 : (List UInt64)) (s_6 : sha_state) (x_7 : Int) : Option ((sha_state × Int) ⊕ ((sha_state))) :=
 lt1 (decide (x_7 < (List.length v_3 : Int))) fun v_8 =>
 if v_8 = true then
  Option.bind (
   Option.bind (inO v_3 x_7) fun i_9 =>
   Option.bind (v_3[i_9]?) fun v_10 =>
   Option.bind (sha_constant k v_10) fun v_11 =>
   Option.bind (inV 64 x_7) fun i_12 =>
   lt1 ({ s_6 with k := (putV s_6.k i_12 v_11) }) fun s_13 =>
   lt1 (decide (x_7 < (8 : Int))) fun v_14 =>
   if v_14 = true then
    Option.bind (sha_start k v_10) fun v_15 =>
    Option.bind (inV 8 x_7) fun i_16 =>
    lt1 ({ s_13 with h := (putV s_13.h i_16 v_15) }) fun s_17 =>
    some s_17
   else
    some s_13
  ) fun s_18 =>
   lt1 (w64 (x_7 + (1 : Int))) fun v_19 =>
   some (.inl (s_18, v_19))
 else
  some (.inr s_6)

def sha_begun (k : Nat) : Option ((sha_state)) :=
 Option.bind (
  Option.bind (sha_primes k) fun v_3 =>
  loopO (fun s => sha_begun.b1 k v_3 s.1 s.2) k ((sha_state.mk (Vector.replicate 8 (0 : UInt32)) (Vector.replicate 64 (0 : UInt32))), (0 : Int))
 ) fun s_20 =>
  some s_20

def slices_Growbyte_byte (k : Nat) (n_1 : Int) : Option ((Unit)) :=
 Option.bind (
  lt1 (decide (n_1 < (0 : Int))) fun v_2 =>
  if v_2 = true then
   none
  else
   some ()
 ) fun _ =>
  Option.bind (
   lt1 (w64 ((0 : Int) - (0 : Int))) fun v_3 =>
   lt1 (w64 (n_1 - v_3)) fun v_4 =>
   lt1 (decide (v_4 > (0 : Int))) fun v_5 =>
   if v_5 = true then
    Option.bind (apZ 1 ([] : (List UInt8)) v_4 (0 : UInt8)) fun v_6 =>
    some ()
   else
    some ()
  ) fun _ =>
   some ()

def slices_Concatbyte_byte.b1 (k : Nat) (slices_1 : (List (List UInt8))) (size_2 : Int) (x_3 : Int) : Option ((Int × Int) ⊕ ((Int))) :=
 lt1 (decide (x_3 < (List.length slices_1 : Int))) fun v_4 =>
 if v_4 = true then
  Option.bind (
   Option.bind (idxL slices_1 x_3) fun v_5 =>
   lt1 (w64 (size_2 + (List.length v_5 : Int))) fun v_6 =>
   lt1 (decide (v_6 < (0 : Int))) fun v_7 =>
   if v_7 = true then
    none
   else
    some v_6
  ) fun size_8 =>
   lt1 (w64 (x_3 + (1 : Int))) fun v_9 =>
   some (.inl (size_8, v_9))
 else
  some (.inr size_2)

def slices_Concatbyte_byte.b2 (k : Nat) (slices_1 : (List (List UInt8))) (newslice_14 : (List UInt8)) (x_15 : Int) : Option (((List UInt8) × Int) ⊕ (((List UInt8)))) :=
 lt1 (decide (x_15 < (List.length slices_1 : Int))) fun v_18 =>
 if v_18 = true then
  Option.bind (idxL slices_1 x_15) fun v_19 =>
  Option.bind (apL 1 newslice_14 v_19) fun newslice_20 =>
  lt1 (w64 (x_15 + (1 : Int))) fun v_23 =>
  some (.inl (newslice_20, v_23))
 else
  some (.inr newslice_14)

def slices_Concatbyte_byte (k : Nat) (slices_1 : (List (List UInt8))) : Option (((List UInt8))) :=
 Option.bind (
  loopO (fun s => slices_Concatbyte_byte.b1 k slices_1 s.1 s.2) k ((0 : Int), (0 : Int))
 ) fun size_10 =>
  Option.bind (slices_Growbyte_byte k size_10) fun _ =>
  Option.bind (
   loopO (fun s => slices_Concatbyte_byte.b2 k slices_1 s.1 s.2) k (([] : (List UInt8)), (0 : Int))
  ) fun newslice_24 =>
   some newslice_24

def math_bits_RotateLeft32 (k : Nat) (x_1 : UInt32) (k_2 : Int) : Option ((UInt32)) :=
 lt1 ((UN.ofI k_2 : UInt64)) fun v_3 =>
 lt1 ((v_3 &&& (31 : UInt64))) fun v_4 =>
 lt1 (UN.shl x_1 (UN.toN v_4)) fun v_5 =>
 lt1 (((32 : UInt64) - v_4)) fun v_6 =>
 lt1 (UN.shr x_1 (UN.toN v_6)) fun v_7 =>
 lt1 ((v_5 ||| v_7)) fun v_8 =>
 some v_8

def sha_state_press_1.b1 (k : Nat) (l_2 : (List Int)) (x_1 : UInt32) (y_3 : UInt32) (x_4 : Int) : Option ((UInt32 × Int) ⊕ ((UInt32))) :=
 lt1 (decide (x_4 < (List.length l_2 : Int))) fun v_5 =>
 if v_5 = true then
  Option.bind (idxL l_2 x_4) fun v_6 =>
  lt1 (w64 (0 - v_6)) fun v_7 =>
  Option.bind (math_bits_RotateLeft32 k x_1 v_7) fun v_8 =>
  lt1 ((y_3 ^^^ v_8)) fun v_9 =>
  lt1 (w64 (x_4 + (1 : Int))) fun v_10 =>
  some (.inl (v_9, v_10))
 else
  some (.inr y_3)

def sha_state_press_1 (k : Nat) (x_1 : UInt32) (l_2 : (List Int)) : Option ((UInt32)) :=
 Option.bind (
  loopO (fun s => sha_state_press_1.b1 k l_2 x_1 s.1 s.2) k ((0 : UInt32), (0 : Int))
 ) fun y_11 =>
  some y_11

def sha_state_press.b2 (k : Nat) (v_11 : (List UInt8)) (x_6 : Int) (x_12 : (Vector UInt32 64)) (x_13 : Int) : Option (((Vector UInt32 64) × Int) ⊕ (((Vector UInt32 64)))) :=
 lt1 (decide (x_13 < (List.length v_11 : Int))) fun v_14 =>
 if v_14 = true then
  Option.bind (idxL v_11 x_13) fun v_15 =>
  Option.bind (inV 64 x_6) fun i_16 =>
  lt1 ((getV x_12 i_16)) fun v_17 =>
  lt1 (UN.shl v_17 (UN.toN (8 : UInt64))) fun v_18 =>
  lt1 ((UN.to v_15 : UInt32)) fun v_19 =>
  lt1 ((v_18 ||| v_19)) fun v_20 =>
  Option.bind (inV 64 x_6) fun i_21 =>
  lt1 ((putV x_12 i_21 v_20)) fun x_22 =>
  lt1 (w64 (x_13 + (1 : Int))) fun v_23 =>
  some (.inl (x_22, v_23))
 else
  some (.inr x_12)

def sha_state_press.b1 (k : Nat) (a_1 : (List UInt8)) (x_5 : (Vector UInt32 64)) (x_6 : Int) : Option (((Vector UInt32 64) × Int) ⊕ (((Vector UInt32 64)))) :=
 lt1 (decide (x_6 < (16 : Int))) fun v_7 =>
 if v_7 = true then
  Option.bind (
   lt1 (w64 ((4 : Int) * x_6)) fun v_8 =>
   lt1 (w64 ((4 : Int) * x_6)) fun v_9 =>
   lt1 (w64 (v_9 + (4 : Int))) fun v_10 =>
   Option.bind (subL a_1 v_8 v_10) fun v_11 =>
   loopO (fun s => sha_state_press.b2 k v_11 x_6 s.1 s.2) k (x_5, (0 : Int))
  ) fun x_24 =>
   lt1 (w64 (x_6 + (1 : Int))) fun v_25 =>
   some (.inl (x_24, v_25))
 else
  some (.inr x_5)

def sha_state_press.b3 (k : Nat) (x_27 : (Vector UInt32 64)) (x_28 : Int) : Option (((Vector UInt32 64) × Int) ⊕ (((Vector UInt32 64)))) :=
 lt1 (decide (x_28 < (64 : Int))) fun v_29 =>
 if v_29 = true then
  lt1 (w64 (x_28 - (15 : Int))) fun v_30 =>
  Option.bind (inV 64 v_30) fun i_31 =>
  lt1 ((getV x_27 i_31)) fun v_32 =>
  lt1 (w64 (x_28 - (2 : Int))) fun v_33 =>
  Option.bind (inV 64 v_33) fun i_34 =>
  lt1 ((getV x_27 i_34)) fun v_35 =>
  lt1 (w64 (x_28 - (16 : Int))) fun v_36 =>
  Option.bind (inV 64 v_36) fun i_37 =>
  lt1 ((getV x_27 i_37)) fun v_38 =>
  Option.bind (sha_state_press_1 k v_32 ([(7 : Int), (18 : Int)] : (List Int))) fun v_39 =>
  lt1 (UN.shr v_32 (UN.toN (3 : UInt64))) fun v_40 =>
  lt1 ((v_39 ^^^ v_40)) fun v_41 =>
  lt1 ((v_38 + v_41)) fun v_42 =>
  lt1 (w64 (x_28 - (7 : Int))) fun v_43 =>
  Option.bind (inV 64 v_43) fun i_44 =>
  lt1 ((getV x_27 i_44)) fun v_45 =>
  lt1 ((v_42 + v_45)) fun v_46 =>
  Option.bind (sha_state_press_1 k v_35 ([(17 : Int), (19 : Int)] : (List Int))) fun v_47 =>
  lt1 (UN.shr v_35 (UN.toN (10 : UInt64))) fun v_48 =>
  lt1 ((v_47 ^^^ v_48)) fun v_49 =>
  lt1 ((v_46 + v_49)) fun v_50 =>
  Option.bind (inV 64 x_28) fun i_51 =>
  lt1 ((putV x_27 i_51 v_50)) fun x_52 =>
  lt1 (w64 (x_28 + (1 : Int))) fun v_53 =>
  some (.inl (x_52, v_53))
 else
  some (.inr x_27)

def sha_state_press.b4 (k : Nat) (t_2 : sha_state) (x_54 : (Vector UInt32 64)) (x_71 : UInt32) (x_72 : UInt32) (x_73 : UInt32) (x_74 : UInt32) (x_75 : UInt32) (x_76 : UInt32) (x_77 : UInt32) (x_78 : UInt32) (x_79 : Int) : Option ((UInt32 × UInt32 × UInt32 × UInt32 × UInt32 × UInt32 × UInt32 × UInt32 × Int) ⊕ ((UInt32 × UInt32 × UInt32 × UInt32 × UInt32 × UInt32 × UInt32 × UInt32))) :=
 lt1 (decide (x_79 < (64 : Int))) fun v_80 =>
 if v_80 = true then
  Option.bind (sha_state_press_1 k x_75 ([(6 : Int), (11 : Int), (25 : Int)] : (List Int))) fun v_81 =>
  lt1 ((x_78 + v_81)) fun v_82 =>
  lt1 ((x_75 &&& x_76)) fun v_83 =>
  lt1 ((UN.not x_75)) fun v_84 =>
  lt1 ((v_84 &&& x_77)) fun v_85 =>
  lt1 ((v_83 ^^^ v_85)) fun v_86 =>
  lt1 ((v_82 + v_86)) fun v_87 =>
  Option.bind (inV 64 x_79) fun i_88 =>
  lt1 ((getV t_2.k i_88)) fun v_89 =>
  lt1 ((v_87 + v_89)) fun v_90 =>
  Option.bind (inV 64 x_79) fun i_91 =>
  lt1 ((getV x_54 i_91)) fun v_92 =>
  lt1 ((v_90 + v_92)) fun v_93 =>
  Option.bind (sha_state_press_1 k x_71 ([(2 : Int), (13 : Int), (22 : Int)] : (List Int))) fun v_94 =>
  lt1 ((x_71 &&& x_72)) fun v_95 =>
  lt1 ((x_71 &&& x_73)) fun v_96 =>
  lt1 ((v_95 ^^^ v_96)) fun v_97 =>
  lt1 ((x_72 &&& x_73)) fun v_98 =>
  lt1 ((v_97 ^^^ v_98)) fun v_99 =>
  lt1 ((v_94 + v_99)) fun v_100 =>
  lt1 ((v_93 + v_100)) fun v_101 =>
  lt1 ((x_74 + v_93)) fun v_102 =>
  lt1 (w64 (x_79 + (1 : Int))) fun v_103 =>
  some (.inl (v_101, x_71, x_72, x_73, v_102, x_75, x_76, x_77, v_103))
 else
  some (.inr (x_71, x_72, x_73, x_74, x_75, x_76, x_77, x_78))

def sha_state_press.b5 (k : Nat) (x_104 : UInt32) (x_105 : UInt32) (x_106 : UInt32) (x_107 : UInt32) (x_108 : UInt32) (x_109 : UInt32) (x_110 : UInt32) (x_111 : UInt32) (t_112 : sha_state) (x_113 : Int) : Option ((sha_state × Int) ⊕ ((sha_state))) :=
 lt1 (decide (x_113 < (8 : Int))) fun v_114 =>
 if v_114 = true then
  Option.bind (idxV (#v[x_104, x_105, x_106, x_107, x_108, x_109, x_110, x_111] : (Vector UInt32 8)) x_113) fun v_115 =>
  Option.bind (inV 8 x_113) fun i_116 =>
  lt1 ((getV t_112.h i_116)) fun v_117 =>
  lt1 ((v_117 + v_115)) fun v_118 =>
  Option.bind (inV 8 x_113) fun i_119 =>
  lt1 ({ t_112 with h := (putV t_112.h i_119 v_118) }) fun t_120 =>
  lt1 (w64 (x_113 + (1 : Int))) fun v_121 =>
  some (.inl (t_120, v_121))
 else
  some (.inr t_112)

def sha_state_press (k : Nat) (a_1 : (List UInt8)) (t_2 : sha_state) : Option ((sha_state)) :=
 Option.bind (
  loopO (fun s => sha_state_press.b1 k a_1 s.1 s.2) k ((Vector.replicate 64 (0 : UInt32)), (0 : Int))
 ) fun x_26 =>
  Option.bind (
   loopO (fun s => sha_state_press.b3 k s.1 s.2) k (x_26, (16 : Int))
  ) fun x_54 =>
   Option.bind (inV 8 (0 : Int)) fun i_55 =>
   lt1 ((getV t_2.h i_55)) fun v_56 =>
   Option.bind (inV 8 (1 : Int)) fun i_57 =>
   lt1 ((getV t_2.h i_57)) fun v_58 =>
   Option.bind (inV 8 (2 : Int)) fun i_59 =>
   lt1 ((getV t_2.h i_59)) fun v_60 =>
   Option.bind (inV 8 (3 : Int)) fun i_61 =>
   lt1 ((getV t_2.h i_61)) fun v_62 =>
   Option.bind (inV 8 (4 : Int)) fun i_63 =>
   lt1 ((getV t_2.h i_63)) fun v_64 =>
   Option.bind (inV 8 (5 : Int)) fun i_65 =>
   lt1 ((getV t_2.h i_65)) fun v_66 =>
   Option.bind (inV 8 (6 : Int)) fun i_67 =>
   lt1 ((getV t_2.h i_67)) fun v_68 =>
   Option.bind (inV 8 (7 : Int)) fun i_69 =>
   lt1 ((getV t_2.h i_69)) fun v_70 =>
   Option.bind (
    loopO (fun s => sha_state_press.b4 k t_2 x_54 s.1 s.2.1 s.2.2.1 s.2.2.2.1 s.2.2.2.2.1 s.2.2.2.2.2.1 s.2.2.2.2.2.2.1 s.2.2.2.2.2.2.2.1 s.2.2.2.2.2.2.2.2) k (v_56, v_58, v_60, v_62, v_64, v_66, v_68, v_70, (0 : Int))
   ) fun (x_104, x_105, x_106, x_107, x_108, x_109, x_110, x_111) =>
    loopO (fun s => sha_state_press.b5 k x_104 x_105 x_106 x_107 x_108 x_109 x_110 x_111 s.1 s.2) k (t_2, (0 : Int))

def sha_state_hash.b1 (k : Nat) (v_9 : UInt64) (b_19 : (List UInt8)) (x_20 : Int) : Option (((List UInt8) × Int) ⊕ (((List UInt8)))) :=
 lt1 (decide (x_20 < (8 : Int))) fun v_23 =>
 if v_23 = true then
  lt1 (w64 ((8 : Int) * x_20)) fun v_24 =>
  lt1 (w64 ((56 : Int) - v_24)) fun v_25 =>
  Option.bind (shrU v_9 v_25) fun v_26 =>
  lt1 ((UN.to v_26 : UInt8)) fun v_27 =>
  Option.bind (apL 1 b_19 ([v_27] : (List UInt8))) fun b_28 =>
  lt1 (w64 (x_20 + (1 : Int))) fun v_31 =>
  some (.inl (b_28, v_31))
 else
  some (.inr b_19)

def sha_state_hash.b2 (k : Nat) (s_35 : sha_state) (b_36 : (List UInt8)) : Option ((sha_state × (List UInt8)) ⊕ ((sha_state))) :=
 lt1 (decide ((List.length b_36 : Int) > (0 : Int))) fun v_37 =>
 if v_37 = true then
  Option.bind (subL b_36 (0) (64 : Int)) fun v_38 =>
  Option.bind (sha_state_press k v_38 s_35) fun x_39 =>
  Option.bind (subL b_36 (64 : Int) (List.length b_36 : Int)) fun v_40 =>
  some (.inl (x_39, v_40))
 else
  some (.inr s_35)

def sha_state_hash.b3 (k : Nat) (s_41 : sha_state) (out_42 : (Vector UInt8 32)) (x_43 : Int) : Option (((Vector UInt8 32) × Int) ⊕ (((Vector UInt8 32)))) :=
 lt1 (decide (x_43 < (32 : Int))) fun v_44 =>
 if v_44 = true then
  Option.bind (divI x_43 (4 : Int)) fun v_45 =>
  Option.bind (inV 8 v_45) fun i_46 =>
  lt1 ((getV s_41.h i_46)) fun v_47 =>
  Option.bind (modI x_43 (4 : Int)) fun v_48 =>
  lt1 (w64 ((8 : Int) * v_48)) fun v_49 =>
  lt1 (w64 ((24 : Int) - v_49)) fun v_50 =>
  Option.bind (shrU v_47 v_50) fun v_51 =>
  lt1 ((UN.to v_51 : UInt8)) fun v_52 =>
  Option.bind (inV 32 x_43) fun i_53 =>
  lt1 ((putV out_42 i_53 v_52)) fun out_54 =>
  lt1 (w64 (x_43 + (1 : Int))) fun v_55 =>
  some (.inl (out_54, v_55))
 else
  some (.inr out_42)

def sha_state_hash (k : Nat) (s_1 : sha_state) (l_2 : (List (List UInt8))) : Option (((Vector UInt8 32))) :=
 Option.bind (slices_Concatbyte_byte k l_2) fun v_5 =>
 lt1 ((UN.ofI (List.length v_5 : Int) : UInt64)) fun v_8 =>
 lt1 ((v_8 * (8 : UInt64))) fun v_9 =>
 Option.bind (apL 1 v_5 ([(128 : UInt8)] : (List UInt8))) fun b_10 =>
 Option.bind (modI (List.length b_10 : Int) (64 : Int)) fun v_13 =>
 lt1 (w64 ((120 : Int) - v_13)) fun v_14 =>
 Option.bind (modI v_14 (64 : Int)) fun v_15 =>
 Option.bind (apZ 1 b_10 v_15 (0 : UInt8)) fun b_16 =>
 Option.bind (
  loopO (fun s => sha_state_hash.b1 k v_9 s.1 s.2) k (b_16, (0 : Int))
 ) fun b_32 =>
  Option.bind (
   loopO (fun s => sha_state_hash.b2 k s.1 s.2) k (s_1, b_32)
  ) fun s_41 =>
   Option.bind (
    loopO (fun s => sha_state_hash.b3 k s_41 s.1 s.2) k ((Vector.replicate 32 (0 : UInt8)), (0 : Int))
   ) fun out_56 =>
    some out_56

def sha_Sum (k : Nat) (l_1 : (List (List UInt8))) : Option (((Vector UInt8 32))) :=
 Option.bind (sha_begun k) fun v_3 =>
 Option.bind (sha_state_hash k v_3 l_1) fun v_4 =>
 some v_4

def merkle_Leaf (k : Nat) (bucket_1 : Int) (b_2 : (List UInt8)) : Option (((Vector UInt8 32) × Int)) :=
 Option.bind (
  lt1 (decide (bucket_1 < (0 : Int))) fun v_4 =>
  lt1 (decide (bucket_1 ≥ (64 : Int))) fun v_5 =>
  lt1 (bif v_4 then true else v_5) fun v_6 =>
  some v_6
 ) fun x_7 =>
  if x_7 = true then
   some ((Vector.replicate 32 (0 : UInt8)), (2 : Int))
  else
   lt1 ((UN.ofI bucket_1 : UInt8)) fun v_8 =>
   Option.bind (sha_Sum k ([([(0 : UInt8), v_8] : (List UInt8)), b_2] : (List (List UInt8)))) fun v_9 =>
   some (v_9, (0 : Int))

def merkle_Tree_inner (k : Nat) (n_1 : Int) (t_2 : merkle_Tree) : Option ((merkle_Tree)) :=
 lt1 (w64 ((2 : Int) * n_1)) fun v_4 =>
 Option.bind (inV 128 v_4) fun i_5 =>
 Option.bind (subL (Vector.toList (getV t_2.n i_5)) (0 : Int) (32 : Int)) fun v_6 =>
 lt1 (w64 ((2 : Int) * n_1)) fun v_7 =>
 lt1 (w64 (v_7 + (1 : Int))) fun v_8 =>
 Option.bind (inV 128 v_8) fun i_9 =>
 Option.bind (subL (Vector.toList (getV t_2.n i_9)) (0 : Int) (32 : Int)) fun v_10 =>
 Option.bind (sha_Sum k ([([(1 : UInt8)] : (List UInt8)), v_6, v_10] : (List (List UInt8)))) fun v_11 =>
 Option.bind (inV 128 n_1) fun i_12 =>
 lt1 ({ t_2 with n := (putV t_2.n i_12 v_11) }) fun t_13 =>
 some t_13

def merkle_Of.b1 (k : Nat) (t_5 : merkle_Tree) (n_6 : Int) : Option ((merkle_Tree × Int) ⊕ ((merkle_Tree))) :=
 lt1 (decide (n_6 > (0 : Int))) fun v_7 =>
 if v_7 = true then
  Option.bind (merkle_Tree_inner k n_6 t_5) fun x_8 =>
  lt1 (w64 (n_6 - (1 : Int))) fun v_9 =>
  some (.inl (x_8, v_9))
 else
  some (.inr t_5)

def merkle_Of (k : Nat) (leaves_1 : (List (Vector UInt8 32))) : Option ((merkle_Tree) ⊕ (Unit)) :=
 lt1 (((List.length leaves_1 : Int) != (64 : Int))) fun v_2 =>
 if v_2 = true then
  some (.inr ())
 else
  lt1 (cpV ((merkle_Tree.mk (Vector.replicate 128 (Vector.replicate 32 (0 : UInt8))) false).n) 64 (128 - 64) leaves_1) fun t_4 =>
  Option.bind (
   loopO (fun s => merkle_Of.b1 k s.1 s.2) k ((merkle_Tree.mk t_4 true), (63 : Int))
  ) fun t_10 =>
   some (.inl t_10)

def merkle_New.b1 (k : Nat) (l_1 : (List (Vector UInt8 32))) (x_2 : Int) : Option (((List (Vector UInt8 32)) × Int) ⊕ (((List (Vector UInt8 32))))) :=
 lt1 (decide (x_2 < (64 : Int))) fun v_5 =>
 if v_5 = true then
  Option.bind (merkle_Leaf k x_2 ([] : (List UInt8))) fun (v_6, v_7) =>
  Option.bind (apL 32 l_1 ([v_6] : (List (Vector UInt8 32)))) fun l_9 =>
  lt1 (w64 (x_2 + (1 : Int))) fun v_12 =>
  some (.inl (l_9, v_12))
 else
  some (.inr l_1)

def merkle_New (k : Nat) : Option ((merkle_Tree) ⊕ (Unit)) :=
 Option.bind (
  loopO (fun s => merkle_New.b1 k s.1 s.2) k (([] : (List (Vector UInt8 32))), (0 : Int))
 ) fun l_13 =>
  Option.bind (merkle_Of k l_13) fun t => match t with
  | (.inl v_16) =>
   some (.inl v_16)
  | (.inr _) =>
   some (.inr ())

def merkle_Tree_there (k : Nat) (t_1 : merkle_Tree) : Option ((Unit)) :=
 Option.bind (
  some ()
 ) fun _ =>
  some ()

def merkle_Tree_Leaves (k : Nat) (t_1 : merkle_Tree) : Option (((List (Vector UInt8 32)))) :=
 Option.bind (merkle_Tree_there k t_1) fun _ =>
 lt1 ((!t_1.is)) fun v_4 =>
 if v_4 = true then
  some ([] : (List (Vector UInt8 32)))
 else
  Option.bind (mkL 32 (64 : Int) (Vector.replicate 32 (0 : UInt8))) fun v_5 =>
  Option.bind (subL (Vector.toList t_1.n) (64 : Int) (128 : Int)) fun v_7 =>
  lt1 (cpL v_5 v_7) fun l_8 =>
  some l_8

def sha_Equal.b1 (k : Nat) (a_1 : (Vector UInt8 32)) (b_2 : (Vector UInt8 32)) (x_5 : UInt8) (x_6 : Int) : Option ((UInt8 × Int) ⊕ ((UInt8))) :=
 lt1 (decide (x_6 < (32 : Int))) fun v_7 =>
 if v_7 = true then
  Option.bind (inV 32 x_6) fun i_8 =>
  lt1 ((getV a_1 i_8)) fun v_9 =>
  Option.bind (inV 32 x_6) fun i_10 =>
  lt1 ((getV b_2 i_10)) fun v_11 =>
  lt1 ((v_9 ^^^ v_11)) fun v_12 =>
  lt1 ((x_5 ||| v_12)) fun v_13 =>
  lt1 (w64 (x_6 + (1 : Int))) fun v_14 =>
  some (.inl (v_13, v_14))
 else
  some (.inr x_5)

def sha_Equal (k : Nat) (a_1 : (Vector UInt8 32)) (b_2 : (Vector UInt8 32)) : Option ((Bool)) :=
 Option.bind (
  loopO (fun s => sha_Equal.b1 k a_1 b_2 s.1 s.2) k ((0 : UInt8), (0 : Int))
 ) fun x_15 =>
  lt1 ((x_15 == (0 : UInt8))) fun v_16 =>
  some v_16

def merkle_Tree_Diff_1_vppppp_vpvrocrrrrr.bd (Y : Nat → Int → Int → merkle_Tree → (List Int) → Option ((Int × (List Int)))) (k : Nat) (n_1 : Int) (x_2 : Int) (x_5 : merkle_Tree) (x_9 : (List Int)) : Option ((Int × (List Int))) :=
 lt1 (w64 (x_2 + (1 : Int))) fun v_13 =>
 Option.bind (inV 128 n_1) fun i_14 =>
 lt1 ((getV x_5.n i_14)) fun v_15 =>
 Option.bind (inV 128 n_1) fun i_16 =>
 lt1 ((getV x_5.n i_16)) fun v_17 =>
 Option.bind (sha_Equal k v_15 v_17) fun v_18 =>
 if v_18 = true then
  some (v_13, x_9)
 else
  lt1 (decide (n_1 ≥ (64 : Int))) fun v_19 =>
  if v_19 = true then
   lt1 (w64 (n_1 - (64 : Int))) fun v_20 =>
   Option.bind (apL 8 x_9 ([v_20] : (List Int))) fun x_21 =>
   some (v_13, x_21)
  else
   lt1 (w64 ((2 : Int) * n_1)) fun v_24 =>
   Option.bind (Y k v_24 v_13 x_5 x_9) fun (x_25, x_26) =>
   lt1 (w64 ((2 : Int) * n_1)) fun v_29 =>
   lt1 (w64 (v_29 + (1 : Int))) fun v_30 =>
   Option.bind (Y k v_30 x_25 x_5 x_26) fun (x_31, x_32) =>
   some (x_31, x_32)

def merkle_Tree_Diff_1_vppppp_vpvrocrrrrr : Nat → Nat → Int → Int → merkle_Tree → (List Int) → Option ((Int × (List Int)))
  | 0 => fun _ _ _ _ _ => none
  | d+1 => merkle_Tree_Diff_1_vppppp_vpvrocrrrrr.bd (merkle_Tree_Diff_1_vppppp_vpvrocrrrrr d)

def merkle_Tree_Diff_1_vppppp_vpvrncrrrrr.bd (Y : Nat → Int → Int → merkle_Tree → Option ((Int × (List Int)))) (k : Nat) (n_1 : Int) (x_2 : Int) (x_5 : merkle_Tree) : Option ((Int × (List Int))) :=
 lt1 (w64 (x_2 + (1 : Int))) fun v_10 =>
 Option.bind (inV 128 n_1) fun i_11 =>
 lt1 ((getV x_5.n i_11)) fun v_12 =>
 Option.bind (inV 128 n_1) fun i_13 =>
 lt1 ((getV x_5.n i_13)) fun v_14 =>
 Option.bind (sha_Equal k v_12 v_14) fun v_15 =>
 if v_15 = true then
  some (v_10, ([] : (List Int)))
 else
  lt1 (decide (n_1 ≥ (64 : Int))) fun v_16 =>
  if v_16 = true then
   lt1 (w64 (n_1 - (64 : Int))) fun v_17 =>
   Option.bind (apL 8 ([] : (List Int)) ([v_17] : (List Int))) fun v_18 =>
   some (v_10, v_18)
  else
   lt1 (w64 ((2 : Int) * n_1)) fun v_21 =>
   Option.bind (Y k v_21 v_10 x_5) fun (x_22, x_23) =>
   lt1 (w64 ((2 : Int) * n_1)) fun v_26 =>
   lt1 (w64 (v_26 + (1 : Int))) fun v_27 =>
   Option.bind (merkle_Tree_Diff_1_vppppp_vpvrocrrrrr k k v_27 x_22 x_5 x_23) fun (x_28, x_29) =>
   some (x_28, x_29)

def merkle_Tree_Diff_1_vppppp_vpvrncrrrrr : Nat → Nat → Int → Int → merkle_Tree → Option ((Int × (List Int)))
  | 0 => fun _ _ _ _ => none
  | d+1 => merkle_Tree_Diff_1_vppppp_vpvrncrrrrr.bd (merkle_Tree_Diff_1_vppppp_vpvrncrrrrr d)

def merkle_Tree_Diff_pr (k : Nat) (t_1 : merkle_Tree) : Option (((List Int) × Int × Int)) :=
 Option.bind (
  Option.bind (merkle_Tree_there k t_1) fun _ =>
  lt1 ((!t_1.is)) fun v_6 =>
  if v_6 = true then
   some true
  else
   Option.bind (merkle_Tree_there k t_1) fun _ =>
   lt1 ((!t_1.is)) fun v_8 =>
   some v_8
 ) fun x_9 =>
  if x_9 = true then
   some (([] : (List Int)), (0 : Int), (1 : Int))
  else
   Option.bind (merkle_Tree_Diff_1_vppppp_vpvrncrrrrr k k (1 : Int) (0 : Int) t_1) fun (x_13, x_14) =>
   some (x_14, x_13, (0 : Int))

def merkle_Tree_Set.b1 (k : Nat) (t_18 : merkle_Tree) (n_19 : Int) : Option ((merkle_Tree × Int) ⊕ ((merkle_Tree))) :=
 lt1 (decide (n_19 > (0 : Int))) fun v_20 =>
 if v_20 = true then
  Option.bind (merkle_Tree_inner k n_19 t_18) fun x_21 =>
  Option.bind (divI n_19 (2 : Int)) fun v_22 =>
  some (.inl (x_21, v_22))
 else
  some (.inr t_18)

def merkle_Tree_Set (k : Nat) (bucket_1 : Int) (b_2 : (List UInt8)) (t_3 : merkle_Tree) : Option ((Int × merkle_Tree)) :=
 Option.bind (merkle_Tree_there k t_3) fun _ =>
 lt1 ((!t_3.is)) fun v_6 =>
 if v_6 = true then
  some ((1 : Int), t_3)
 else
  Option.bind (merkle_Leaf k bucket_1 b_2) fun (v_7, v_8) =>
  lt1 ((v_8 != (0 : Int))) fun v_10 =>
  if v_10 = true then
   some (v_8, t_3)
  else
   lt1 (w64 ((64 : Int) + bucket_1)) fun v_11 =>
   Option.bind (inV 128 v_11) fun i_12 =>
   lt1 ((getV t_3.n i_12)) fun v_13 =>
   lt1 (((eqV (fun x y => x == y)) v_13 v_7)) fun v_14 =>
   if v_14 = true then
    some ((0 : Int), t_3)
   else
    Option.bind (inV 128 v_11) fun i_15 =>
    lt1 ({ t_3 with n := (putV t_3.n i_15 v_7) }) fun t_16 =>
    Option.bind (
     Option.bind (divI v_11 (2 : Int)) fun v_17 =>
     loopO (fun s => merkle_Tree_Set.b1 k s.1 s.2) k (t_16, v_17)
    ) fun x_23 =>
     some ((0 : Int), x_23)

def merkle_Tree_Diff_1_vppppp_vpvpvocrrrrr.bd (Y : Nat → Int → Int → merkle_Tree → merkle_Tree → (List Int) → Option ((Int × (List Int)))) (k : Nat) (n_1 : Int) (x_2 : Int) (x_5 : merkle_Tree) (x_8 : merkle_Tree) (x_11 : (List Int)) : Option ((Int × (List Int))) :=
 lt1 (w64 (x_2 + (1 : Int))) fun v_15 =>
 Option.bind (inV 128 n_1) fun i_16 =>
 lt1 ((getV x_5.n i_16)) fun v_17 =>
 Option.bind (inV 128 n_1) fun i_18 =>
 lt1 ((getV x_8.n i_18)) fun v_19 =>
 Option.bind (sha_Equal k v_17 v_19) fun v_20 =>
 if v_20 = true then
  some (v_15, x_11)
 else
  lt1 (decide (n_1 ≥ (64 : Int))) fun v_21 =>
  if v_21 = true then
   lt1 (w64 (n_1 - (64 : Int))) fun v_22 =>
   Option.bind (apL 8 x_11 ([v_22] : (List Int))) fun x_23 =>
   some (v_15, x_23)
  else
   lt1 (w64 ((2 : Int) * n_1)) fun v_26 =>
   Option.bind (Y k v_26 v_15 x_5 x_8 x_11) fun (x_27, x_28) =>
   lt1 (w64 ((2 : Int) * n_1)) fun v_31 =>
   lt1 (w64 (v_31 + (1 : Int))) fun v_32 =>
   Option.bind (Y k v_32 x_27 x_5 x_8 x_28) fun (x_33, x_34) =>
   some (x_33, x_34)

def merkle_Tree_Diff_1_vppppp_vpvpvocrrrrr : Nat → Nat → Int → Int → merkle_Tree → merkle_Tree → (List Int) → Option ((Int × (List Int)))
  | 0 => fun _ _ _ _ _ _ => none
  | d+1 => merkle_Tree_Diff_1_vppppp_vpvpvocrrrrr.bd (merkle_Tree_Diff_1_vppppp_vpvpvocrrrrr d)

def merkle_Tree_Diff_1_vppppp_vpvpvncrrrrr.bd (Y : Nat → Int → Int → merkle_Tree → merkle_Tree → Option ((Int × (List Int)))) (k : Nat) (n_1 : Int) (x_2 : Int) (x_5 : merkle_Tree) (x_8 : merkle_Tree) : Option ((Int × (List Int))) :=
 lt1 (w64 (x_2 + (1 : Int))) fun v_12 =>
 Option.bind (inV 128 n_1) fun i_13 =>
 lt1 ((getV x_5.n i_13)) fun v_14 =>
 Option.bind (inV 128 n_1) fun i_15 =>
 lt1 ((getV x_8.n i_15)) fun v_16 =>
 Option.bind (sha_Equal k v_14 v_16) fun v_17 =>
 if v_17 = true then
  some (v_12, ([] : (List Int)))
 else
  lt1 (decide (n_1 ≥ (64 : Int))) fun v_18 =>
  if v_18 = true then
   lt1 (w64 (n_1 - (64 : Int))) fun v_19 =>
   Option.bind (apL 8 ([] : (List Int)) ([v_19] : (List Int))) fun v_20 =>
   some (v_12, v_20)
  else
   lt1 (w64 ((2 : Int) * n_1)) fun v_23 =>
   Option.bind (Y k v_23 v_12 x_5 x_8) fun (x_24, x_25) =>
   lt1 (w64 ((2 : Int) * n_1)) fun v_28 =>
   lt1 (w64 (v_28 + (1 : Int))) fun v_29 =>
   Option.bind (merkle_Tree_Diff_1_vppppp_vpvpvocrrrrr k k v_29 x_24 x_5 x_8 x_25) fun (x_30, x_31) =>
   some (x_30, x_31)

def merkle_Tree_Diff_1_vppppp_vpvpvncrrrrr : Nat → Nat → Int → Int → merkle_Tree → merkle_Tree → Option ((Int × (List Int)))
  | 0 => fun _ _ _ _ _ => none
  | d+1 => merkle_Tree_Diff_1_vppppp_vpvpvncrrrrr.bd (merkle_Tree_Diff_1_vppppp_vpvpvncrrrrr d)

def merkle_Tree_Diff (k : Nat) (t_1 : merkle_Tree) (o_3 : merkle_Tree) : Option (((List Int) × Int × Int)) :=
 Option.bind (
  Option.bind (merkle_Tree_there k t_1) fun _ =>
  lt1 ((!t_1.is)) fun v_8 =>
  if v_8 = true then
   some true
  else
   Option.bind (merkle_Tree_there k o_3) fun _ =>
   lt1 ((!o_3.is)) fun v_10 =>
   some v_10
 ) fun x_11 =>
  if x_11 = true then
   some (([] : (List Int)), (0 : Int), (1 : Int))
  else
   Option.bind (merkle_Tree_Diff_1_vppppp_vpvpvncrrrrr k k (1 : Int) (0 : Int) t_1 o_3) fun (x_15, x_16) =>
   some (x_16, x_15, (0 : Int))

def merkle_Tree_Node (k : Nat) (n_1 : Int) (t_2 : merkle_Tree) : Option (((Vector UInt8 32) × Int)) :=
 Option.bind (merkle_Tree_there k t_2) fun _ =>
 lt1 ((!t_2.is)) fun v_6 =>
 if v_6 = true then
  some ((Vector.replicate 32 (0 : UInt8)), (1 : Int))
 else
  Option.bind (
   lt1 (decide (n_1 < (1 : Int))) fun v_7 =>
   lt1 (decide (n_1 ≥ (128 : Int))) fun v_8 =>
   lt1 (bif v_7 then true else v_8) fun v_9 =>
   some v_9
  ) fun x_10 =>
   if x_10 = true then
    some ((Vector.replicate 32 (0 : UInt8)), (2 : Int))
   else
    Option.bind (inV 128 n_1) fun i_11 =>
    lt1 ((getV t_2.n i_11)) fun v_12 =>
    some (v_12, (0 : Int))

def law08_num (k : Nat) (e_1 : Int) : Option ((Unit)) :=
 some ()

def law08_ints.b1 (k : Nat) (a_1 : (List Int)) (b_2 : (List Int)) (i_4 : Int) : Option ((Int) ⊕ ((Unit) ⊕ ((Bool)))) :=
 lt1 (decide (i_4 < (List.length a_1 : Int))) fun v_5 =>
 if v_5 = true then
  Option.bind (idxL a_1 i_4) fun v_6 =>
  Option.bind (idxL b_2 i_4) fun v_7 =>
  lt1 ((v_6 != v_7)) fun v_8 =>
  if v_8 = true then
   some (.inr (.inr false))
  else
   lt1 (w64 (i_4 + (1 : Int))) fun v_9 =>
   some (.inl v_9)
 else
  some (.inr (.inl ()))

def law08_ints (k : Nat) (a_1 : (List Int)) (b_2 : (List Int)) : Option ((Bool)) :=
 lt1 (((List.length a_1 : Int) != (List.length b_2 : Int))) fun v_3 =>
 if v_3 = true then
  some false
 else
  Option.bind (
   Option.bind (loopO (fun s => law08_ints.b1 k a_1 b_2 s) k (0 : Int)) fun t => match t with
   | (.inl _) =>
    some (.inl ())
   | (.inr q) =>
    some (.inr q)
   : Option ((Unit) ⊕ ((Bool)))) fun t => match t with
  | (.inl _) =>
   some true
  | (.inr q) =>
   some q

def slices_Equalapi_Hash_api_Hash.b1 (k : Nat) (s1_1 : (List (Vector UInt8 32))) (s2_2 : (List (Vector UInt8 32))) (x_4 : Int) : Option ((Int) ⊕ ((Unit) ⊕ ((Bool)))) :=
 lt1 (decide (x_4 < (List.length s1_1 : Int))) fun v_5 =>
 if v_5 = true then
  Option.bind (idxL s1_1 x_4) fun v_6 =>
  Option.bind (idxL s2_2 x_4) fun v_7 =>
  lt1 ((!((eqV (fun x y => x == y)) v_6 v_7))) fun v_8 =>
  if v_8 = true then
   some (.inr (.inr false))
  else
   lt1 (w64 (x_4 + (1 : Int))) fun v_9 =>
   some (.inl v_9)
 else
  some (.inr (.inl ()))

def slices_Equalapi_Hash_api_Hash (k : Nat) (s1_1 : (List (Vector UInt8 32))) (s2_2 : (List (Vector UInt8 32))) : Option ((Bool)) :=
 lt1 (((List.length s1_1 : Int) != (List.length s2_2 : Int))) fun v_3 =>
 if v_3 = true then
  some false
 else
  Option.bind (
   Option.bind (loopO (fun s => slices_Equalapi_Hash_api_Hash.b1 k s1_1 s2_2 s) k (0 : Int)) fun t => match t with
   | (.inl _) =>
    some (.inl ())
   | (.inr q) =>
    some (.inr q)
   : Option ((Unit) ⊕ ((Bool)))) fun t => match t with
  | (.inl _) =>
   some true
  | (.inr q) =>
   some q

def merkle_Tree_Same (k : Nat) (t_1 : merkle_Tree) (o_3 : merkle_Tree) : Option ((Bool)) :=
 Option.bind (
  Option.bind (merkle_Tree_there k t_1) fun _ =>
  lt1 ((!t_1.is)) fun v_6 =>
  if v_6 = true then
   some true
  else
   Option.bind (merkle_Tree_there k o_3) fun _ =>
   lt1 ((!o_3.is)) fun v_8 =>
   some v_8
 ) fun x_9 =>
  if x_9 = true then
   Option.bind (merkle_Tree_there k t_1) fun _ =>
   Option.bind (merkle_Tree_there k o_3) fun _ =>
   lt1 ((t_1.is == o_3.is)) fun v_12 =>
   some v_12
  else
   Option.bind (merkle_Tree_Leaves k t_1) fun v_13 =>
   Option.bind (merkle_Tree_Leaves k o_3) fun v_16 =>
   Option.bind (slices_Equalapi_Hash_api_Hash k v_13 v_16) fun v_19 =>
   some v_19

def merkle_Tree_there_n (k : Nat) : Option ((Unit)) :=
 Option.bind (
  some ()
 ) fun _ =>
  some ()

def merkle_Tree_Same_np (k : Nat) (o_1 : merkle_Tree) : Option ((Bool)) :=
 Option.bind (
  Option.bind (merkle_Tree_there_n k) fun _ =>
  some ()
 ) fun _ =>
  Option.bind (merkle_Tree_there_n k) fun _ =>
  Option.bind (merkle_Tree_there k o_1) fun _ =>
  lt1 ((false == o_1.is)) fun v_6 =>
  some v_6

def merkle_Tree_Set_nvv (k : Nat) (bucket_1 : Int) (b_2 : (List UInt8)) : Option ((Unit)) :=
 Option.bind (merkle_Tree_there_n k) fun _ =>
 some ()

def merkle_Tree_Diff_np (k : Nat) (o_1 : merkle_Tree) : Option ((Unit)) :=
 Option.bind (
  Option.bind (merkle_Tree_there_n k) fun _ =>
  some ()
 ) fun _ =>
  some ()

def merkle_Tree_Node_nv (k : Nat) (n_1 : Int) : Option ((Unit)) :=
 Option.bind (merkle_Tree_there_n k) fun _ =>
 some ()

def merkle_Tree_Leaves_n (k : Nat) : Option ((Unit)) :=
 Option.bind (merkle_Tree_there_n k) fun _ =>
 some ()

def merkle_Tree_Same_pn (k : Nat) (t_1 : merkle_Tree) : Option ((Bool)) :=
 Option.bind (
  Option.bind (merkle_Tree_there k t_1) fun _ =>
  lt1 ((!t_1.is)) fun v_4 =>
  Option.bind (if (!v_4) = true then merkle_Tree_there_n k else some default) fun _ =>
  lt1 (bif v_4 then true else true) fun v_6 =>
  some v_6
 ) fun x_7 =>
  if x_7 = true then
   Option.bind (merkle_Tree_there k t_1) fun _ =>
   Option.bind (merkle_Tree_there_n k) fun _ =>
   lt1 ((t_1.is == false)) fun v_10 =>
   some v_10
  else
   Option.bind (merkle_Tree_Leaves k t_1) fun v_11 =>
   Option.bind (merkle_Tree_Leaves_n k) fun _ =>
   Option.bind (slices_Equalapi_Hash_api_Hash k v_11 ([] : (List (Vector UInt8 32)))) fun v_15 =>
   some v_15

def merkle_Tree_Same_nn (k : Nat) : Option ((Bool)) :=
 Option.bind (
  Option.bind (merkle_Tree_there_n k) fun _ =>
  some ()
 ) fun _ =>
  Option.bind (merkle_Tree_there_n k) fun _ =>
  Option.bind (merkle_Tree_there_n k) fun _ =>
  lt1 ((false == false)) fun v_4 =>
  some v_4

def merkle_Tree_Diff_nn (k : Nat) : Option ((Unit)) :=
 Option.bind (
  Option.bind (merkle_Tree_there_n k) fun _ =>
  some ()
 ) fun _ =>
  some ()

def merkle_Tree_Diff_pn (k : Nat) (t_1 : merkle_Tree) : Option ((Unit)) :=
 Option.bind (
  Option.bind (merkle_Tree_there k t_1) fun _ =>
  lt1 ((!t_1.is)) fun v_6 =>
  Option.bind (if (!v_6) = true then merkle_Tree_there_n k else some default) fun _ =>
  lt1 (bif v_6 then true else true) fun v_8 =>
  some v_8
 ) fun x_9 =>
  if x_9 = true then
   some ()
  else
   none

def law08_known (k : Nat) : Option ((Bool)) :=
 Option.bind (merkle_New k) fun t => match t with
 | (.inl v_1) =>
  Option.bind (merkle_Tree_Leaves k v_1) fun v_3 =>
  Option.bind (merkle_Of k v_3) fun t => match t with
  | (.inl v_6) =>
   Option.bind (merkle_Tree_Diff_pr k v_1) fun (v_8, v_9, v_10) =>
   Option.bind (merkle_Tree_Set k (5 : Int) ([(120 : UInt8)] : (List UInt8)) v_6) fun (v_14, x_15) =>
   Option.bind (merkle_Tree_Diff k x_15 v_1) fun (v_16, v_17, v_18) =>
   Option.bind (merkle_Tree_Node k (128 : Int) x_15) fun (v_21, v_22) =>
   Option.bind (merkle_Tree_Leaves k x_15) fun v_24 =>
   Option.bind (merkle_Of k v_24) fun t => match t with
   | (.inl v_27) =>
    Option.bind (
     Option.bind (law08_num k (0 : Int)) fun _ =>
     Option.bind (law08_num k v_10) fun _ =>
     lt1 (w64 ((0 : Int) + v_10)) fun v_31 =>
     Option.bind (law08_num k v_14) fun _ =>
     lt1 (w64 (v_31 + v_14)) fun v_33 =>
     Option.bind (law08_num k v_18) fun _ =>
     lt1 (w64 (v_33 + v_18)) fun v_35 =>
     Option.bind (law08_num k (0 : Int)) fun _ =>
     lt1 (w64 (v_35 + (0 : Int))) fun v_37 =>
     lt1 ((v_37 == (0 : Int))) fun v_38 =>
     if v_38 = true then
      lt1 (((List.length v_8 : Int) == (0 : Int))) fun v_39 =>
      lt1 ((v_9 == (1 : Int))) fun v_40 =>
      lt1 (bif v_39 then v_40 else false) fun v_41 =>
      if v_41 = true then
       Option.bind (law08_ints k v_16 ([(5 : Int)] : (List Int))) fun v_42 =>
       lt1 ((v_17 == (13 : Int))) fun v_43 =>
       lt1 (bif v_42 then v_43 else false) fun v_44 =>
       Option.bind (if v_44 = true then law08_num k v_22 else some default) fun _ =>
       lt1 ((v_22 == (2 : Int))) fun v_46 =>
       lt1 (bif v_44 then v_46 else false) fun v_47 =>
       if v_47 = true then
        Option.bind (merkle_Tree_Same k v_27 x_15) fun v_48 =>
        if v_48 = true then
         Option.bind (merkle_Tree_Same k v_27 v_1) fun v_49 =>
         lt1 ((!v_49)) fun v_50 =>
         some v_50
        else
         some false
       else
        some false
      else
       some false
     else
      some false
    ) fun t_51 =>
     some t_51
   | (.inr _) =>
    Option.bind (
     Option.bind (law08_num k (0 : Int)) fun _ =>
     Option.bind (law08_num k v_10) fun _ =>
     lt1 (w64 ((0 : Int) + v_10)) fun v_54 =>
     Option.bind (law08_num k v_14) fun _ =>
     lt1 (w64 (v_54 + v_14)) fun v_56 =>
     Option.bind (law08_num k v_18) fun _ =>
     lt1 (w64 (v_56 + v_18)) fun v_58 =>
     Option.bind (law08_num k (2 : Int)) fun _ =>
     lt1 (w64 (v_58 + (2 : Int))) fun v_60 =>
     lt1 ((v_60 == (0 : Int))) fun v_61 =>
     if v_61 = true then
      lt1 (((List.length v_8 : Int) == (0 : Int))) fun v_62 =>
      lt1 ((v_9 == (1 : Int))) fun v_63 =>
      lt1 (bif v_62 then v_63 else false) fun v_64 =>
      if v_64 = true then
       Option.bind (law08_ints k v_16 ([(5 : Int)] : (List Int))) fun v_65 =>
       lt1 ((v_17 == (13 : Int))) fun v_66 =>
       lt1 (bif v_65 then v_66 else false) fun v_67 =>
       Option.bind (if v_67 = true then law08_num k v_22 else some default) fun _ =>
       lt1 ((v_22 == (2 : Int))) fun v_69 =>
       lt1 (bif v_67 then v_69 else false) fun v_70 =>
       if v_70 = true then
        Option.bind (merkle_Tree_Same_np k x_15) fun v_71 =>
        if v_71 = true then
         Option.bind (merkle_Tree_Same_np k v_1) fun v_72 =>
         lt1 ((!v_72)) fun v_73 =>
         some v_73
        else
         some false
       else
        some false
      else
       some false
     else
      some false
    ) fun t_74 =>
     some t_74
  | (.inr _) =>
   Option.bind (merkle_Tree_Diff_pr k v_1) fun (v_75, v_76, v_77) =>
   Option.bind (merkle_Tree_Set_nvv k (5 : Int) ([(120 : UInt8)] : (List UInt8))) fun _ =>
   Option.bind (merkle_Tree_Diff_np k v_1) fun _ =>
   Option.bind (merkle_Tree_Node_nv k (128 : Int)) fun _ =>
   Option.bind (merkle_Tree_Leaves_n k) fun _ =>
   Option.bind (merkle_Of k ([] : (List (Vector UInt8 32)))) fun t => match t with
   | (.inl v_86) =>
    Option.bind (
     Option.bind (law08_num k (2 : Int)) fun _ =>
     Option.bind (law08_num k v_77) fun _ =>
     lt1 (w64 ((2 : Int) + v_77)) fun v_90 =>
     Option.bind (law08_num k (1 : Int)) fun _ =>
     lt1 (w64 (v_90 + (1 : Int))) fun v_92 =>
     Option.bind (law08_num k (1 : Int)) fun _ =>
     lt1 (w64 (v_92 + (1 : Int))) fun v_94 =>
     Option.bind (law08_num k (0 : Int)) fun _ =>
     lt1 (w64 (v_94 + (0 : Int))) fun v_96 =>
     lt1 ((v_96 == (0 : Int))) fun v_97 =>
     if v_97 = true then
      lt1 (((List.length v_75 : Int) == (0 : Int))) fun v_98 =>
      lt1 ((v_76 == (1 : Int))) fun v_99 =>
      lt1 (bif v_98 then v_99 else false) fun v_100 =>
      Option.bind (if v_100 = true then law08_ints k ([] : (List Int)) ([(5 : Int)] : (List Int)) else some default) fun v_101 =>
      lt1 (bif v_100 then v_101 else false) fun v_102 =>
      lt1 (bif v_102 then false else false) fun v_103 =>
      Option.bind (if v_103 = true then law08_num k (1 : Int) else some default) fun _ =>
      lt1 (bif v_103 then false else false) fun v_105 =>
      if v_105 = true then
       Option.bind (merkle_Tree_Same_pn k v_86) fun v_106 =>
       if v_106 = true then
        Option.bind (merkle_Tree_Same k v_86 v_1) fun v_107 =>
        lt1 ((!v_107)) fun v_108 =>
        some v_108
       else
        some false
      else
       some false
     else
      some false
    ) fun t_109 =>
     some t_109
   | (.inr _) =>
    Option.bind (
     Option.bind (law08_num k (2 : Int)) fun _ =>
     Option.bind (law08_num k v_77) fun _ =>
     lt1 (w64 ((2 : Int) + v_77)) fun v_112 =>
     Option.bind (law08_num k (1 : Int)) fun _ =>
     lt1 (w64 (v_112 + (1 : Int))) fun v_114 =>
     Option.bind (law08_num k (1 : Int)) fun _ =>
     lt1 (w64 (v_114 + (1 : Int))) fun v_116 =>
     Option.bind (law08_num k (2 : Int)) fun _ =>
     lt1 (w64 (v_116 + (2 : Int))) fun v_118 =>
     lt1 ((v_118 == (0 : Int))) fun v_119 =>
     if v_119 = true then
      lt1 (((List.length v_75 : Int) == (0 : Int))) fun v_120 =>
      lt1 ((v_76 == (1 : Int))) fun v_121 =>
      lt1 (bif v_120 then v_121 else false) fun v_122 =>
      Option.bind (if v_122 = true then law08_ints k ([] : (List Int)) ([(5 : Int)] : (List Int)) else some default) fun v_123 =>
      lt1 (bif v_122 then v_123 else false) fun v_124 =>
      lt1 (bif v_124 then false else false) fun v_125 =>
      Option.bind (if v_125 = true then law08_num k (1 : Int) else some default) fun _ =>
      lt1 (bif v_125 then false else false) fun v_127 =>
      Option.bind (if v_127 = true then merkle_Tree_Same_nn k else some default) fun v_128 =>
      lt1 (bif v_127 then v_128 else false) fun v_129 =>
      if v_129 = true then
       Option.bind (merkle_Tree_Same_np k v_1) fun v_130 =>
       lt1 ((!v_130)) fun v_131 =>
       some v_131
      else
       some false
     else
      some false
    ) fun t_132 =>
     some t_132
 | (.inr _) =>
  Option.bind (merkle_Tree_Leaves_n k) fun _ =>
  Option.bind (merkle_Of k ([] : (List (Vector UInt8 32)))) fun t => match t with
  | (.inl v_134) =>
   Option.bind (merkle_Tree_Diff_nn k) fun _ =>
   Option.bind (merkle_Tree_Set k (5 : Int) ([(120 : UInt8)] : (List UInt8)) v_134) fun (v_138, x_139) =>
   Option.bind (merkle_Tree_Diff_pn k x_139) fun _ =>
   Option.bind (merkle_Tree_Node k (128 : Int) x_139) fun (v_141, v_142) =>
   Option.bind (merkle_Tree_Leaves k x_139) fun v_144 =>
   Option.bind (merkle_Of k v_144) fun t => match t with
   | (.inl v_147) =>
    Option.bind (
     Option.bind (law08_num k (0 : Int)) fun _ =>
     Option.bind (law08_num k (1 : Int)) fun _ =>
     lt1 (w64 ((0 : Int) + (1 : Int))) fun v_151 =>
     Option.bind (law08_num k v_138) fun _ =>
     lt1 (w64 (v_151 + v_138)) fun v_153 =>
     Option.bind (law08_num k (1 : Int)) fun _ =>
     lt1 (w64 (v_153 + (1 : Int))) fun v_155 =>
     Option.bind (law08_num k (0 : Int)) fun _ =>
     lt1 (w64 (v_155 + (0 : Int))) fun v_157 =>
     lt1 ((v_157 == (0 : Int))) fun v_158 =>
     lt1 (bif v_158 then true else false) fun v_159 =>
     lt1 (bif v_159 then false else false) fun v_160 =>
     Option.bind (if v_160 = true then law08_ints k ([] : (List Int)) ([(5 : Int)] : (List Int)) else some default) fun v_161 =>
     lt1 (bif v_160 then v_161 else false) fun v_162 =>
     lt1 (bif v_162 then false else false) fun v_163 =>
     Option.bind (if v_163 = true then law08_num k v_142 else some default) fun _ =>
     lt1 ((v_142 == (2 : Int))) fun v_165 =>
     lt1 (bif v_163 then v_165 else false) fun v_166 =>
     if v_166 = true then
      Option.bind (merkle_Tree_Same k v_147 x_139) fun v_167 =>
      if v_167 = true then
       Option.bind (merkle_Tree_Same_pn k v_147) fun v_168 =>
       lt1 ((!v_168)) fun v_169 =>
       some v_169
      else
       some false
     else
      some false
    ) fun t_170 =>
     some t_170
   | (.inr _) =>
    Option.bind (
     Option.bind (law08_num k (0 : Int)) fun _ =>
     Option.bind (law08_num k (1 : Int)) fun _ =>
     lt1 (w64 ((0 : Int) + (1 : Int))) fun v_173 =>
     Option.bind (law08_num k v_138) fun _ =>
     lt1 (w64 (v_173 + v_138)) fun v_175 =>
     Option.bind (law08_num k (1 : Int)) fun _ =>
     lt1 (w64 (v_175 + (1 : Int))) fun v_177 =>
     Option.bind (law08_num k (2 : Int)) fun _ =>
     lt1 (w64 (v_177 + (2 : Int))) fun v_179 =>
     lt1 ((v_179 == (0 : Int))) fun v_180 =>
     lt1 (bif v_180 then true else false) fun v_181 =>
     lt1 (bif v_181 then false else false) fun v_182 =>
     Option.bind (if v_182 = true then law08_ints k ([] : (List Int)) ([(5 : Int)] : (List Int)) else some default) fun v_183 =>
     lt1 (bif v_182 then v_183 else false) fun v_184 =>
     lt1 (bif v_184 then false else false) fun v_185 =>
     Option.bind (if v_185 = true then law08_num k v_142 else some default) fun _ =>
     lt1 ((v_142 == (2 : Int))) fun v_187 =>
     lt1 (bif v_185 then v_187 else false) fun v_188 =>
     if v_188 = true then
      Option.bind (merkle_Tree_Same_np k x_139) fun v_189 =>
      Option.bind (if v_189 = true then merkle_Tree_Same_nn k else some default) fun v_190 =>
      lt1 ((!v_190)) fun v_191 =>
      lt1 (bif v_189 then v_191 else false) fun v_192 =>
      some v_192
     else
      some false
    ) fun t_193 =>
     some t_193
  | (.inr _) =>
   Option.bind (merkle_Tree_Diff_nn k) fun _ =>
   Option.bind (merkle_Tree_Set_nvv k (5 : Int) ([(120 : UInt8)] : (List UInt8))) fun _ =>
   Option.bind (merkle_Tree_Diff_nn k) fun _ =>
   Option.bind (merkle_Tree_Node_nv k (128 : Int)) fun _ =>
   Option.bind (merkle_Tree_Leaves_n k) fun _ =>
   Option.bind (merkle_Of k ([] : (List (Vector UInt8 32)))) fun t => match t with
   | (.inl v_201) =>
    Option.bind (
     Option.bind (law08_num k (2 : Int)) fun _ =>
     Option.bind (law08_num k (1 : Int)) fun _ =>
     lt1 (w64 ((2 : Int) + (1 : Int))) fun v_205 =>
     Option.bind (law08_num k (1 : Int)) fun _ =>
     lt1 (w64 (v_205 + (1 : Int))) fun v_207 =>
     Option.bind (law08_num k (1 : Int)) fun _ =>
     lt1 (w64 (v_207 + (1 : Int))) fun v_209 =>
     Option.bind (law08_num k (0 : Int)) fun _ =>
     lt1 (w64 (v_209 + (0 : Int))) fun v_211 =>
     lt1 ((v_211 == (0 : Int))) fun v_212 =>
     lt1 (bif v_212 then true else false) fun v_213 =>
     lt1 (bif v_213 then false else false) fun v_214 =>
     Option.bind (if v_214 = true then law08_ints k ([] : (List Int)) ([(5 : Int)] : (List Int)) else some default) fun v_215 =>
     lt1 (bif v_214 then v_215 else false) fun v_216 =>
     lt1 (bif v_216 then false else false) fun v_217 =>
     Option.bind (if v_217 = true then law08_num k (1 : Int) else some default) fun _ =>
     lt1 (bif v_217 then false else false) fun v_219 =>
     if v_219 = true then
      Option.bind (merkle_Tree_Same_pn k v_201) fun v_220 =>
      if v_220 = true then
       Option.bind (merkle_Tree_Same_pn k v_201) fun v_221 =>
       lt1 ((!v_221)) fun v_222 =>
       some v_222
      else
       some false
     else
      some false
    ) fun t_223 =>
     some t_223
   | (.inr _) =>
    Option.bind (
     Option.bind (law08_num k (2 : Int)) fun _ =>
     Option.bind (law08_num k (1 : Int)) fun _ =>
     lt1 (w64 ((2 : Int) + (1 : Int))) fun v_226 =>
     Option.bind (law08_num k (1 : Int)) fun _ =>
     lt1 (w64 (v_226 + (1 : Int))) fun v_228 =>
     Option.bind (law08_num k (1 : Int)) fun _ =>
     lt1 (w64 (v_228 + (1 : Int))) fun v_230 =>
     Option.bind (law08_num k (2 : Int)) fun _ =>
     lt1 (w64 (v_230 + (2 : Int))) fun v_232 =>
     lt1 ((v_232 == (0 : Int))) fun v_233 =>
     lt1 (bif v_233 then true else false) fun v_234 =>
     lt1 (bif v_234 then false else false) fun v_235 =>
     Option.bind (if v_235 = true then law08_ints k ([] : (List Int)) ([(5 : Int)] : (List Int)) else some default) fun v_236 =>
     lt1 (bif v_235 then v_236 else false) fun v_237 =>
     lt1 (bif v_237 then false else false) fun v_238 =>
     Option.bind (if v_238 = true then law08_num k (1 : Int) else some default) fun _ =>
     lt1 (bif v_238 then false else false) fun v_240 =>
     Option.bind (if v_240 = true then merkle_Tree_Same_nn k else some default) fun v_241 =>
     lt1 (bif v_240 then v_241 else false) fun v_242 =>
     Option.bind (if v_242 = true then merkle_Tree_Same_nn k else some default) fun v_243 =>
     lt1 ((!v_243)) fun v_244 =>
     lt1 (bif v_242 then v_244 else false) fun v_245 =>
     some v_245
    ) fun t_246 =>
     some t_246

def ref03_power (k : Nat) (t_1 : UInt64) (a_2 : Int) (a_3 : UInt64) : Option ((Bool)) :=
 Option.bind (math_bits_Mul64 k t_1 t_1) fun (v_4, v_5) =>
 lt1 ((a_2 == (2 : Int))) fun v_6 =>
 if v_6 = true then
  Option.bind (
   lt1 (decide (v_4 < a_3)) fun v_7 =>
   lt1 ((v_4 == a_3)) fun v_8 =>
   lt1 ((v_5 == (0 : UInt64))) fun v_9 =>
   lt1 (bif v_8 then v_9 else false) fun v_10 =>
   lt1 (bif v_7 then true else v_10) fun v_11 =>
   some v_11
  ) fun x_12 =>
   some x_12
 else
  Option.bind (math_bits_Mul64 k v_5 t_1) fun (v_13, v_14) =>
  Option.bind (math_bits_Mul64 k v_4 t_1) fun (v_15, v_16) =>
  Option.bind (add64 v_13 v_16 (0 : UInt64)) fun (s_17, o_18) =>
  lt1 ((v_15 + o_18)) fun v_19 =>
  lt1 (UN.shr a_3 (UN.toN (32 : UInt64))) fun v_20 =>
  lt1 ((!(v_19 == v_20))) fun v_21 =>
  if v_21 = true then
   lt1 (UN.shr a_3 (UN.toN (32 : UInt64))) fun v_22 =>
   lt1 (decide (v_19 < v_22)) fun v_23 =>
   some v_23
  else
   Option.bind (
    lt1 (UN.shl a_3 (UN.toN (32 : UInt64))) fun v_24 =>
    lt1 (decide (s_17 < v_24)) fun v_25 =>
    lt1 (UN.shl a_3 (UN.toN (32 : UInt64))) fun v_26 =>
    lt1 ((s_17 == v_26)) fun v_27 =>
    lt1 ((v_14 == (0 : UInt64))) fun v_28 =>
    lt1 (bif v_27 then v_28 else false) fun v_29 =>
    lt1 (bif v_25 then true else v_29) fun v_30 =>
    some v_30
   ) fun x_31 =>
    some x_31

def ref03_root.b1 (k : Nat) (n_2 : Int) (p_1 : UInt64) (x_3 : UInt64) (b_4 : Int) : Option ((UInt64 × Int) ⊕ ((UInt64))) :=
 lt1 (decide (b_4 ≥ (0 : Int))) fun v_5 =>
 if v_5 = true then
  Option.bind (
   lt1 ((UN.ofI b_4 : UInt64)) fun v_6 =>
   lt1 (UN.shl (1 : UInt64) (UN.toN v_6)) fun v_7 =>
   lt1 ((x_3 + v_7)) fun v_8 =>
   Option.bind (ref03_power k v_8 n_2 p_1) fun v_9 =>
   if v_9 = true then
    some v_8
   else
    some x_3
  ) fun x_10 =>
   lt1 (w64 (b_4 - (1 : Int))) fun v_11 =>
   some (.inl (x_10, v_11))
 else
  some (.inr x_3)

def ref03_root (k : Nat) (p_1 : UInt64) (n_2 : Int) : Option ((UInt32)) :=
 Option.bind (
  loopO (fun s => ref03_root.b1 k n_2 p_1 s.1 s.2) k ((0 : UInt64), (37 : Int))
 ) fun x_12 =>
  lt1 ((UN.to x_12 : UInt32)) fun v_13 =>
  some v_13

def ref03_begun.b2 (k : Nat) (n_5 : UInt64) (is_9 : Bool) (d_10 : UInt64) : Option ((Bool × UInt64) ⊕ ((Bool))) :=
 lt1 ((d_10 * d_10)) fun v_11 =>
 lt1 (decide (v_11 ≤ n_5)) fun v_12 =>
 if v_12 = true then
  Option.bind (
   Option.bind (if is_9 = true then modU n_5 d_10 else some default) fun v_13 =>
   lt1 ((!(v_13 == (0 : UInt64)))) fun v_14 =>
   lt1 (bif is_9 then v_14 else false) fun v_15 =>
   some v_15
  ) fun is_16 =>
   lt1 ((d_10 + (1 : UInt64))) fun v_17 =>
   some (.inl (is_16, v_17))
 else
  some (.inr is_9)

def ref03_begun.b1 (k : Nat) (h_3 : (Vector UInt32 8)) (k_4 : (List UInt32)) (n_5 : UInt64) : Option (((Vector UInt32 8) × (List UInt32) × UInt64) ⊕ (((Vector UInt32 8) × (List UInt32)))) :=
 lt1 (decide ((List.length k_4 : Int) < (64 : Int))) fun v_8 =>
 if v_8 = true then
  Option.bind (
   Option.bind (
    loopO (fun s => ref03_begun.b2 k n_5 s.1 s.2) k (true, (2 : UInt64))
   ) fun is_18 =>
    Option.bind (
     Option.bind (
      if is_18 = true then
       lt1 (decide ((List.length k_4 : Int) < (8 : Int))) fun v_19 =>
       some v_19
      else
       some false
     ) fun x_20 =>
      if x_20 = true then
       Option.bind (ref03_root k n_5 (2 : Int)) fun v_21 =>
       Option.bind (inV 8 (List.length k_4 : Int)) fun i_22 =>
       lt1 ((putV h_3 i_22 v_21)) fun h_23 =>
       some h_23
      else
       some h_3
    ) fun h_24 =>
     if is_18 = true then
      Option.bind (ref03_root k n_5 (3 : Int)) fun v_25 =>
      Option.bind (apL 4 k_4 ([v_25] : (List UInt32))) fun k_26 =>
      some (h_24, k_26)
     else
      some (h_24, k_4)
  ) fun (h_29, k_30) =>
   lt1 ((n_5 + (1 : UInt64))) fun v_33 =>
   some (.inl (h_29, k_30, v_33))
 else
  some (.inr (h_3, k_4))

def ref03_begun (k : Nat) : Option (((Vector UInt32 8) × (List UInt32))) :=
 Option.bind (
  loopO (fun s => ref03_begun.b1 k s.1 s.2.1 s.2.2) k ((Vector.replicate 8 (0 : UInt32)), ([] : (List UInt32)), (2 : UInt64))
 ) fun (h_34, k_35) =>
  some (h_34, k_35)

def ref01_Put.b1 (k : Nat) (n_6 : UInt64) (b_7 : (List UInt8)) (i_8 : Int) : Option ((UInt64 × (List UInt8) × Int) ⊕ (((List UInt8)))) :=
 lt1 (decide (i_8 ≥ (0 : Int))) fun v_9 =>
 if v_9 = true then
  Option.bind (modU n_6 (256 : UInt64)) fun v_10 =>
  lt1 ((UN.to v_10 : UInt8)) fun v_11 =>
  Option.bind (inO b_7 i_8) fun i_12 =>
  Option.bind (setO' b_7 i_12 v_11) fun b_13 =>
  Option.bind (divU n_6 (256 : UInt64)) fun v_14 =>
  lt1 (w64 (i_8 - (1 : Int))) fun v_15 =>
  some (.inl (v_14, b_13, v_15))
 else
  some (.inr b_7)

def ref01_Put (k : Nat) (n_1 : UInt64) (size_2 : Int) : Option (((List UInt8))) :=
 Option.bind (mkL 1 size_2 (0 : UInt8)) fun v_3 =>
 Option.bind (
  lt1 (w64 (size_2 - (1 : Int))) fun v_5 =>
  loopO (fun s => ref01_Put.b1 k s.1 s.2.1 s.2.2) k (n_1, v_3, v_5)
 ) fun b_16 =>
  some b_16

def ref03_pad.b1 (k : Nat) (o_8 : (List UInt8)) : Option (((List UInt8)) ⊕ (((List UInt8)))) :=
 Option.bind (modI (List.length o_8 : Int) (64 : Int)) fun v_11 =>
 lt1 ((v_11 != (56 : Int))) fun v_12 =>
 if v_12 = true then
  Option.bind (apL 1 o_8 ([(0 : UInt8)] : (List UInt8))) fun o_13 =>
  some (.inl o_13)
 else
  some (.inr o_8)

def ref03_pad (k : Nat) (b_1 : (List UInt8)) : Option (((List UInt8))) :=
 Option.bind (apL 1 ([] : (List UInt8)) b_1) fun v_2 =>
 Option.bind (apL 1 v_2 ([(128 : UInt8)] : (List UInt8))) fun x_5 =>
 Option.bind (
  loopO (fun s => ref03_pad.b1 k s) k x_5
 ) fun o_16 =>
  lt1 ((UN.ofI (List.length b_1 : Int) : UInt64)) fun v_19 =>
  lt1 ((v_19 * (8 : UInt64))) fun v_20 =>
  Option.bind (ref01_Put k v_20 (8 : Int)) fun v_21 =>
  Option.bind (apL 1 o_16 v_21) fun o_23 =>
  some o_23

def ref01_Get.b1 (k : Nat) (b_1 : (List UInt8)) (n_2 : UInt64) (i_3 : Int) : Option ((UInt64 × Int) ⊕ ((UInt64))) :=
 lt1 (decide (i_3 < (List.length b_1 : Int))) fun v_4 =>
 if v_4 = true then
  lt1 ((n_2 * (256 : UInt64))) fun v_5 =>
  Option.bind (idxL b_1 i_3) fun v_6 =>
  lt1 ((UN.to v_6 : UInt64)) fun v_7 =>
  lt1 ((v_5 + v_7)) fun v_8 =>
  lt1 (w64 (i_3 + (1 : Int))) fun v_9 =>
  some (.inl (v_8, v_9))
 else
  some (.inr n_2)

def ref01_Get (k : Nat) (b_1 : (List UInt8)) : Option ((UInt64)) :=
 Option.bind (
  loopO (fun s => ref01_Get.b1 k b_1 s.1 s.2) k ((0 : UInt64), (0 : Int))
 ) fun n_10 =>
  some n_10

def ref03_ror (k : Nat) (x_1 : UInt32) (n_2 : UInt64) : Option ((UInt32)) :=
 lt1 (UN.shr x_1 (UN.toN n_2)) fun v_3 =>
 lt1 (((32 : UInt64) - n_2)) fun v_4 =>
 lt1 (UN.shl x_1 (UN.toN v_4)) fun v_5 =>
 lt1 ((v_3 ||| v_5)) fun v_6 =>
 some v_6

def ref03_press.b1 (k : Nat) (a_2 : (List UInt8)) (x_6 : (List UInt32)) (x_7 : Int) : Option (((List UInt32) × Int) ⊕ (((List UInt32)))) :=
 lt1 (decide (x_7 < (16 : Int))) fun v_10 =>
 if v_10 = true then
  lt1 (w64 ((4 : Int) * x_7)) fun v_11 =>
  lt1 (w64 ((4 : Int) * x_7)) fun v_12 =>
  lt1 (w64 (v_12 + (4 : Int))) fun v_13 =>
  Option.bind (subL a_2 v_11 v_13) fun v_14 =>
  Option.bind (ref01_Get k v_14) fun v_15 =>
  lt1 ((UN.to v_15 : UInt32)) fun v_16 =>
  Option.bind (apL 4 x_6 ([v_16] : (List UInt32))) fun x_17 =>
  lt1 (w64 (x_7 + (1 : Int))) fun v_20 =>
  some (.inl (x_17, v_20))
 else
  some (.inr x_6)

def ref03_press.b2 (k : Nat) (x_24 : (List UInt32)) (x_25 : Int) : Option (((List UInt32) × Int) ⊕ (((List UInt32)))) :=
 lt1 (decide (x_25 < (64 : Int))) fun v_28 =>
 if v_28 = true then
  lt1 (w64 (x_25 - (15 : Int))) fun v_29 =>
  Option.bind (inO x_24 v_29) fun i_30 =>
  Option.bind (x_24[i_30]?) fun v_31 =>
  lt1 (w64 (x_25 - (2 : Int))) fun v_32 =>
  Option.bind (inO x_24 v_32) fun i_33 =>
  Option.bind (x_24[i_33]?) fun v_34 =>
  Option.bind (ref03_ror k v_31 (7 : UInt64)) fun v_35 =>
  Option.bind (ref03_ror k v_31 (18 : UInt64)) fun v_36 =>
  lt1 ((v_35 ^^^ v_36)) fun v_37 =>
  lt1 (UN.shr v_31 (UN.toN (3 : UInt64))) fun v_38 =>
  lt1 ((v_37 ^^^ v_38)) fun v_39 =>
  Option.bind (ref03_ror k v_34 (17 : UInt64)) fun v_40 =>
  Option.bind (ref03_ror k v_34 (19 : UInt64)) fun v_41 =>
  lt1 ((v_40 ^^^ v_41)) fun v_42 =>
  lt1 (UN.shr v_34 (UN.toN (10 : UInt64))) fun v_43 =>
  lt1 ((v_42 ^^^ v_43)) fun v_44 =>
  lt1 (w64 (x_25 - (16 : Int))) fun v_45 =>
  Option.bind (inO x_24 v_45) fun i_46 =>
  Option.bind (x_24[i_46]?) fun v_47 =>
  lt1 ((v_47 + v_39)) fun v_48 =>
  lt1 (w64 (x_25 - (7 : Int))) fun v_49 =>
  Option.bind (inO x_24 v_49) fun i_50 =>
  Option.bind (x_24[i_50]?) fun v_51 =>
  lt1 ((v_48 + v_51)) fun v_52 =>
  lt1 ((v_52 + v_44)) fun v_53 =>
  Option.bind (apL 4 x_24 ([v_53] : (List UInt32))) fun x_54 =>
  lt1 (w64 (x_25 + (1 : Int))) fun v_57 =>
  some (.inl (x_54, v_57))
 else
  some (.inr x_24)

def ref03_press.b3 (k : Nat) (a_3 : (List UInt32)) (x_58 : (List UInt32)) (x_62 : (Vector UInt32 8)) (x_63 : Int) : Option (((Vector UInt32 8) × Int) ⊕ (((Vector UInt32 8)))) :=
 lt1 (decide (x_63 < (64 : Int))) fun v_64 =>
 if v_64 = true then
  Option.bind (inV 8 (0 : Int)) fun i_65 =>
  lt1 ((getV x_62 i_65)) fun v_66 =>
  Option.bind (inV 8 (1 : Int)) fun i_67 =>
  lt1 ((getV x_62 i_67)) fun v_68 =>
  Option.bind (inV 8 (2 : Int)) fun i_69 =>
  lt1 ((getV x_62 i_69)) fun v_70 =>
  Option.bind (inV 8 (4 : Int)) fun i_71 =>
  lt1 ((getV x_62 i_71)) fun v_72 =>
  Option.bind (inV 8 (5 : Int)) fun i_73 =>
  lt1 ((getV x_62 i_73)) fun v_74 =>
  Option.bind (inV 8 (6 : Int)) fun i_75 =>
  lt1 ((getV x_62 i_75)) fun v_76 =>
  Option.bind (inV 8 (7 : Int)) fun i_77 =>
  lt1 ((getV x_62 i_77)) fun v_78 =>
  Option.bind (ref03_ror k v_72 (6 : UInt64)) fun v_79 =>
  Option.bind (ref03_ror k v_72 (11 : UInt64)) fun v_80 =>
  lt1 ((v_79 ^^^ v_80)) fun v_81 =>
  Option.bind (ref03_ror k v_72 (25 : UInt64)) fun v_82 =>
  lt1 ((v_81 ^^^ v_82)) fun v_83 =>
  lt1 ((v_78 + v_83)) fun v_84 =>
  lt1 ((v_72 &&& v_74)) fun v_85 =>
  lt1 ((UN.not v_72)) fun v_86 =>
  lt1 ((v_86 &&& v_76)) fun v_87 =>
  lt1 ((v_85 ^^^ v_87)) fun v_88 =>
  lt1 ((v_84 + v_88)) fun v_89 =>
  Option.bind (idxL a_3 x_63) fun v_90 =>
  lt1 ((v_89 + v_90)) fun v_91 =>
  Option.bind (inO x_58 x_63) fun i_92 =>
  Option.bind (x_58[i_92]?) fun v_93 =>
  lt1 ((v_91 + v_93)) fun v_94 =>
  Option.bind (ref03_ror k v_66 (2 : UInt64)) fun v_95 =>
  Option.bind (ref03_ror k v_66 (13 : UInt64)) fun v_96 =>
  lt1 ((v_95 ^^^ v_96)) fun v_97 =>
  Option.bind (ref03_ror k v_66 (22 : UInt64)) fun v_98 =>
  lt1 ((v_97 ^^^ v_98)) fun v_99 =>
  lt1 ((v_66 &&& v_68)) fun v_100 =>
  lt1 ((v_66 &&& v_70)) fun v_101 =>
  lt1 ((v_100 ^^^ v_101)) fun v_102 =>
  lt1 ((v_68 &&& v_70)) fun v_103 =>
  lt1 ((v_102 ^^^ v_103)) fun v_104 =>
  lt1 ((v_99 + v_104)) fun v_105 =>
  lt1 ((v_94 + v_105)) fun v_106 =>
  Option.bind (inV 8 (3 : Int)) fun i_107 =>
  lt1 ((getV x_62 i_107)) fun v_108 =>
  lt1 ((v_108 + v_94)) fun v_109 =>
  lt1 (w64 (x_63 + (1 : Int))) fun v_110 =>
  some (.inl ((#v[v_106, v_66, v_68, v_70, v_109, v_72, v_74, v_76] : (Vector UInt32 8)), v_110))
 else
  some (.inr x_62)

def ref03_press.b4 (k : Nat) (t_1 : (Vector UInt32 8)) (x_112 : (Vector UInt32 8)) (x_113 : Int) : Option (((Vector UInt32 8) × Int) ⊕ (((Vector UInt32 8)))) :=
 lt1 (decide (x_113 < (8 : Int))) fun v_114 =>
 if v_114 = true then
  Option.bind (inV 8 x_113) fun i_115 =>
  lt1 ((getV x_112 i_115)) fun v_116 =>
  Option.bind (inV 8 x_113) fun i_117 =>
  lt1 ((getV t_1 i_117)) fun v_118 =>
  lt1 ((v_116 + v_118)) fun v_119 =>
  Option.bind (inV 8 x_113) fun i_120 =>
  lt1 ((putV x_112 i_120 v_119)) fun x_121 =>
  lt1 (w64 (x_113 + (1 : Int))) fun v_122 =>
  some (.inl (x_121, v_122))
 else
  some (.inr x_112)

def ref03_press (k : Nat) (t_1 : (Vector UInt32 8)) (a_2 : (List UInt8)) (a_3 : (List UInt32)) : Option (((Vector UInt32 8))) :=
 Option.bind (
  loopO (fun s => ref03_press.b1 k a_2 s.1 s.2) k (([] : (List UInt32)), (0 : Int))
 ) fun x_21 =>
  Option.bind (
   loopO (fun s => ref03_press.b2 k s.1 s.2) k (x_21, (16 : Int))
  ) fun x_58 =>
   Option.bind (
    loopO (fun s => ref03_press.b3 k a_3 x_58 s.1 s.2) k (t_1, (0 : Int))
   ) fun x_111 =>
    Option.bind (
     loopO (fun s => ref03_press.b4 k t_1 s.1 s.2) k (x_111, (0 : Int))
    ) fun x_123 =>
     some x_123

def ref03_Sum.b1 (k : Nat) (v_8 : (List UInt8)) (v_4 : (List UInt32)) (h_11 : (Vector UInt32 8)) (at_12 : Int) : Option (((Vector UInt32 8) × Int) ⊕ (((Vector UInt32 8)))) :=
 lt1 (decide (at_12 < (List.length v_8 : Int))) fun v_13 =>
 if v_13 = true then
  lt1 (w64 (at_12 + (64 : Int))) fun v_14 =>
  Option.bind (subL v_8 at_12 v_14) fun v_15 =>
  Option.bind (ref03_press k h_11 v_15 v_4) fun v_16 =>
  lt1 (w64 (at_12 + (64 : Int))) fun v_17 =>
  some (.inl (v_16, v_17))
 else
  some (.inr h_11)

def ref03_Sum.b2 (k : Nat) (h_18 : (Vector UInt32 8)) (d_20 : (Vector UInt8 32)) (i_21 : Int) : Option (((Vector UInt8 32) × Int) ⊕ (((Vector UInt8 32)))) :=
 lt1 (decide (i_21 < (32 : Int))) fun v_22 =>
 if v_22 = true then
  Option.bind (divI i_21 (4 : Int)) fun v_23 =>
  Option.bind (inV 8 v_23) fun i_24 =>
  lt1 ((getV h_18 i_24)) fun v_25 =>
  Option.bind (modI i_21 (4 : Int)) fun v_26 =>
  lt1 (w64 ((8 : Int) * v_26)) fun v_27 =>
  lt1 (w64 ((24 : Int) - v_27)) fun v_28 =>
  lt1 ((UN.ofI v_28 : UInt64)) fun v_29 =>
  lt1 (UN.shr v_25 (UN.toN v_29)) fun v_30 =>
  lt1 ((UN.to v_30 : UInt8)) fun v_31 =>
  Option.bind (inV 32 i_21) fun i_32 =>
  lt1 ((putV d_20 i_32 v_31)) fun d_33 =>
  lt1 (w64 (i_21 + (1 : Int))) fun v_34 =>
  some (.inl (d_33, v_34))
 else
  some (.inr d_20)

def ref03_Sum (k : Nat) (b_1 : (List UInt8)) : Option (((Vector UInt8 32))) :=
 Option.bind (ref03_begun k) fun (v_3, v_4) =>
 Option.bind (ref03_pad k b_1) fun v_8 =>
 Option.bind (
  loopO (fun s => ref03_Sum.b1 k v_8 v_4 s.1 s.2) k (v_3, (0 : Int))
 ) fun h_18 =>
  Option.bind (
   loopO (fun s => ref03_Sum.b2 k h_18 s.1 s.2) k ((Vector.replicate 32 (0 : UInt8)), (0 : Int))
  ) fun d_35 =>
   some d_35

def ref08_Leaf (k : Nat) (bucket_1 : Int) (b_2 : (List UInt8)) : Option (((Vector UInt8 32))) :=
 lt1 ((UN.ofI bucket_1 : UInt8)) fun v_4 =>
 Option.bind (apL 1 ([(0 : UInt8), v_4] : (List UInt8)) b_2) fun x_6 =>
 Option.bind (ref03_Sum k x_6) fun v_9 =>
 some v_9

def ref08_Empty.b1 (k : Nat) (l_1 : (List (Vector UInt8 32))) (i_2 : Int) : Option (((List (Vector UInt8 32)) × Int) ⊕ (((List (Vector UInt8 32))))) :=
 lt1 (decide (i_2 < (64 : Int))) fun v_5 =>
 if v_5 = true then
  Option.bind (ref08_Leaf k i_2 ([] : (List UInt8))) fun v_6 =>
  Option.bind (apL 32 l_1 ([v_6] : (List (Vector UInt8 32)))) fun l_7 =>
  lt1 (w64 (i_2 + (1 : Int))) fun v_10 =>
  some (.inl (l_7, v_10))
 else
  some (.inr l_1)

def ref08_Empty (k : Nat) : Option (((List (Vector UInt8 32)))) :=
 Option.bind (
  loopO (fun s => ref08_Empty.b1 k s.1 s.2) k (([] : (List (Vector UInt8 32))), (0 : Int))
 ) fun l_11 =>
  some l_11

def law08_set_pov.b1 (k : Nat) (a_1 : (List law08_Step)) (t_7 : merkle_Tree) (x_8 : (List (Vector UInt8 32))) (x_9 : Int) : Option ((merkle_Tree × (List (Vector UInt8 32)) × Int) ⊕ ((merkle_Tree × (List (Vector UInt8 32))) ⊕ ((Bool × merkle_Tree × (List (Vector UInt8 32)))))) :=
 lt1 (decide (x_9 < (List.length a_1 : Int))) fun v_10 =>
 if v_10 = true then
  Option.bind (
   Option.bind (idxL a_1 x_9) fun v_11 =>
   Option.bind (apL 1 ([] : (List UInt8)) v_11.B) fun v_12 =>
   Option.bind (idxL a_1 x_9) fun v_15 =>
   Option.bind (merkle_Tree_Set k v_15.Bucket v_12 t_7) fun (v_16, x_17) =>
   Option.bind (idxL a_1 x_9) fun v_18 =>
   Option.bind (merkle_Leaf k v_18.Bucket v_12) fun (v_19, v_20) =>
   Option.bind (idxL a_1 x_9) fun v_22 =>
   lt1 ((v_12 != v_22.B)) fun v_23 =>
   if v_23 = true then
    some (.inr (false, x_17, x_8))
   else
    Option.bind (
     Option.bind (idxL a_1 x_9) fun v_24 =>
     lt1 (decide (v_24.Bucket < (0 : Int))) fun v_25 =>
     Option.bind (if (!v_25) = true then idxL a_1 x_9 else some default) fun v_26 =>
     lt1 (decide (v_26.Bucket ≥ (64 : Int))) fun v_27 =>
     lt1 (bif v_25 then true else v_27) fun v_28 =>
     some v_28
    ) fun x_29 =>
     if x_29 = true then
      Option.bind (
       Option.bind (law08_num k v_16) fun _ =>
       lt1 ((v_16 != (2 : Int))) fun v_31 =>
       Option.bind (if (!v_31) = true then law08_num k v_20 else some default) fun _ =>
       lt1 ((v_20 != (2 : Int))) fun v_33 =>
       lt1 (bif v_31 then true else v_33) fun v_34 =>
       lt1 ((!((eqV (fun x y => x == y)) v_19 (Vector.replicate 32 (0 : UInt8))))) fun v_35 =>
       lt1 (bif v_34 then true else v_35) fun v_36 =>
       some v_36
      ) fun x_37 =>
       if x_37 = true then
        some (.inr (false, x_17, x_8))
       else
        some (.inl (x_17, x_8))
     else
      Option.bind (idxL a_1 x_9) fun v_38 =>
      Option.bind (idxL a_1 x_9) fun v_39 =>
      Option.bind (idxL a_1 x_9) fun v_40 =>
      Option.bind (ref08_Leaf k v_39.Bucket v_40.B) fun v_41 =>
      Option.bind (inO x_8 v_38.Bucket) fun i_42 =>
      Option.bind (setO' x_8 i_42 v_41) fun x_43 =>
      Option.bind (
       Option.bind (law08_num k v_16) fun _ =>
       Option.bind (law08_num k v_20) fun _ =>
       lt1 (w64 (v_16 + v_20)) fun v_46 =>
       lt1 ((v_46 != (0 : Int))) fun v_47 =>
       if v_47 = true then
        some true
       else
        Option.bind (idxL a_1 x_9) fun v_48 =>
        Option.bind (inO x_43 v_48.Bucket) fun i_49 =>
        Option.bind (x_43[i_49]?) fun v_50 =>
        lt1 ((!((eqV (fun x y => x == y)) v_19 v_50))) fun v_51 =>
        some v_51
      ) fun x_52 =>
       if x_52 = true then
        some (.inr (false, x_17, x_43))
       else
        some (.inl (x_17, x_43))
   : Option ((merkle_Tree × (List (Vector UInt8 32))) ⊕ ((Bool × merkle_Tree × (List (Vector UInt8 32)))))) fun t => match t with
  | (.inl (t_53, x_54)) =>
   lt1 (w64 (x_9 + (1 : Int))) fun v_55 =>
   some (.inl (t_53, x_54, v_55))
  | (.inr q) =>
   some (.inr (.inr q))
 else
  some (.inr (.inl (t_7, x_8)))

def law08_set_pov (k : Nat) (a_1 : (List law08_Step)) (t_2 : merkle_Tree) (x_4 : (List (Vector UInt8 32))) : Option ((Bool × merkle_Tree × (List (Vector UInt8 32)))) :=
 Option.bind (
  Option.bind (loopO (fun s => law08_set_pov.b1 k a_1 s.1 s.2.1 s.2.2) k (t_2, x_4, (0 : Int))) fun t => match t with
  | (.inl (x_56, x_57)) =>
   some (.inl (x_56, x_57))
  | (.inr q) =>
   some (.inr q)
  : Option ((merkle_Tree × (List (Vector UInt8 32))) ⊕ ((Bool × merkle_Tree × (List (Vector UInt8 32)))))) fun t => match t with
 | (.inl (x_58, x_59)) =>
  some (true, x_58, x_59)
 | (.inr q) =>
  some q

def ref08_Nodes.b1 (k : Nat) (leaves_1 : (List (Vector UInt8 32))) (n_4 : (List (Vector UInt8 32))) (i_5 : Int) : Option (((List (Vector UInt8 32)) × Int) ⊕ (((List (Vector UInt8 32))))) :=
 lt1 (decide (i_5 < (64 : Int))) fun v_6 =>
 if v_6 = true then
  lt1 (w64 ((64 : Int) + i_5)) fun v_7 =>
  Option.bind (idxL leaves_1 i_5) fun v_8 =>
  Option.bind (inO n_4 v_7) fun i_9 =>
  Option.bind (setO' n_4 i_9 v_8) fun n_10 =>
  lt1 (w64 (i_5 + (1 : Int))) fun v_11 =>
  some (.inl (n_10, v_11))
 else
  some (.inr n_4)

def ref08_Nodes.b2 (k : Nat) (n_13 : (List (Vector UInt8 32))) (i_14 : Int) : Option (((List (Vector UInt8 32)) × Int) ⊕ (((List (Vector UInt8 32))))) :=
 lt1 (decide (i_14 ≥ (1 : Int))) fun v_15 =>
 if v_15 = true then
  lt1 (w64 ((2 : Int) * i_14)) fun v_16 =>
  Option.bind (inO n_13 v_16) fun i_17 =>
  Option.bind (n_13[i_17]?) fun v_18 =>
  lt1 (w64 ((2 : Int) * i_14)) fun v_19 =>
  lt1 (w64 (v_19 + (1 : Int))) fun v_20 =>
  Option.bind (inO n_13 v_20) fun i_21 =>
  Option.bind (n_13[i_21]?) fun v_22 =>
  Option.bind (subL (Vector.toList v_18) (0 : Int) (32 : Int)) fun v_26 =>
  Option.bind (apL 1 ([(1 : UInt8)] : (List UInt8)) v_26) fun x_27 =>
  Option.bind (subL (Vector.toList v_22) (0 : Int) (32 : Int)) fun v_30 =>
  Option.bind (apL 1 x_27 v_30) fun x_31 =>
  Option.bind (ref03_Sum k x_31) fun v_34 =>
  Option.bind (inO n_13 i_14) fun i_35 =>
  Option.bind (setO' n_13 i_35 v_34) fun n_36 =>
  lt1 (w64 (i_14 - (1 : Int))) fun v_37 =>
  some (.inl (n_36, v_37))
 else
  some (.inr n_13)

def ref08_Nodes (k : Nat) (leaves_1 : (List (Vector UInt8 32))) : Option (((List (Vector UInt8 32)))) :=
 Option.bind (mkL 32 (128 : Int) (Vector.replicate 32 (0 : UInt8))) fun v_2 =>
 Option.bind (
  loopO (fun s => ref08_Nodes.b1 k leaves_1 s.1 s.2) k (v_2, (0 : Int))
 ) fun n_12 =>
  Option.bind (
   loopO (fun s => ref08_Nodes.b2 k s.1 s.2) k (n_12, (63 : Int))
  ) fun n_38 =>
   some n_38

def merkle_Tree_Root (k : Nat) (t_1 : merkle_Tree) : Option (((Vector UInt8 32))) :=
 Option.bind (merkle_Tree_there k t_1) fun _ =>
 lt1 ((!t_1.is)) fun v_5 =>
 if v_5 = true then
  some (Vector.replicate 32 (0 : UInt8))
 else
  Option.bind (inV 128 (1 : Int)) fun i_6 =>
  lt1 ((getV t_1.n i_6)) fun v_7 =>
  some v_7

def ref08_Same_ov.b1 (k : Nat) (a_2 : (List (Vector UInt8 32))) (b_1 : (List (Vector UInt8 32))) (i_6 : Int) : Option ((Int) ⊕ ((Unit) ⊕ ((Bool)))) :=
 lt1 (decide (i_6 < (List.length a_2 : Int))) fun v_7 =>
 if v_7 = true then
  Option.bind (inO a_2 i_6) fun i_8 =>
  Option.bind (a_2[i_8]?) fun v_9 =>
  Option.bind (idxL b_1 i_6) fun v_10 =>
  lt1 ((!((eqV (fun x y => x == y)) v_9 v_10))) fun v_11 =>
  if v_11 = true then
   some (.inr (.inr false))
  else
   lt1 (w64 (i_6 + (1 : Int))) fun v_12 =>
   some (.inl v_12)
 else
  some (.inr (.inl ()))

def ref08_Same_ov (k : Nat) (b_1 : (List (Vector UInt8 32))) (a_2 : (List (Vector UInt8 32))) : Option ((Bool)) :=
 lt1 (((List.length a_2 : Int) != (List.length b_1 : Int))) fun v_5 =>
 if v_5 = true then
  some false
 else
  Option.bind (
   Option.bind (loopO (fun s => ref08_Same_ov.b1 k a_2 b_1 s) k (0 : Int)) fun t => match t with
   | (.inl _) =>
    some (.inl ())
   | (.inr q) =>
    some (.inr q)
   : Option ((Unit) ⊕ ((Bool)))) fun t => match t with
  | (.inl _) =>
   some true
  | (.inr q) =>
   some q

def law08_stands.b1 (k : Nat) (t_2 : merkle_Tree) (v_4 : (List (Vector UInt8 32))) (x_6 : Int) : Option ((Int) ⊕ ((Unit) ⊕ ((Bool)))) :=
 lt1 (decide (x_6 < (130 : Int))) fun v_7 =>
 if v_7 = true then
  Option.bind (
   Option.bind (merkle_Tree_Node k x_6 t_2) fun (v_8, v_9) =>
   Option.bind (
    lt1 (decide (x_6 < (1 : Int))) fun v_11 =>
    lt1 (decide (x_6 > (127 : Int))) fun v_12 =>
    lt1 (bif v_11 then true else v_12) fun v_13 =>
    some v_13
   ) fun x_14 =>
    if x_14 = true then
     Option.bind (
      lt1 ((!((eqV (fun x y => x == y)) v_8 (Vector.replicate 32 (0 : UInt8))))) fun v_15 =>
      Option.bind (if (!v_15) = true then law08_num k v_9 else some default) fun _ =>
      lt1 ((v_9 != (2 : Int))) fun v_17 =>
      lt1 (bif v_15 then true else v_17) fun v_18 =>
      some v_18
     ) fun x_19 =>
      if x_19 = true then
       some (.inr false)
      else
       some (.inl ())
    else
     Option.bind (
      Option.bind (inO v_4 x_6) fun i_20 =>
      Option.bind (v_4[i_20]?) fun v_21 =>
      lt1 ((!((eqV (fun x y => x == y)) v_8 v_21))) fun v_22 =>
      Option.bind (if (!v_22) = true then law08_num k v_9 else some default) fun _ =>
      lt1 ((v_9 != (0 : Int))) fun v_24 =>
      lt1 (bif v_22 then true else v_24) fun v_25 =>
      some v_25
     ) fun x_26 =>
      if x_26 = true then
       some (.inr false)
      else
       some (.inl ())
   : Option ((Unit) ⊕ ((Bool)))) fun t => match t with
  | (.inl _) =>
   lt1 (w64 (x_6 + (1 : Int))) fun v_27 =>
   some (.inl v_27)
  | (.inr q) =>
   some (.inr (.inr q))
 else
  some (.inr (.inl ()))

def law08_stands.b2 (k : Nat) (x_38 : (List (Vector UInt8 32))) (x_39 : Int) : Option (((List (Vector UInt8 32)) × Int) ⊕ ((Unit))) :=
 lt1 (decide (x_39 < (List.length x_38 : Int))) fun v_40 =>
 if v_40 = true then
  Option.bind (inO x_38 x_39) fun i_41 =>
  Option.bind (setO' x_38 i_41 (Vector.replicate 32 (0 : UInt8))) fun x_42 =>
  lt1 (w64 (x_39 + (1 : Int))) fun v_43 =>
  some (.inl (x_42, v_43))
 else
  some (.inr ())

def law08_stands (k : Nat) (a_1 : (List (Vector UInt8 32))) (t_2 : merkle_Tree) : Option ((Bool)) :=
 Option.bind (ref08_Nodes k a_1) fun v_4 =>
 Option.bind (
  Option.bind (loopO (fun s => law08_stands.b1 k t_2 v_4 s) k (-1 : Int)) fun t => match t with
  | (.inl _) =>
   some (.inl ())
  | (.inr q) =>
   some (.inr q)
  : Option ((Unit) ⊕ ((Bool)))) fun t => match t with
 | (.inl _) =>
  Option.bind (merkle_Tree_Leaves k t_2) fun v_28 =>
  Option.bind (
   Option.bind (ref08_Same_ov k a_1 v_28) fun v_31 =>
   lt1 ((!v_31)) fun v_32 =>
   if v_32 = true then
    some true
   else
    Option.bind (merkle_Tree_Root k t_2) fun v_33 =>
    Option.bind (inO v_4 (1 : Int)) fun i_34 =>
    Option.bind (v_4[i_34]?) fun v_35 =>
    lt1 ((!((eqV (fun x y => x == y)) v_33 v_35))) fun v_36 =>
    some v_36
  ) fun x_37 =>
   if x_37 = true then
    some false
   else
    Option.bind (
     loopO (fun s => law08_stands.b2 k s.1 s.2) k (v_28, (0 : Int))
    ) fun _ =>
     Option.bind (merkle_Tree_Leaves k t_2) fun v_44 =>
     Option.bind (ref08_Same_ov k a_1 v_44) fun v_47 =>
     some v_47
 | (.inr q) =>
  some q

def merkle_Tree_Copy (k : Nat) (t_1 : merkle_Tree) : Option ((Unit) ⊕ (Unit)) :=
 Option.bind (merkle_Tree_there k t_1) fun _ =>
 lt1 ((!t_1.is)) fun v_4 =>
 if v_4 = true then
  some (.inr ())
 else
  some (.inl ())

def ref08_Same_ov'2.b1 (k : Nat) (a_2 : (List (Vector UInt8 32))) (b_1 : (List (Vector UInt8 32))) (i_6 : Int) : Option ((Int) ⊕ ((Unit) ⊕ ((Bool)))) :=
 lt1 (decide (i_6 < (List.length a_2 : Int))) fun v_7 =>
 if v_7 = true then
  Option.bind (inO a_2 i_6) fun i_8 =>
  Option.bind (a_2[i_8]?) fun v_9 =>
  Option.bind (idxL b_1 i_6) fun v_10 =>
  lt1 ((!((eqV (fun x y => x == y)) v_9 v_10))) fun v_11 =>
  if v_11 = true then
   some (.inr (.inr false))
  else
   lt1 (w64 (i_6 + (1 : Int))) fun v_12 =>
   some (.inl v_12)
 else
  some (.inr (.inl ()))

def ref08_Same_ov'2 (k : Nat) (b_1 : (List (Vector UInt8 32))) (a_2 : (List (Vector UInt8 32))) : Option ((Bool)) :=
 lt1 (((List.length a_2 : Int) != (List.length b_1 : Int))) fun v_5 =>
 if v_5 = true then
  some false
 else
  Option.bind (
   Option.bind (loopO (fun s => ref08_Same_ov'2.b1 k a_2 b_1 s) k (0 : Int)) fun t => match t with
   | (.inl _) =>
    some (.inl ())
   | (.inr q) =>
    some (.inr q)
   : Option ((Unit) ⊕ ((Bool)))) fun t => match t with
  | (.inl _) =>
   some true
  | (.inr q) =>
   some q

def law08_MerklePlays (k : Nat) (t_1 : (List law08_Step)) (a_2 : (List law08_Step)) : Option ((Bool)) :=
 Option.bind (
  Option.bind (law08_much k t_1) fun v_3 =>
  Option.bind (if (!v_3) = true then law08_much k a_2 else some default) fun v_4 =>
  lt1 (bif v_3 then true else v_4) fun v_5 =>
  some v_5
 ) fun x_6 =>
  if x_6 = true then
   Option.bind (law08_known k) fun v_7 =>
   some v_7
  else
   Option.bind (merkle_New k) fun t => match t with
   | (.inl v_8) =>
    Option.bind (ref08_Empty k) fun v_10 =>
    Option.bind (
     Option.bind (keepL (List.length v_10) (fun q => q.2.2) (law08_set_pov k t_1 v_8 v_10)) fun (v_13, x_14, x_15) =>
     lt1 ((!v_13)) fun v_16 =>
     if v_16 = true then
      some (x_14, x_15, true)
     else
      Option.bind (law08_stands k x_15 x_14) fun v_17 =>
      lt1 ((!v_17)) fun v_18 =>
      some (x_14, x_15, v_18)
    ) fun (x_19, x_20, x_21) =>
     if x_21 = true then
      some false
     else
      Option.bind (merkle_Tree_Copy k x_19) fun t => match t with
      | (.inl _) =>
       Option.bind (apL 32 ([] : (List (Vector UInt8 32))) x_20) fun v_23 =>
       Option.bind (
        Option.bind (keepL (List.length v_23) (fun q => q.2.2) (law08_set_pov k a_2 x_19 v_23)) fun (v_26, x_27, x_28) =>
        if v_26 = true then
         Option.bind (law08_stands k x_28 x_27) fun v_29 =>
         if v_29 = true then
          Option.bind (law08_stands k x_20 x_19) fun v_30 =>
          if v_30 = true then
           Option.bind (merkle_Tree_Same k x_27 x_19) fun v_31 =>
           Option.bind (ref08_Same_ov'2 k x_20 x_28) fun v_32 =>
           lt1 ((v_31 == v_32)) fun v_33 =>
           Option.bind (if v_33 = true then law08_known k else some default) fun v_34 =>
           lt1 (bif v_33 then v_34 else false) fun v_35 =>
           some v_35
          else
           some false
         else
          some false
        else
         some false
       ) fun x_36 =>
        some x_36
      | (.inr _) =>
       Option.bind (apL 32 ([] : (List (Vector UInt8 32))) x_20) fun v_37 =>
       Option.bind (
        some ()
       ) fun _ =>
        some false
   | (.inr _) =>
    Option.bind (ref08_Empty k) fun v_40 =>
    Option.bind (
     some ()
    ) fun _ =>
     some false

end
end Go.Proofs.Ytbflmobpbjnekaa
