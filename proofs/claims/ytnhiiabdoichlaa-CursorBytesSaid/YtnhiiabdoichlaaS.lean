/- The functions as plain Lean functions: no program and no memory here. -/
import Derived.Test.YtnhiiabdoichlaaFp
namespace Go.Proofs.Ytnhiiabdoichlaa
open Fw
set_option linter.unusedVariables false
noncomputable section

structure sha_state where
  h : (Vector UInt32 8)
  k : (Vector UInt32 64)
  deriving DecidableEq, Inhabited

def eq_sha_state (x y : sha_state) : Bool := ((eqV (fun x y => x == y)) x.h y.h && ((eqV (fun x y => x == y)) x.k y.k && true))
theorem eq_sha_state_iff {x y : sha_state} : eq_sha_state x y = true ↔ x = y := by
  cases x; cases y; simp [eq_sha_state, eqV_iff (fun _ _ => beq_iff_eq), eqV_iff (fun _ _ => beq_iff_eq)]

structure wire_Reader where
  rest : (List UInt8)
  is : Bool
  made : Bool
  deriving DecidableEq, Inhabited

def cursor_mayDevice (k : Nat) (s_1 : (List UInt8)) : Option ((Bool)) :=
 Option.bind (
  lt1 (decide ((List.length s_1 : Int) ≥ (1 : Int))) fun v_2 =>
  lt1 (decide ((List.length s_1 : Int) ≤ (32 : Int))) fun v_3 =>
  lt1 (bif v_2 then v_3 else false) fun v_4 =>
  some v_4
 ) fun x_5 =>
  some x_5

def cursor_May.b1 (k : Nat) (v_1 : (Vector UInt64 16)) (good_3 : Bool) (x_4 : Int) : Option ((Bool × Int) ⊕ ((Bool))) :=
 lt1 (decide (x_4 < (16 : Int))) fun v_5 =>
 if v_5 = true then
  Option.bind (idxV v_1 x_4) fun v_6 =>
  lt1 (decide (v_6 ≤ (4611686018427387904 : UInt64))) fun v_7 =>
  lt1 ((!v_7)) fun v_8 =>
  if v_8 = true then
   some (.inr v_7)
  else
   lt1 (w64 (x_4 + (1 : Int))) fun v_9 =>
   some (.inl (v_7, v_9))
 else
  some (.inr good_3)

def cursor_May (k : Nat) (v_1 : (Vector UInt64 16)) : Option ((Bool)) :=
 Option.bind (
  loopO (fun s => cursor_May.b1 k v_1 s.1 s.2) k (true, (0 : Int))
 ) fun good_10 =>
  some good_10

def wire_Put.b1 (k : Nat) (size_2 : Int) (n_1 : UInt64) (b_13 : (List UInt8)) (x_14 : Int) : Option (((List UInt8) × Int) ⊕ (((List UInt8)))) :=
 lt1 (decide (x_14 < size_2)) fun v_17 =>
 if v_17 = true then
  lt1 (w64 (size_2 - (1 : Int))) fun v_18 =>
  lt1 (w64 (v_18 - x_14)) fun v_19 =>
  lt1 (w64 ((8 : Int) * v_19)) fun v_20 =>
  Option.bind (shrU n_1 v_20) fun v_21 =>
  lt1 ((UN.to v_21 : UInt8)) fun v_22 =>
  Option.bind (apL 1 b_13 ([v_22] : (List UInt8))) fun b_23 =>
  lt1 (w64 (x_14 + (1 : Int))) fun v_26 =>
  some (.inl (b_23, v_26))
 else
  some (.inr b_13)

def wire_Put (k : Nat) (n_1 : UInt64) (size_2 : Int) : Option (((List UInt8) × Int)) :=
 Option.bind (
  lt1 (decide (size_2 < (1 : Int))) fun v_3 =>
  lt1 (decide (size_2 > (8 : Int))) fun v_4 =>
  lt1 (bif v_3 then true else v_4) fun v_5 =>
  lt1 (decide (size_2 < (8 : Int))) fun v_6 =>
  lt1 (w64 ((8 : Int) * size_2)) fun v_7 =>
  Option.bind (if ((!v_5) && v_6) = true then shrU n_1 v_7 else some default) fun v_8 =>
  lt1 ((!(v_8 == (0 : UInt64)))) fun v_9 =>
  lt1 (bif v_6 then v_9 else false) fun v_10 =>
  lt1 (bif v_5 then true else v_10) fun v_11 =>
  some v_11
 ) fun x_12 =>
  if x_12 = true then
   some (([] : (List UInt8)), (2 : Int))
  else
   Option.bind (
    loopO (fun s => wire_Put.b1 k size_2 n_1 s.1 s.2) k (([] : (List UInt8)), (0 : Int))
   ) fun b_27 =>
    some (b_27, (0 : Int))

def wire_Vector.b1 (k : Nat) (v_1 : (Vector UInt64 16)) (b_3 : (List UInt8)) (x_4 : Int) : Option (((List UInt8) × Int) ⊕ (((List UInt8)))) :=
 lt1 (decide (x_4 < (16 : Int))) fun v_7 =>
 if v_7 = true then
  Option.bind (idxV v_1 x_4) fun v_8 =>
  Option.bind (wire_Put k v_8 (8 : Int)) fun (v_9, v_10) =>
  Option.bind (apL 1 b_3 v_9) fun b_13 =>
  lt1 (w64 (x_4 + (1 : Int))) fun v_16 =>
  some (.inl (b_13, v_16))
 else
  some (.inr b_3)

def wire_Vector (k : Nat) (v_1 : (Vector UInt64 16)) : Option (((List UInt8))) :=
 Option.bind (
  loopO (fun s => wire_Vector.b1 k v_1 s.1 s.2) k (([] : (List UInt8)), (0 : Int))
 ) fun b_17 =>
  some b_17

def wire_Blob (k : Nat) (b_1 : (List UInt8)) : Option (((List UInt8) × Int)) :=
 lt1 (decide ((List.length b_1 : Int) > (65535 : Int))) fun v_2 =>
 if v_2 = true then
  some (([] : (List UInt8)), (3 : Int))
 else
  lt1 ((UN.ofI (List.length b_1 : Int) : UInt64)) fun v_3 =>
  Option.bind (wire_Put k v_3 (2 : Int)) fun (v_4, v_5) =>
  Option.bind (apL 1 v_4 b_1) fun n_8 =>
  some (n_8, (0 : Int))

def sha_primes_1 (k : Nat) (p_1 : UInt64) (x_2 : UInt64) : Option ((Bool)) :=
 Option.bind (modU x_2 p_1) fun v_4 =>
 lt1 ((v_4 == (0 : UInt64))) fun v_5 =>
 some v_5

def slices_IndexFuncuint64_uint64.b1 (k : Nat) (s_1 : (List UInt64)) (x_2 : UInt64) (x_4 : Int) : Option ((Int) ⊕ ((Unit) ⊕ ((Int)))) :=
 lt1 (decide (x_4 < (List.length s_1 : Int))) fun v_5 =>
 if v_5 = true then
  Option.bind (idxL s_1 x_4) fun v_6 =>
  Option.bind (sha_primes_1 k v_6 x_2) fun v_7 =>
  if v_7 = true then
   some (.inr (.inr x_4))
  else
   lt1 (w64 (x_4 + (1 : Int))) fun v_8 =>
   some (.inl v_8)
 else
  some (.inr (.inl ()))

def slices_IndexFuncuint64_uint64 (k : Nat) (s_1 : (List UInt64)) (x_2 : UInt64) : Option ((Int)) :=
 Option.bind (
  Option.bind (loopO (fun s => slices_IndexFuncuint64_uint64.b1 k s_1 x_2 s) k (0 : Int)) fun t => match t with
  | (.inl _) =>
   some (.inl ())
  | (.inr q) =>
   some (.inr q)
  : Option ((Unit) ⊕ ((Int)))) fun t => match t with
 | (.inl _) =>
  some (-1 : Int)
 | (.inr q) =>
  some q

def slices_ContainsFuncuint64_uint64 (k : Nat) (s_1 : (List UInt64)) (x_2 : UInt64) : Option ((Bool)) :=
 Option.bind (slices_IndexFuncuint64_uint64 k s_1 x_2) fun v_4 =>
 lt1 (decide (v_4 ≥ (0 : Int))) fun v_5 =>
 some v_5

def sha_primes.b1 (k : Nat) (l_2 : (List UInt64)) (n_3 : UInt64) : Option (((List UInt64) × UInt64) ⊕ (((List UInt64)))) :=
 lt1 (decide ((List.length l_2 : Int) < (64 : Int))) fun v_7 =>
 if v_7 = true then
  Option.bind (
   Option.bind (slices_ContainsFuncuint64_uint64 k l_2 n_3) fun v_8 =>
   lt1 ((!v_8)) fun v_9 =>
   if v_9 = true then
    Option.bind (apL 8 l_2 ([n_3] : (List UInt64))) fun x_10 =>
    some x_10
   else
    some l_2
  ) fun l_13 =>
   lt1 ((n_3 + (1 : UInt64))) fun v_17 =>
   some (.inl (l_13, v_17))
 else
  some (.inr l_2)

def sha_primes (k : Nat) : Option (((List UInt64))) :=
 Option.bind (
  loopO (fun s => sha_primes.b1 k s.1 s.2) k (([] : (List UInt64)), (2 : UInt64))
 ) fun l_18 =>
  some l_18

def math_bits_Mul64 (k : Nat) (x_1 : UInt64) (y_2 : UInt64) : Option ((UInt64 × UInt64)) :=
 lt1 ((x_1 &&& (4294967295 : UInt64))) fun v_3 =>
 lt1 (UN.shr x_1 (UN.toN (32 : UInt64))) fun v_4 =>
 lt1 ((y_2 &&& (4294967295 : UInt64))) fun v_5 =>
 lt1 (UN.shr y_2 (UN.toN (32 : UInt64))) fun v_6 =>
 lt1 ((v_3 * v_5)) fun v_7 =>
 lt1 ((v_4 * v_5)) fun v_8 =>
 lt1 (UN.shr v_7 (UN.toN (32 : UInt64))) fun v_9 =>
 lt1 ((v_8 + v_9)) fun v_10 =>
 lt1 ((v_10 &&& (4294967295 : UInt64))) fun v_11 =>
 lt1 (UN.shr v_10 (UN.toN (32 : UInt64))) fun v_12 =>
 lt1 ((v_3 * v_6)) fun v_13 =>
 lt1 ((v_11 + v_13)) fun v_14 =>
 lt1 ((v_4 * v_6)) fun v_15 =>
 lt1 ((v_15 + v_12)) fun v_16 =>
 lt1 (UN.shr v_14 (UN.toN (32 : UInt64))) fun v_17 =>
 lt1 ((v_16 + v_17)) fun v_18 =>
 lt1 ((x_1 * y_2)) fun v_19 =>
 some (v_18, v_19)

def sha_square (k : Nat) (x_1 : UInt64) : Option (((Vector UInt64 2))) :=
 Option.bind (math_bits_Mul64 k x_1 x_1) fun (v_3, v_4) =>
 some (#v[v_3, v_4] : (Vector UInt64 2))

def sha_cube (k : Nat) (x_1 : UInt64) : Option (((Vector UInt64 2) × Bool)) :=
 Option.bind (sha_square k x_1) fun v_3 =>
 Option.bind (inV 2 (1 : Int)) fun i_5 =>
 lt1 ((getV v_3 i_5)) fun v_6 =>
 Option.bind (math_bits_Mul64 k v_6 x_1) fun (v_7, v_8) =>
 Option.bind (inV 2 (0 : Int)) fun i_9 =>
 lt1 ((getV v_3 i_9)) fun v_10 =>
 Option.bind (math_bits_Mul64 k v_10 x_1) fun (v_11, v_12) =>
 Option.bind (add64 v_12 v_7 (0 : UInt64)) fun (s_13, o_14) =>
 lt1 ((v_11 + o_14)) fun v_15 =>
 lt1 (UN.shl v_15 (UN.toN (32 : UInt64))) fun v_16 =>
 lt1 (UN.shr s_13 (UN.toN (32 : UInt64))) fun v_17 =>
 lt1 ((v_16 ||| v_17)) fun v_18 =>
 lt1 (UN.shl s_13 (UN.toN (32 : UInt64))) fun v_19 =>
 lt1 (UN.shr v_8 (UN.toN (32 : UInt64))) fun v_20 =>
 lt1 ((v_19 ||| v_20)) fun v_21 =>
 lt1 (UN.shl v_8 (UN.toN (32 : UInt64))) fun v_22 =>
 lt1 ((!(v_22 == (0 : UInt64)))) fun v_23 =>
 some ((#v[v_18, v_21] : (Vector UInt64 2)), v_23)

def sha_above (k : Nat) (x_1 : (Vector UInt64 2)) (lost_2 : Bool) (p_3 : UInt64) : Option ((Bool)) :=
 Option.bind (
  Option.bind (inV 2 (0 : Int)) fun i_5 =>
  lt1 ((getV x_1 i_5)) fun v_6 =>
  lt1 (decide (p_3 < v_6)) fun v_7 =>
  if v_7 = true then
   some true
  else
   Option.bind (inV 2 (0 : Int)) fun i_8 =>
   lt1 ((getV x_1 i_8)) fun v_9 =>
   lt1 ((v_9 == p_3)) fun v_10 =>
   if v_10 = true then
    Option.bind (inV 2 (1 : Int)) fun i_11 =>
    lt1 ((getV x_1 i_11)) fun v_12 =>
    lt1 (decide ((0 : UInt64) < v_12)) fun v_13 =>
    lt1 (bif v_13 then true else lost_2) fun v_14 =>
    some v_14
   else
    some false
 ) fun x_15 =>
  some x_15

def sha_constant_1 (k : Nat) (x_1 : UInt64) (x_2 : UInt64) : Option ((Bool)) :=
 Option.bind (sha_cube k x_1) fun (v_4, v_5) =>
 Option.bind (sha_above k v_4 v_5 x_2) fun v_7 =>
 some v_7

def sha_root.b1 (k : Nat) (x_1 : UInt64) (x_3 : UInt64) (x_4 : Int) : Option ((UInt64 × Int) ⊕ ((UInt64))) :=
 lt1 (decide (x_4 < (38 : Int))) fun v_5 =>
 if v_5 = true then
  Option.bind (
   lt1 (w64 ((37 : Int) - x_4)) fun v_6 =>
   Option.bind (shlU (1 : UInt64) v_6) fun v_7 =>
   lt1 ((x_3 ||| v_7)) fun v_8 =>
   Option.bind (sha_constant_1 k v_8 x_1) fun v_9 =>
   lt1 ((!v_9)) fun v_10 =>
   if v_10 = true then
    some v_8
   else
    some x_3
  ) fun x_11 =>
   lt1 (w64 (x_4 + (1 : Int))) fun v_12 =>
   some (.inl (x_11, v_12))
 else
  some (.inr x_3)

def sha_root (k : Nat) (x_1 : UInt64) : Option ((UInt32)) :=
 Option.bind (
  loopO (fun s => sha_root.b1 k x_1 s.1 s.2) k ((0 : UInt64), (0 : Int))
 ) fun x_13 =>
  lt1 ((UN.to x_13 : UInt32)) fun v_14 =>
  some v_14

def sha_constant (k : Nat) (p_1 : UInt64) : Option ((UInt32)) :=
 Option.bind (sha_root k p_1) fun v_3 =>
 some v_3

def sha_start_1 (k : Nat) (x_1 : UInt64) (x_2 : UInt64) : Option ((Bool)) :=
 Option.bind (sha_square k x_1) fun v_4 =>
 Option.bind (sha_above k v_4 false x_2) fun v_5 =>
 some v_5

def sha_root'2.b1 (k : Nat) (x_1 : UInt64) (x_3 : UInt64) (x_4 : Int) : Option ((UInt64 × Int) ⊕ ((UInt64))) :=
 lt1 (decide (x_4 < (38 : Int))) fun v_5 =>
 if v_5 = true then
  Option.bind (
   lt1 (w64 ((37 : Int) - x_4)) fun v_6 =>
   Option.bind (shlU (1 : UInt64) v_6) fun v_7 =>
   lt1 ((x_3 ||| v_7)) fun v_8 =>
   Option.bind (sha_start_1 k v_8 x_1) fun v_9 =>
   lt1 ((!v_9)) fun v_10 =>
   if v_10 = true then
    some v_8
   else
    some x_3
  ) fun x_11 =>
   lt1 (w64 (x_4 + (1 : Int))) fun v_12 =>
   some (.inl (x_11, v_12))
 else
  some (.inr x_3)

def sha_root'2 (k : Nat) (x_1 : UInt64) : Option ((UInt32)) :=
 Option.bind (
  loopO (fun s => sha_root'2.b1 k x_1 s.1 s.2) k ((0 : UInt64), (0 : Int))
 ) fun x_13 =>
  lt1 ((UN.to x_13 : UInt32)) fun v_14 =>
  some v_14

def sha_start (k : Nat) (p_1 : UInt64) : Option ((UInt32)) :=
 Option.bind (sha_root'2 k p_1) fun v_3 =>
 some v_3

def sha_begun.b1 (k : Nat) (v_3 : (List UInt64)) (s_6 : sha_state) (x_7 : Int) : Option ((sha_state × Int) ⊕ ((sha_state))) :=
 lt1 (decide (x_7 < (List.length v_3 : Int))) fun v_8 =>
 if v_8 = true then
  Option.bind (
   Option.bind (inO v_3 x_7) fun i_9 =>
   Option.bind (v_3[i_9]?) fun v_10 =>
   Option.bind (sha_constant k v_10) fun v_11 =>
   Option.bind (inV 64 x_7) fun i_12 =>
   lt1 ({ s_6 with k := (putV s_6.k i_12 v_11) }) fun s_13 =>
   lt1 (decide (x_7 < (8 : Int))) fun v_14 =>
   if v_14 = true then
    Option.bind (sha_start k v_10) fun v_15 =>
    Option.bind (inV 8 x_7) fun i_16 =>
    lt1 ({ s_13 with h := (putV s_13.h i_16 v_15) }) fun s_17 =>
    some s_17
   else
    some s_13
  ) fun s_18 =>
   lt1 (w64 (x_7 + (1 : Int))) fun v_19 =>
   some (.inl (s_18, v_19))
 else
  some (.inr s_6)

def sha_begun (k : Nat) : Option ((sha_state)) :=
 Option.bind (
  Option.bind (sha_primes k) fun v_3 =>
  loopO (fun s => sha_begun.b1 k v_3 s.1 s.2) k ((sha_state.mk (Vector.replicate 8 (0 : UInt32)) (Vector.replicate 64 (0 : UInt32))), (0 : Int))
 ) fun s_20 =>
  some s_20

def slices_Growbyte_byte (k : Nat) (n_1 : Int) : Option ((Unit)) :=
 Option.bind (
  lt1 (decide (n_1 < (0 : Int))) fun v_2 =>
  if v_2 = true then
   none
  else
   some ()
 ) fun _ =>
  Option.bind (
   lt1 (w64 ((0 : Int) - (0 : Int))) fun v_3 =>
   lt1 (w64 (n_1 - v_3)) fun v_4 =>
   lt1 (decide (v_4 > (0 : Int))) fun v_5 =>
   if v_5 = true then
    Option.bind (apZ 1 ([] : (List UInt8)) v_4 (0 : UInt8)) fun v_6 =>
    some ()
   else
    some ()
  ) fun _ =>
   some ()

def slices_Concatbyte_byte.b1 (k : Nat) (slices_1 : (List (List UInt8))) (size_2 : Int) (x_3 : Int) : Option ((Int × Int) ⊕ ((Int))) :=
 lt1 (decide (x_3 < (List.length slices_1 : Int))) fun v_4 =>
 if v_4 = true then
  Option.bind (
   Option.bind (idxL slices_1 x_3) fun v_5 =>
   lt1 (w64 (size_2 + (List.length v_5 : Int))) fun v_6 =>
   lt1 (decide (v_6 < (0 : Int))) fun v_7 =>
   if v_7 = true then
    none
   else
    some v_6
  ) fun size_8 =>
   lt1 (w64 (x_3 + (1 : Int))) fun v_9 =>
   some (.inl (size_8, v_9))
 else
  some (.inr size_2)

def slices_Concatbyte_byte.b2 (k : Nat) (slices_1 : (List (List UInt8))) (newslice_14 : (List UInt8)) (x_15 : Int) : Option (((List UInt8) × Int) ⊕ (((List UInt8)))) :=
 lt1 (decide (x_15 < (List.length slices_1 : Int))) fun v_18 =>
 if v_18 = true then
  Option.bind (idxL slices_1 x_15) fun v_19 =>
  Option.bind (apL 1 newslice_14 v_19) fun newslice_20 =>
  lt1 (w64 (x_15 + (1 : Int))) fun v_23 =>
  some (.inl (newslice_20, v_23))
 else
  some (.inr newslice_14)

def slices_Concatbyte_byte (k : Nat) (slices_1 : (List (List UInt8))) : Option (((List UInt8))) :=
 Option.bind (
  loopO (fun s => slices_Concatbyte_byte.b1 k slices_1 s.1 s.2) k ((0 : Int), (0 : Int))
 ) fun size_10 =>
  Option.bind (slices_Growbyte_byte k size_10) fun _ =>
  Option.bind (
   loopO (fun s => slices_Concatbyte_byte.b2 k slices_1 s.1 s.2) k (([] : (List UInt8)), (0 : Int))
  ) fun newslice_24 =>
   some newslice_24

def math_bits_RotateLeft32 (k : Nat) (x_1 : UInt32) (k_2 : Int) : Option ((UInt32)) :=
 lt1 ((UN.ofI k_2 : UInt64)) fun v_3 =>
 lt1 ((v_3 &&& (31 : UInt64))) fun v_4 =>
 lt1 (UN.shl x_1 (UN.toN v_4)) fun v_5 =>
 lt1 (((32 : UInt64) - v_4)) fun v_6 =>
 lt1 (UN.shr x_1 (UN.toN v_6)) fun v_7 =>
 lt1 ((v_5 ||| v_7)) fun v_8 =>
 some v_8

def sha_state_press_1.b1 (k : Nat) (l_2 : (List Int)) (x_1 : UInt32) (y_3 : UInt32) (x_4 : Int) : Option ((UInt32 × Int) ⊕ ((UInt32))) :=
 lt1 (decide (x_4 < (List.length l_2 : Int))) fun v_5 =>
 if v_5 = true then
  Option.bind (idxL l_2 x_4) fun v_6 =>
  lt1 (w64 (0 - v_6)) fun v_7 =>
  Option.bind (math_bits_RotateLeft32 k x_1 v_7) fun v_8 =>
  lt1 ((y_3 ^^^ v_8)) fun v_9 =>
  lt1 (w64 (x_4 + (1 : Int))) fun v_10 =>
  some (.inl (v_9, v_10))
 else
  some (.inr y_3)

def sha_state_press_1 (k : Nat) (x_1 : UInt32) (l_2 : (List Int)) : Option ((UInt32)) :=
 Option.bind (
  loopO (fun s => sha_state_press_1.b1 k l_2 x_1 s.1 s.2) k ((0 : UInt32), (0 : Int))
 ) fun y_11 =>
  some y_11

def sha_state_press.b2 (k : Nat) (v_11 : (List UInt8)) (x_6 : Int) (x_12 : (Vector UInt32 64)) (x_13 : Int) : Option (((Vector UInt32 64) × Int) ⊕ (((Vector UInt32 64)))) :=
 lt1 (decide (x_13 < (List.length v_11 : Int))) fun v_14 =>
 if v_14 = true then
  Option.bind (idxL v_11 x_13) fun v_15 =>
  Option.bind (inV 64 x_6) fun i_16 =>
  lt1 ((getV x_12 i_16)) fun v_17 =>
  lt1 (UN.shl v_17 (UN.toN (8 : UInt64))) fun v_18 =>
  lt1 ((UN.to v_15 : UInt32)) fun v_19 =>
  lt1 ((v_18 ||| v_19)) fun v_20 =>
  Option.bind (inV 64 x_6) fun i_21 =>
  lt1 ((putV x_12 i_21 v_20)) fun x_22 =>
  lt1 (w64 (x_13 + (1 : Int))) fun v_23 =>
  some (.inl (x_22, v_23))
 else
  some (.inr x_12)

def sha_state_press.b1 (k : Nat) (a_1 : (List UInt8)) (x_5 : (Vector UInt32 64)) (x_6 : Int) : Option (((Vector UInt32 64) × Int) ⊕ (((Vector UInt32 64)))) :=
 lt1 (decide (x_6 < (16 : Int))) fun v_7 =>
 if v_7 = true then
  Option.bind (
   lt1 (w64 ((4 : Int) * x_6)) fun v_8 =>
   lt1 (w64 ((4 : Int) * x_6)) fun v_9 =>
   lt1 (w64 (v_9 + (4 : Int))) fun v_10 =>
   Option.bind (subL a_1 v_8 v_10) fun v_11 =>
   loopO (fun s => sha_state_press.b2 k v_11 x_6 s.1 s.2) k (x_5, (0 : Int))
  ) fun x_24 =>
   lt1 (w64 (x_6 + (1 : Int))) fun v_25 =>
   some (.inl (x_24, v_25))
 else
  some (.inr x_5)

def sha_state_press.b3 (k : Nat) (x_27 : (Vector UInt32 64)) (x_28 : Int) : Option (((Vector UInt32 64) × Int) ⊕ (((Vector UInt32 64)))) :=
 lt1 (decide (x_28 < (64 : Int))) fun v_29 =>
 if v_29 = true then
  lt1 (w64 (x_28 - (15 : Int))) fun v_30 =>
  Option.bind (inV 64 v_30) fun i_31 =>
  lt1 ((getV x_27 i_31)) fun v_32 =>
  lt1 (w64 (x_28 - (2 : Int))) fun v_33 =>
  Option.bind (inV 64 v_33) fun i_34 =>
  lt1 ((getV x_27 i_34)) fun v_35 =>
  lt1 (w64 (x_28 - (16 : Int))) fun v_36 =>
  Option.bind (inV 64 v_36) fun i_37 =>
  lt1 ((getV x_27 i_37)) fun v_38 =>
  Option.bind (sha_state_press_1 k v_32 ([(7 : Int), (18 : Int)] : (List Int))) fun v_39 =>
  lt1 (UN.shr v_32 (UN.toN (3 : UInt64))) fun v_40 =>
  lt1 ((v_39 ^^^ v_40)) fun v_41 =>
  lt1 ((v_38 + v_41)) fun v_42 =>
  lt1 (w64 (x_28 - (7 : Int))) fun v_43 =>
  Option.bind (inV 64 v_43) fun i_44 =>
  lt1 ((getV x_27 i_44)) fun v_45 =>
  lt1 ((v_42 + v_45)) fun v_46 =>
  Option.bind (sha_state_press_1 k v_35 ([(17 : Int), (19 : Int)] : (List Int))) fun v_47 =>
  lt1 (UN.shr v_35 (UN.toN (10 : UInt64))) fun v_48 =>
  lt1 ((v_47 ^^^ v_48)) fun v_49 =>
  lt1 ((v_46 + v_49)) fun v_50 =>
  Option.bind (inV 64 x_28) fun i_51 =>
  lt1 ((putV x_27 i_51 v_50)) fun x_52 =>
  lt1 (w64 (x_28 + (1 : Int))) fun v_53 =>
  some (.inl (x_52, v_53))
 else
  some (.inr x_27)

def sha_state_press.b4 (k : Nat) (t_2 : sha_state) (x_54 : (Vector UInt32 64)) (x_71 : UInt32) (x_72 : UInt32) (x_73 : UInt32) (x_74 : UInt32) (x_75 : UInt32) (x_76 : UInt32) (x_77 : UInt32) (x_78 : UInt32) (x_79 : Int) : Option ((UInt32 × UInt32 × UInt32 × UInt32 × UInt32 × UInt32 × UInt32 × UInt32 × Int) ⊕ ((UInt32 × UInt32 × UInt32 × UInt32 × UInt32 × UInt32 × UInt32 × UInt32))) :=
 lt1 (decide (x_79 < (64 : Int))) fun v_80 =>
 if v_80 = true then
  Option.bind (sha_state_press_1 k x_75 ([(6 : Int), (11 : Int), (25 : Int)] : (List Int))) fun v_81 =>
  lt1 ((x_78 + v_81)) fun v_82 =>
  lt1 ((x_75 &&& x_76)) fun v_83 =>
  lt1 ((UN.not x_75)) fun v_84 =>
  lt1 ((v_84 &&& x_77)) fun v_85 =>
  lt1 ((v_83 ^^^ v_85)) fun v_86 =>
  lt1 ((v_82 + v_86)) fun v_87 =>
  Option.bind (inV 64 x_79) fun i_88 =>
  lt1 ((getV t_2.k i_88)) fun v_89 =>
  lt1 ((v_87 + v_89)) fun v_90 =>
  Option.bind (inV 64 x_79) fun i_91 =>
  lt1 ((getV x_54 i_91)) fun v_92 =>
  lt1 ((v_90 + v_92)) fun v_93 =>
  Option.bind (sha_state_press_1 k x_71 ([(2 : Int), (13 : Int), (22 : Int)] : (List Int))) fun v_94 =>
  lt1 ((x_71 &&& x_72)) fun v_95 =>
  lt1 ((x_71 &&& x_73)) fun v_96 =>
  lt1 ((v_95 ^^^ v_96)) fun v_97 =>
  lt1 ((x_72 &&& x_73)) fun v_98 =>
  lt1 ((v_97 ^^^ v_98)) fun v_99 =>
  lt1 ((v_94 + v_99)) fun v_100 =>
  lt1 ((v_93 + v_100)) fun v_101 =>
  lt1 ((x_74 + v_93)) fun v_102 =>
  lt1 (w64 (x_79 + (1 : Int))) fun v_103 =>
  some (.inl (v_101, x_71, x_72, x_73, v_102, x_75, x_76, x_77, v_103))
 else
  some (.inr (x_71, x_72, x_73, x_74, x_75, x_76, x_77, x_78))

def sha_state_press.b5 (k : Nat) (x_104 : UInt32) (x_105 : UInt32) (x_106 : UInt32) (x_107 : UInt32) (x_108 : UInt32) (x_109 : UInt32) (x_110 : UInt32) (x_111 : UInt32) (t_112 : sha_state) (x_113 : Int) : Option ((sha_state × Int) ⊕ ((sha_state))) :=
 lt1 (decide (x_113 < (8 : Int))) fun v_114 =>
 if v_114 = true then
  Option.bind (idxV (#v[x_104, x_105, x_106, x_107, x_108, x_109, x_110, x_111] : (Vector UInt32 8)) x_113) fun v_115 =>
  Option.bind (inV 8 x_113) fun i_116 =>
  lt1 ((getV t_112.h i_116)) fun v_117 =>
  lt1 ((v_117 + v_115)) fun v_118 =>
  Option.bind (inV 8 x_113) fun i_119 =>
  lt1 ({ t_112 with h := (putV t_112.h i_119 v_118) }) fun t_120 =>
  lt1 (w64 (x_113 + (1 : Int))) fun v_121 =>
  some (.inl (t_120, v_121))
 else
  some (.inr t_112)

def sha_state_press (k : Nat) (a_1 : (List UInt8)) (t_2 : sha_state) : Option ((sha_state)) :=
 Option.bind (
  loopO (fun s => sha_state_press.b1 k a_1 s.1 s.2) k ((Vector.replicate 64 (0 : UInt32)), (0 : Int))
 ) fun x_26 =>
  Option.bind (
   loopO (fun s => sha_state_press.b3 k s.1 s.2) k (x_26, (16 : Int))
  ) fun x_54 =>
   Option.bind (inV 8 (0 : Int)) fun i_55 =>
   lt1 ((getV t_2.h i_55)) fun v_56 =>
   Option.bind (inV 8 (1 : Int)) fun i_57 =>
   lt1 ((getV t_2.h i_57)) fun v_58 =>
   Option.bind (inV 8 (2 : Int)) fun i_59 =>
   lt1 ((getV t_2.h i_59)) fun v_60 =>
   Option.bind (inV 8 (3 : Int)) fun i_61 =>
   lt1 ((getV t_2.h i_61)) fun v_62 =>
   Option.bind (inV 8 (4 : Int)) fun i_63 =>
   lt1 ((getV t_2.h i_63)) fun v_64 =>
   Option.bind (inV 8 (5 : Int)) fun i_65 =>
   lt1 ((getV t_2.h i_65)) fun v_66 =>
   Option.bind (inV 8 (6 : Int)) fun i_67 =>
   lt1 ((getV t_2.h i_67)) fun v_68 =>
   Option.bind (inV 8 (7 : Int)) fun i_69 =>
   lt1 ((getV t_2.h i_69)) fun v_70 =>
   Option.bind (
    loopO (fun s => sha_state_press.b4 k t_2 x_54 s.1 s.2.1 s.2.2.1 s.2.2.2.1 s.2.2.2.2.1 s.2.2.2.2.2.1 s.2.2.2.2.2.2.1 s.2.2.2.2.2.2.2.1 s.2.2.2.2.2.2.2.2) k (v_56, v_58, v_60, v_62, v_64, v_66, v_68, v_70, (0 : Int))
   ) fun (x_104, x_105, x_106, x_107, x_108, x_109, x_110, x_111) =>
    loopO (fun s => sha_state_press.b5 k x_104 x_105 x_106 x_107 x_108 x_109 x_110 x_111 s.1 s.2) k (t_2, (0 : Int))

def sha_state_hash.b1 (k : Nat) (v_9 : UInt64) (b_19 : (List UInt8)) (x_20 : Int) : Option (((List UInt8) × Int) ⊕ (((List UInt8)))) :=
 lt1 (decide (x_20 < (8 : Int))) fun v_23 =>
 if v_23 = true then
  lt1 (w64 ((8 : Int) * x_20)) fun v_24 =>
  lt1 (w64 ((56 : Int) - v_24)) fun v_25 =>
  Option.bind (shrU v_9 v_25) fun v_26 =>
  lt1 ((UN.to v_26 : UInt8)) fun v_27 =>
  Option.bind (apL 1 b_19 ([v_27] : (List UInt8))) fun b_28 =>
  lt1 (w64 (x_20 + (1 : Int))) fun v_31 =>
  some (.inl (b_28, v_31))
 else
  some (.inr b_19)

def sha_state_hash.b2 (k : Nat) (s_35 : sha_state) (b_36 : (List UInt8)) : Option ((sha_state × (List UInt8)) ⊕ ((sha_state))) :=
 lt1 (decide ((List.length b_36 : Int) > (0 : Int))) fun v_37 =>
 if v_37 = true then
  Option.bind (subL b_36 (0) (64 : Int)) fun v_38 =>
  Option.bind (sha_state_press k v_38 s_35) fun x_39 =>
  Option.bind (subL b_36 (64 : Int) (List.length b_36 : Int)) fun v_40 =>
  some (.inl (x_39, v_40))
 else
  some (.inr s_35)

def sha_state_hash.b3 (k : Nat) (s_41 : sha_state) (out_42 : (Vector UInt8 32)) (x_43 : Int) : Option (((Vector UInt8 32) × Int) ⊕ (((Vector UInt8 32)))) :=
 lt1 (decide (x_43 < (32 : Int))) fun v_44 =>
 if v_44 = true then
  Option.bind (divI x_43 (4 : Int)) fun v_45 =>
  Option.bind (inV 8 v_45) fun i_46 =>
  lt1 ((getV s_41.h i_46)) fun v_47 =>
  Option.bind (modI x_43 (4 : Int)) fun v_48 =>
  lt1 (w64 ((8 : Int) * v_48)) fun v_49 =>
  lt1 (w64 ((24 : Int) - v_49)) fun v_50 =>
  Option.bind (shrU v_47 v_50) fun v_51 =>
  lt1 ((UN.to v_51 : UInt8)) fun v_52 =>
  Option.bind (inV 32 x_43) fun i_53 =>
  lt1 ((putV out_42 i_53 v_52)) fun out_54 =>
  lt1 (w64 (x_43 + (1 : Int))) fun v_55 =>
  some (.inl (out_54, v_55))
 else
  some (.inr out_42)

def sha_state_hash (k : Nat) (s_1 : sha_state) (l_2 : (List (List UInt8))) : Option (((Vector UInt8 32))) :=
 Option.bind (slices_Concatbyte_byte k l_2) fun v_5 =>
 lt1 ((UN.ofI (List.length v_5 : Int) : UInt64)) fun v_8 =>
 lt1 ((v_8 * (8 : UInt64))) fun v_9 =>
 Option.bind (apL 1 v_5 ([(128 : UInt8)] : (List UInt8))) fun b_10 =>
 Option.bind (modI (List.length b_10 : Int) (64 : Int)) fun v_13 =>
 lt1 (w64 ((120 : Int) - v_13)) fun v_14 =>
 Option.bind (modI v_14 (64 : Int)) fun v_15 =>
 Option.bind (apZ 1 b_10 v_15 (0 : UInt8)) fun b_16 =>
 Option.bind (
  loopO (fun s => sha_state_hash.b1 k v_9 s.1 s.2) k (b_16, (0 : Int))
 ) fun b_32 =>
  Option.bind (
   loopO (fun s => sha_state_hash.b2 k s.1 s.2) k (s_1, b_32)
  ) fun s_41 =>
   Option.bind (
    loopO (fun s => sha_state_hash.b3 k s_41 s.1 s.2) k ((Vector.replicate 32 (0 : UInt8)), (0 : Int))
   ) fun out_56 =>
    some out_56

def sha_Code.b1 (k : Nat) (inner_14 : (Vector UInt8 64)) (outer_15 : (Vector UInt8 64)) (x_16 : Int) : Option (((Vector UInt8 64) × (Vector UInt8 64) × Int) ⊕ (((Vector UInt8 64) × (Vector UInt8 64)))) :=
 lt1 (decide (x_16 < (64 : Int))) fun v_17 =>
 if v_17 = true then
  Option.bind (inV 64 x_16) fun i_18 =>
  lt1 ((getV inner_14 i_18)) fun v_19 =>
  lt1 ((v_19 ^^^ (54 : UInt8))) fun v_20 =>
  Option.bind (inV 64 x_16) fun i_21 =>
  lt1 ((putV inner_14 i_21 v_20)) fun inner_22 =>
  Option.bind (inV 64 x_16) fun i_23 =>
  lt1 ((getV outer_15 i_23)) fun v_24 =>
  lt1 ((v_24 ^^^ (92 : UInt8))) fun v_25 =>
  Option.bind (inV 64 x_16) fun i_26 =>
  lt1 ((putV outer_15 i_26 v_25)) fun outer_27 =>
  lt1 (w64 (x_16 + (1 : Int))) fun v_28 =>
  some (.inl (inner_22, outer_27, v_28))
 else
  some (.inr (inner_14, outer_15))

def sha_Code (k : Nat) (secret_1 : (List UInt8)) (l_2 : (List (List UInt8))) : Option (((Vector UInt8 32))) :=
 Option.bind (sha_begun k) fun v_4 =>
 Option.bind (
  lt1 (decide ((List.length secret_1 : Int) > (64 : Int))) fun v_6 =>
  if v_6 = true then
   Option.bind (sha_state_hash k v_4 ([secret_1] : (List (List UInt8)))) fun v_7 =>
   Option.bind (subL (Vector.toList v_7) (0 : Int) (32 : Int)) fun v_9 =>
   some v_9
  else
   some secret_1
 ) fun secret_10 =>
  lt1 (cpV (Vector.replicate 64 (0 : UInt8)) 0 (64 - 0) secret_10) fun inner_13 =>
  Option.bind (
   loopO (fun s => sha_Code.b1 k s.1 s.2.1 s.2.2) k (inner_13, inner_13, (0 : Int))
  ) fun (inner_29, outer_30) =>
   Option.bind (subL (Vector.toList inner_29) (0 : Int) (64 : Int)) fun v_31 =>
   Option.bind (apL 24 ([v_31] : (List (List UInt8))) l_2) fun x_33 =>
   Option.bind (sha_state_hash k v_4 x_33) fun v_36 =>
   Option.bind (subL (Vector.toList outer_30) (0 : Int) (64 : Int)) fun v_38 =>
   Option.bind (subL (Vector.toList v_36) (0 : Int) (32 : Int)) fun v_39 =>
   Option.bind (sha_state_hash k v_4 ([v_38, v_39] : (List (List UInt8)))) fun v_40 =>
   some v_40

def cursor_code (k : Nat) (secret_1 : (List UInt8)) (device_2 : (List UInt8)) (v_3 : (List UInt8)) : Option (((Vector UInt8 32))) :=
 Option.bind (wire_Blob k device_2) fun (v_5, v_6) =>
 Option.bind (sha_Code k secret_1 ([v_5, v_3] : (List (List UInt8)))) fun v_9 =>
 some v_9

def cursor_Bytes (k : Nat) (secret_1 : (List UInt8)) (device_2 : (List UInt8)) (v_3 : (Vector UInt64 16)) : Option (((List UInt8) × Int)) :=
 Option.bind (
  Option.bind (cursor_mayDevice k device_2) fun v_5 =>
  lt1 ((!v_5)) fun v_6 =>
  Option.bind (if (!v_6) = true then cursor_May k v_3 else some default) fun v_7 =>
  lt1 ((!v_7)) fun v_8 =>
  lt1 (bif v_6 then true else v_8) fun v_9 =>
  some v_9
 ) fun x_10 =>
  if x_10 = true then
   some (([] : (List UInt8)), (2 : Int))
  else
   Option.bind (wire_Vector k v_3) fun v_11 =>
   Option.bind (cursor_code k secret_1 device_2 v_11) fun v_14 =>
   Option.bind (subL (Vector.toList v_14) (0 : Int) (32 : Int)) fun v_16 =>
   Option.bind (apL 1 v_11 v_16) fun x_17 =>
   some (x_17, (0 : Int))

def law10_num (k : Nat) (e_1 : Int) : Option ((Unit)) :=
 some ()

def slices_Clonebyte_byte (k : Nat) (s_1 : (List UInt8)) : Option (((List UInt8))) :=
 Option.bind (apL 1 ([] : (List UInt8)) s_1) fun x_3 =>
 some x_3

def wire_Read (k : Nat) (b_1 : (List UInt8)) : Option (((List UInt8))) :=
 Option.bind (slices_Clonebyte_byte k b_1) fun v_2 =>
 some v_2

def wire_Reader_Failed (k : Nat) (is_1 : Bool) (made_2 : Bool) (x_4 : (List UInt8)) : Option ((Bool)) :=
 Option.bind (
  lt1 ((!is_1)) fun v_7 =>
  some v_7
 ) fun x_8 =>
  some x_8

def wire_Reader_take (k : Nat) (n_1 : Int) (is_2 : Bool) (made_3 : Bool) (x_5 : (List UInt8)) : Option (((List UInt8) × Bool × (List UInt8) × Bool × Bool)) :=
 Option.bind (wire_Reader_Failed k is_2 made_3 x_5) fun v_8 =>
 if v_8 = true then
  some (([] : (List UInt8)), false, x_5, is_2, made_3)
 else
  Option.bind (
   lt1 (decide (n_1 < (0 : Int))) fun v_9 =>
   if v_9 = true then
    some true
   else
    lt1 (decide (n_1 > (List.length x_5 : Int))) fun v_10 =>
    some v_10
  ) fun x_11 =>
   if x_11 = true then
    some (([] : (List UInt8)), false, ([] : (List UInt8)), false, true)
   else
    Option.bind (subL x_5 (0) n_1) fun v_12 =>
    Option.bind (subL x_5 n_1 (List.length x_5 : Int)) fun v_13 =>
    some (v_12, true, v_13, is_2, made_3)

def wire_Get.b1 (k : Nat) (b_1 : (List UInt8)) (n_6 : UInt64) (x_7 : Int) : Option ((UInt64 × Int) ⊕ ((UInt64))) :=
 lt1 (decide (x_7 < (List.length b_1 : Int))) fun v_8 =>
 if v_8 = true then
  Option.bind (idxL b_1 x_7) fun v_9 =>
  lt1 (UN.shl n_6 (UN.toN (8 : UInt64))) fun v_10 =>
  lt1 ((UN.to v_9 : UInt64)) fun v_11 =>
  lt1 ((v_10 ||| v_11)) fun v_12 =>
  lt1 (w64 (x_7 + (1 : Int))) fun v_13 =>
  some (.inl (v_12, v_13))
 else
  some (.inr n_6)

def wire_Get (k : Nat) (b_1 : (List UInt8)) : Option ((UInt64 × Int)) :=
 Option.bind (
  lt1 (decide ((List.length b_1 : Int) < (1 : Int))) fun v_2 =>
  lt1 (decide ((List.length b_1 : Int) > (8 : Int))) fun v_3 =>
  lt1 (bif v_2 then true else v_3) fun v_4 =>
  some v_4
 ) fun x_5 =>
  if x_5 = true then
   some ((0 : UInt64), (2 : Int))
  else
   Option.bind (
    loopO (fun s => wire_Get.b1 k b_1 s.1 s.2) k ((0 : UInt64), (0 : Int))
   ) fun n_14 =>
    some (n_14, (0 : Int))

def wire_Reader_Number (k : Nat) (size_1 : Int) (is_2 : Bool) (made_3 : Bool) (x_5 : (List UInt8)) : Option ((UInt64 × wire_Reader)) :=
 Option.bind (
  Option.bind (
   lt1 (decide (size_1 < (1 : Int))) fun v_8 =>
   lt1 (decide (size_1 > (8 : Int))) fun v_9 =>
   lt1 (bif v_8 then true else v_9) fun v_10 =>
   some v_10
  ) fun x_11 =>
   if x_11 = true then
    some (-1 : Int)
   else
    some size_1
 ) fun size_12 =>
  Option.bind (wire_Reader_take k size_12 is_2 made_3 x_5) fun (v_13, v_14, x_15, x_16, x_17) =>
  Option.bind (wire_Get k v_13) fun (v_18, v_19) =>
  some (v_18, (wire_Reader.mk x_15 x_16 x_17))

def wire_Reader_Vector_1 (k : Nat) (is_2 : Bool) (made_3 : Bool) (x_5 : (List UInt8)) : Option ((UInt64 × wire_Reader)) :=
 Option.bind (wire_Reader_Number k (8 : Int) is_2 made_3 x_5) fun (v_8, x_9) =>
 some (v_8, x_9)

def wire_Reader_Failed'2 (k : Nat) (r_1 : wire_Reader) : Option ((Bool)) :=
 Option.bind (
  lt1 ((!r_1.is)) fun v_3 =>
  some v_3
 ) fun x_4 =>
  some x_4

def wire_Reader_take'2 (k : Nat) (n_1 : Int) (r_2 : wire_Reader) : Option (((List UInt8) × Bool × wire_Reader)) :=
 Option.bind (wire_Reader_Failed'2 k r_2) fun v_4 =>
 if v_4 = true then
  some (([] : (List UInt8)), false, r_2)
 else
  Option.bind (
   lt1 (decide (n_1 < (0 : Int))) fun v_5 =>
   if v_5 = true then
    some true
   else
    lt1 (decide (n_1 > (List.length r_2.rest : Int))) fun v_6 =>
    some v_6
  ) fun x_7 =>
   if x_7 = true then
    some (([] : (List UInt8)), false, (wire_Reader.mk ([] : (List UInt8)) false true))
   else
    Option.bind (subL r_2.rest (0) n_1) fun v_8 =>
    Option.bind (subL r_2.rest n_1 (List.length r_2.rest : Int)) fun v_9 =>
    lt1 ({ r_2 with rest := v_9 }) fun x_10 =>
    some (v_8, true, x_10)

def wire_Reader_Number'2 (k : Nat) (size_1 : Int) (r_2 : wire_Reader) : Option ((UInt64 × wire_Reader)) :=
 Option.bind (
  Option.bind (
   lt1 (decide (size_1 < (1 : Int))) fun v_4 =>
   lt1 (decide (size_1 > (8 : Int))) fun v_5 =>
   lt1 (bif v_4 then true else v_5) fun v_6 =>
   some v_6
  ) fun x_7 =>
   if x_7 = true then
    some (-1 : Int)
   else
    some size_1
 ) fun size_8 =>
  Option.bind (wire_Reader_take'2 k size_8 r_2) fun (v_9, v_10, x_11) =>
  Option.bind (wire_Get k v_9) fun (v_12, v_13) =>
  some (v_12, x_11)

def wire_Reader_Vector_1'2 (k : Nat) (x_2 : wire_Reader) : Option ((UInt64 × wire_Reader)) :=
 Option.bind (wire_Reader_Number'2 k (8 : Int) x_2) fun (v_4, x_5) =>
 some (v_4, x_5)

def wire_Reader_Vector.b1 (k : Nat) (v_18 : (Vector UInt64 16)) (x_19 : wire_Reader) (x_20 : Int) : Option (((Vector UInt64 16) × wire_Reader × Int) ⊕ (((Vector UInt64 16)))) :=
 lt1 (decide (x_20 < (16 : Int))) fun v_21 =>
 if v_21 = true then
  Option.bind (wire_Reader_Vector_1'2 k x_19) fun (v_22, x_23) =>
  Option.bind (inV 16 x_20) fun i_24 =>
  lt1 ((putV v_18 i_24 v_22)) fun v_25 =>
  lt1 (w64 (x_20 + (1 : Int))) fun v_26 =>
  some (.inl (v_25, x_23, v_26))
 else
  some (.inr v_18)

def wire_Reader_Vector (k : Nat) (is_1 : Bool) (made_2 : Bool) (x_4 : (List UInt8)) : Option (((Vector UInt64 16) × wire_Reader)) :=
 Option.bind (wire_Reader_take k (128 : Int) is_1 made_2 x_4) fun (v_8, v_9, x_10, x_11, x_12) =>
 Option.bind (wire_Read k v_8) fun v_13 =>
 Option.bind (
  loopO (fun s => wire_Reader_Vector.b1 k s.1 s.2.1 s.2.2) k ((Vector.replicate 16 (0 : UInt64)), (wire_Reader.mk v_13 true true), (0 : Int))
 ) fun v_27 =>
  some (v_27, (wire_Reader.mk x_10 x_11 x_12))

def sha_Equal.b1 (k : Nat) (a_1 : (Vector UInt8 32)) (b_2 : (Vector UInt8 32)) (x_5 : UInt8) (x_6 : Int) : Option ((UInt8 × Int) ⊕ ((UInt8))) :=
 lt1 (decide (x_6 < (32 : Int))) fun v_7 =>
 if v_7 = true then
  Option.bind (inV 32 x_6) fun i_8 =>
  lt1 ((getV a_1 i_8)) fun v_9 =>
  Option.bind (inV 32 x_6) fun i_10 =>
  lt1 ((getV b_2 i_10)) fun v_11 =>
  lt1 ((v_9 ^^^ v_11)) fun v_12 =>
  lt1 ((x_5 ||| v_12)) fun v_13 =>
  lt1 (w64 (x_6 + (1 : Int))) fun v_14 =>
  some (.inl (v_13, v_14))
 else
  some (.inr x_5)

def sha_Equal (k : Nat) (a_1 : (Vector UInt8 32)) (b_2 : (Vector UInt8 32)) : Option ((Bool)) :=
 Option.bind (
  loopO (fun s => sha_Equal.b1 k a_1 b_2 s.1 s.2) k ((0 : UInt8), (0 : Int))
 ) fun x_15 =>
  lt1 ((x_15 == (0 : UInt8))) fun v_16 =>
  some v_16

def cursor_Of (k : Nat) (secret_1 : (List UInt8)) (device_2 : (List UInt8)) (b_3 : (List UInt8)) : Option (((Vector UInt64 16) × Int)) :=
 Option.bind (cursor_mayDevice k device_2) fun v_5 =>
 lt1 ((!v_5)) fun v_6 =>
 if v_6 = true then
  some ((Vector.replicate 16 (0 : UInt64)), (2 : Int))
 else
  lt1 (((List.length b_3 : Int) == (0 : Int))) fun v_7 =>
  if v_7 = true then
   some ((Vector.replicate 16 (0 : UInt64)), (0 : Int))
  else
   lt1 (((List.length b_3 : Int) != (160 : Int))) fun v_8 =>
   if v_8 = true then
    some ((Vector.replicate 16 (0 : UInt64)), (9 : Int))
   else
    Option.bind (subL b_3 (0) (128 : Int)) fun v_9 =>
    Option.bind (subL b_3 (128 : Int) (List.length b_3 : Int)) fun v_10 =>
    Option.bind (wire_Read k v_9) fun v_11 =>
    Option.bind (wire_Reader_Vector k true true v_11) fun (v_15, x_16) =>
    Option.bind (
     Option.bind (cursor_May k v_15) fun v_18 =>
     lt1 ((!v_18)) fun v_19 =>
     Option.bind (if (!v_19) = true then cursor_code k secret_1 device_2 v_9 else some default) fun v_20 =>
     Option.bind (if (!v_19) = true then toV 32 v_10 else some default) fun v_21 =>
     Option.bind (if (!v_19) = true then sha_Equal k v_20 v_21 else some default) fun v_22 =>
     lt1 ((!v_22)) fun v_23 =>
     lt1 (bif v_19 then true else v_23) fun v_24 =>
     some v_24
    ) fun x_25 =>
     if x_25 = true then
      some ((Vector.replicate 16 (0 : UInt64)), (9 : Int))
     else
      some (v_15, (0 : Int))

def law10_known (k : Nat) : Option ((Bool)) :=
 Option.bind (cursor_Bytes k ([(115 : UInt8)] : (List UInt8)) ([97] : List UInt8) (Vector.set (Vector.set (Vector.set (Vector.replicate 16 (0 : UInt64)) 0 (3 : UInt64) (by decide)) 1 (0 : UInt64) (by decide)) 2 (5 : UInt64) (by decide))) fun (v_3, v_4) =>
 Option.bind (
  lt1 (((List.length v_3 : Int) != (160 : Int))) fun v_7 =>
  Option.bind (if (!v_7) = true then law10_num k v_4 else some default) fun _ =>
  lt1 ((v_4 != (0 : Int))) fun v_9 =>
  lt1 (bif v_7 then true else v_9) fun v_10 =>
  some v_10
 ) fun x_11 =>
  if x_11 = true then
   some false
  else
   Option.bind (cursor_Of k ([(115 : UInt8)] : (List UInt8)) ([97] : List UInt8) v_3) fun (v_12, v_13) =>
   Option.bind (cursor_Of k ([(115 : UInt8)] : (List UInt8)) ([98] : List UInt8) v_3) fun (v_15, v_16) =>
   Option.bind (cursor_Of k ([(115 : UInt8)] : (List UInt8)) ([97] : List UInt8) ([] : (List UInt8))) fun (v_18, v_19) =>
   Option.bind (subL v_3 (1 : Int) (List.length v_3 : Int)) fun v_21 =>
   Option.bind (cursor_Of k ([(115 : UInt8)] : (List UInt8)) ([97] : List UInt8) v_21) fun (v_22, v_23) =>
   Option.bind (cursor_Bytes k ([(115 : UInt8)] : (List UInt8)) ([] : List UInt8) (Vector.set (Vector.set (Vector.set (Vector.replicate 16 (0 : UInt64)) 0 (3 : UInt64) (by decide)) 1 (0 : UInt64) (by decide)) 2 (5 : UInt64) (by decide))) fun (v_25, v_26) =>
   Option.bind (
    lt1 (((eqV (fun x y => x == y)) v_12 (Vector.set (Vector.set (Vector.set (Vector.replicate 16 (0 : UInt64)) 0 (3 : UInt64) (by decide)) 1 (0 : UInt64) (by decide)) 2 (5 : UInt64) (by decide)))) fun v_29 =>
    Option.bind (if v_29 = true then law10_num k v_13 else some default) fun _ =>
    lt1 ((v_13 == (0 : Int))) fun v_31 =>
    lt1 (bif v_29 then v_31 else false) fun v_32 =>
    Option.bind (if v_32 = true then law10_num k v_16 else some default) fun _ =>
    lt1 ((v_16 == (9 : Int))) fun v_34 =>
    lt1 (bif v_32 then v_34 else false) fun v_35 =>
    lt1 (((eqV (fun x y => x == y)) v_18 (Vector.replicate 16 (0 : UInt64)))) fun v_36 =>
    lt1 (bif v_35 then v_36 else false) fun v_37 =>
    Option.bind (if v_37 = true then law10_num k v_19 else some default) fun _ =>
    lt1 ((v_19 == (0 : Int))) fun v_39 =>
    lt1 (bif v_37 then v_39 else false) fun v_40 =>
    Option.bind (if v_40 = true then law10_num k v_23 else some default) fun _ =>
    lt1 ((v_23 == (9 : Int))) fun v_42 =>
    lt1 (bif v_40 then v_42 else false) fun v_43 =>
    Option.bind (if v_43 = true then law10_num k v_26 else some default) fun _ =>
    lt1 ((v_26 == (2 : Int))) fun v_45 =>
    lt1 (bif v_43 then v_45 else false) fun v_46 =>
    some v_46
   ) fun t_47 =>
    some t_47

def law10_CursorApart (k : Nat) (t_1 : (List UInt8)) (a_2 : (List UInt8)) (a_3 : (Vector UInt64 16)) (a_4 : (Vector UInt64 16)) : Option ((Bool)) :=
 lt1 (decide ((List.length t_1 : Int) > (300 : Int))) fun v_7 =>
 if v_7 = true then
  Option.bind (law10_known k) fun v_8 =>
  some v_8
 else
  Option.bind (cursor_Bytes k t_1 a_2 a_3) fun (v_9, v_10) =>
  Option.bind (cursor_Bytes k t_1 a_2 a_4) fun (v_13, v_14) =>
  Option.bind (law10_num k v_10) fun _ =>
  Option.bind (law10_num k v_14) fun _ =>
  lt1 (w64 (v_10 + v_14)) fun v_19 =>
  lt1 ((v_19 != (0 : Int))) fun v_20 =>
  if v_20 = true then
   Option.bind (law10_known k) fun v_21 =>
   some v_21
  else
   Option.bind (cursor_Of k t_1 a_2 v_9) fun (v_22, v_23) =>
   Option.bind (cursor_Of k t_1 a_2 v_13) fun (v_25, v_26) =>
   Option.bind (
    lt1 ((v_9 == v_13)) fun v_28 =>
    lt1 (((eqV (fun x y => x == y)) a_3 a_4)) fun v_29 =>
    lt1 ((v_28 == v_29)) fun v_30 =>
    lt1 (((eqV (fun x y => x == y)) v_22 a_3)) fun v_31 =>
    lt1 (bif v_30 then v_31 else false) fun v_32 =>
    lt1 (((eqV (fun x y => x == y)) v_25 a_4)) fun v_33 =>
    lt1 (bif v_32 then v_33 else false) fun v_34 =>
    Option.bind (if v_34 = true then law10_num k v_23 else some default) fun _ =>
    Option.bind (if v_34 = true then law10_num k v_26 else some default) fun _ =>
    lt1 (w64 (v_23 + v_26)) fun v_37 =>
    lt1 ((v_37 == (0 : Int))) fun v_38 =>
    lt1 (bif v_34 then v_38 else false) fun v_39 =>
    Option.bind (if v_39 = true then law10_known k else some default) fun v_40 =>
    lt1 (bif v_39 then v_40 else false) fun v_41 =>
    some v_41
   ) fun x_42 =>
    some x_42

def ref09_MayName (k : Nat) (s_1 : (List UInt8)) : Option ((Bool)) :=
 Option.bind (
  lt1 (decide ((List.length s_1 : Int) > (0 : Int))) fun v_2 =>
  lt1 (decide ((List.length s_1 : Int) ≤ (32 : Int))) fun v_3 =>
  lt1 (bif v_2 then v_3 else false) fun v_4 =>
  some v_4
 ) fun x_5 =>
  some x_5

def ref09_MayVector.b1 (k : Nat) (v_1 : (Vector UInt64 16)) (i_3 : Int) : Option ((Int) ⊕ ((Unit) ⊕ ((Bool)))) :=
 lt1 (decide (i_3 < (16 : Int))) fun v_4 =>
 if v_4 = true then
  Option.bind (inV 16 i_3) fun i_5 =>
  lt1 ((getV v_1 i_5)) fun v_6 =>
  lt1 (decide ((4611686018427387904 : UInt64) < v_6)) fun v_7 =>
  if v_7 = true then
   some (.inr (.inr false))
  else
   lt1 (w64 (i_3 + (1 : Int))) fun v_8 =>
   some (.inl v_8)
 else
  some (.inr (.inl ()))

def ref09_MayVector (k : Nat) (v_1 : (Vector UInt64 16)) : Option ((Bool)) :=
 Option.bind (
  Option.bind (loopO (fun s => ref09_MayVector.b1 k v_1 s) k (0 : Int)) fun t => match t with
  | (.inl _) =>
   some (.inl ())
  | (.inr q) =>
   some (.inr q)
  : Option ((Unit) ⊕ ((Bool)))) fun t => match t with
 | (.inl _) =>
  some true
 | (.inr q) =>
  some q

def ref10_May (k : Nat) (v_1 : (Vector UInt64 16)) : Option ((Bool)) :=
 Option.bind (ref09_MayVector k v_1) fun v_3 =>
 some v_3

def ref01_Put.b1 (k : Nat) (n_6 : UInt64) (b_7 : (List UInt8)) (i_8 : Int) : Option ((UInt64 × (List UInt8) × Int) ⊕ (((List UInt8)))) :=
 lt1 (decide (i_8 ≥ (0 : Int))) fun v_9 =>
 if v_9 = true then
  Option.bind (modU n_6 (256 : UInt64)) fun v_10 =>
  lt1 ((UN.to v_10 : UInt8)) fun v_11 =>
  Option.bind (inO b_7 i_8) fun i_12 =>
  Option.bind (setO' b_7 i_12 v_11) fun b_13 =>
  Option.bind (divU n_6 (256 : UInt64)) fun v_14 =>
  lt1 (w64 (i_8 - (1 : Int))) fun v_15 =>
  some (.inl (v_14, b_13, v_15))
 else
  some (.inr b_7)

def ref01_Put (k : Nat) (n_1 : UInt64) (size_2 : Int) : Option (((List UInt8))) :=
 Option.bind (mkL 1 size_2 (0 : UInt8)) fun v_3 =>
 Option.bind (
  lt1 (w64 (size_2 - (1 : Int))) fun v_5 =>
  loopO (fun s => ref01_Put.b1 k s.1 s.2.1 s.2.2) k (n_1, v_3, v_5)
 ) fun b_16 =>
  some b_16

def ref01_Vector.b1 (k : Nat) (v_1 : (Vector UInt64 16)) (b_3 : (List UInt8)) (i_4 : Int) : Option (((List UInt8) × Int) ⊕ (((List UInt8)))) :=
 lt1 (decide (i_4 < (16 : Int))) fun v_7 =>
 if v_7 = true then
  Option.bind (inV 16 i_4) fun i_8 =>
  lt1 ((getV v_1 i_8)) fun v_9 =>
  Option.bind (ref01_Put k v_9 (8 : Int)) fun v_10 =>
  Option.bind (apL 1 b_3 v_10) fun b_12 =>
  lt1 (w64 (i_4 + (1 : Int))) fun v_15 =>
  some (.inl (b_12, v_15))
 else
  some (.inr b_3)

def ref01_Vector (k : Nat) (v_1 : (Vector UInt64 16)) : Option (((List UInt8))) :=
 Option.bind (
  loopO (fun s => ref01_Vector.b1 k v_1 s.1 s.2) k (([] : (List UInt8)), (0 : Int))
 ) fun b_16 =>
  some b_16

def ref01_Blob (k : Nat) (b_1 : (List UInt8)) : Option (((List UInt8))) :=
 lt1 ((UN.ofI (List.length b_1 : Int) : UInt64)) fun v_2 =>
 Option.bind (ref01_Put k v_2 (2 : Int)) fun v_3 =>
 Option.bind (apL 1 v_3 b_1) fun x_5 =>
 some x_5

def ref03_power (k : Nat) (t_1 : UInt64) (a_2 : Int) (a_3 : UInt64) : Option ((Bool)) :=
 Option.bind (math_bits_Mul64 k t_1 t_1) fun (v_4, v_5) =>
 lt1 ((a_2 == (2 : Int))) fun v_6 =>
 if v_6 = true then
  Option.bind (
   lt1 (decide (v_4 < a_3)) fun v_7 =>
   lt1 ((v_4 == a_3)) fun v_8 =>
   lt1 ((v_5 == (0 : UInt64))) fun v_9 =>
   lt1 (bif v_8 then v_9 else false) fun v_10 =>
   lt1 (bif v_7 then true else v_10) fun v_11 =>
   some v_11
  ) fun x_12 =>
   some x_12
 else
  Option.bind (math_bits_Mul64 k v_5 t_1) fun (v_13, v_14) =>
  Option.bind (math_bits_Mul64 k v_4 t_1) fun (v_15, v_16) =>
  Option.bind (add64 v_13 v_16 (0 : UInt64)) fun (s_17, o_18) =>
  lt1 ((v_15 + o_18)) fun v_19 =>
  lt1 (UN.shr a_3 (UN.toN (32 : UInt64))) fun v_20 =>
  lt1 ((!(v_19 == v_20))) fun v_21 =>
  if v_21 = true then
   lt1 (UN.shr a_3 (UN.toN (32 : UInt64))) fun v_22 =>
   lt1 (decide (v_19 < v_22)) fun v_23 =>
   some v_23
  else
   Option.bind (
    lt1 (UN.shl a_3 (UN.toN (32 : UInt64))) fun v_24 =>
    lt1 (decide (s_17 < v_24)) fun v_25 =>
    lt1 (UN.shl a_3 (UN.toN (32 : UInt64))) fun v_26 =>
    lt1 ((s_17 == v_26)) fun v_27 =>
    lt1 ((v_14 == (0 : UInt64))) fun v_28 =>
    lt1 (bif v_27 then v_28 else false) fun v_29 =>
    lt1 (bif v_25 then true else v_29) fun v_30 =>
    some v_30
   ) fun x_31 =>
    some x_31

def ref03_root.b1 (k : Nat) (n_2 : Int) (p_1 : UInt64) (x_3 : UInt64) (b_4 : Int) : Option ((UInt64 × Int) ⊕ ((UInt64))) :=
 lt1 (decide (b_4 ≥ (0 : Int))) fun v_5 =>
 if v_5 = true then
  Option.bind (
   lt1 ((UN.ofI b_4 : UInt64)) fun v_6 =>
   lt1 (UN.shl (1 : UInt64) (UN.toN v_6)) fun v_7 =>
   lt1 ((x_3 + v_7)) fun v_8 =>
   Option.bind (ref03_power k v_8 n_2 p_1) fun v_9 =>
   if v_9 = true then
    some v_8
   else
    some x_3
  ) fun x_10 =>
   lt1 (w64 (b_4 - (1 : Int))) fun v_11 =>
   some (.inl (x_10, v_11))
 else
  some (.inr x_3)

def ref03_root (k : Nat) (p_1 : UInt64) (n_2 : Int) : Option ((UInt32)) :=
 Option.bind (
  loopO (fun s => ref03_root.b1 k n_2 p_1 s.1 s.2) k ((0 : UInt64), (37 : Int))
 ) fun x_12 =>
  lt1 ((UN.to x_12 : UInt32)) fun v_13 =>
  some v_13

def ref03_begun.b2 (k : Nat) (n_5 : UInt64) (is_9 : Bool) (d_10 : UInt64) : Option ((Bool × UInt64) ⊕ ((Bool))) :=
 lt1 ((d_10 * d_10)) fun v_11 =>
 lt1 (decide (v_11 ≤ n_5)) fun v_12 =>
 if v_12 = true then
  Option.bind (
   Option.bind (if is_9 = true then modU n_5 d_10 else some default) fun v_13 =>
   lt1 ((!(v_13 == (0 : UInt64)))) fun v_14 =>
   lt1 (bif is_9 then v_14 else false) fun v_15 =>
   some v_15
  ) fun is_16 =>
   lt1 ((d_10 + (1 : UInt64))) fun v_17 =>
   some (.inl (is_16, v_17))
 else
  some (.inr is_9)

def ref03_begun.b1 (k : Nat) (h_3 : (Vector UInt32 8)) (k_4 : (List UInt32)) (n_5 : UInt64) : Option (((Vector UInt32 8) × (List UInt32) × UInt64) ⊕ (((Vector UInt32 8) × (List UInt32)))) :=
 lt1 (decide ((List.length k_4 : Int) < (64 : Int))) fun v_8 =>
 if v_8 = true then
  Option.bind (
   Option.bind (
    loopO (fun s => ref03_begun.b2 k n_5 s.1 s.2) k (true, (2 : UInt64))
   ) fun is_18 =>
    Option.bind (
     Option.bind (
      if is_18 = true then
       lt1 (decide ((List.length k_4 : Int) < (8 : Int))) fun v_19 =>
       some v_19
      else
       some false
     ) fun x_20 =>
      if x_20 = true then
       Option.bind (ref03_root k n_5 (2 : Int)) fun v_21 =>
       Option.bind (inV 8 (List.length k_4 : Int)) fun i_22 =>
       lt1 ((putV h_3 i_22 v_21)) fun h_23 =>
       some h_23
      else
       some h_3
    ) fun h_24 =>
     if is_18 = true then
      Option.bind (ref03_root k n_5 (3 : Int)) fun v_25 =>
      Option.bind (apL 4 k_4 ([v_25] : (List UInt32))) fun k_26 =>
      some (h_24, k_26)
     else
      some (h_24, k_4)
  ) fun (h_29, k_30) =>
   lt1 ((n_5 + (1 : UInt64))) fun v_33 =>
   some (.inl (h_29, k_30, v_33))
 else
  some (.inr (h_3, k_4))

def ref03_begun (k : Nat) : Option (((Vector UInt32 8) × (List UInt32))) :=
 Option.bind (
  loopO (fun s => ref03_begun.b1 k s.1 s.2.1 s.2.2) k ((Vector.replicate 8 (0 : UInt32)), ([] : (List UInt32)), (2 : UInt64))
 ) fun (h_34, k_35) =>
  some (h_34, k_35)

def ref03_pad.b1 (k : Nat) (o_8 : (List UInt8)) : Option (((List UInt8)) ⊕ (((List UInt8)))) :=
 Option.bind (modI (List.length o_8 : Int) (64 : Int)) fun v_11 =>
 lt1 ((v_11 != (56 : Int))) fun v_12 =>
 if v_12 = true then
  Option.bind (apL 1 o_8 ([(0 : UInt8)] : (List UInt8))) fun o_13 =>
  some (.inl o_13)
 else
  some (.inr o_8)

def ref03_pad (k : Nat) (b_1 : (List UInt8)) : Option (((List UInt8))) :=
 Option.bind (apL 1 ([] : (List UInt8)) b_1) fun v_2 =>
 Option.bind (apL 1 v_2 ([(128 : UInt8)] : (List UInt8))) fun x_5 =>
 Option.bind (
  loopO (fun s => ref03_pad.b1 k s) k x_5
 ) fun o_16 =>
  lt1 ((UN.ofI (List.length b_1 : Int) : UInt64)) fun v_19 =>
  lt1 ((v_19 * (8 : UInt64))) fun v_20 =>
  Option.bind (ref01_Put k v_20 (8 : Int)) fun v_21 =>
  Option.bind (apL 1 o_16 v_21) fun o_23 =>
  some o_23

def ref01_Get.b1 (k : Nat) (b_1 : (List UInt8)) (n_2 : UInt64) (i_3 : Int) : Option ((UInt64 × Int) ⊕ ((UInt64))) :=
 lt1 (decide (i_3 < (List.length b_1 : Int))) fun v_4 =>
 if v_4 = true then
  lt1 ((n_2 * (256 : UInt64))) fun v_5 =>
  Option.bind (idxL b_1 i_3) fun v_6 =>
  lt1 ((UN.to v_6 : UInt64)) fun v_7 =>
  lt1 ((v_5 + v_7)) fun v_8 =>
  lt1 (w64 (i_3 + (1 : Int))) fun v_9 =>
  some (.inl (v_8, v_9))
 else
  some (.inr n_2)

def ref01_Get (k : Nat) (b_1 : (List UInt8)) : Option ((UInt64)) :=
 Option.bind (
  loopO (fun s => ref01_Get.b1 k b_1 s.1 s.2) k ((0 : UInt64), (0 : Int))
 ) fun n_10 =>
  some n_10

def ref03_ror (k : Nat) (x_1 : UInt32) (n_2 : UInt64) : Option ((UInt32)) :=
 lt1 (UN.shr x_1 (UN.toN n_2)) fun v_3 =>
 lt1 (((32 : UInt64) - n_2)) fun v_4 =>
 lt1 (UN.shl x_1 (UN.toN v_4)) fun v_5 =>
 lt1 ((v_3 ||| v_5)) fun v_6 =>
 some v_6

def ref03_press.b1 (k : Nat) (a_2 : (List UInt8)) (x_6 : (List UInt32)) (x_7 : Int) : Option (((List UInt32) × Int) ⊕ (((List UInt32)))) :=
 lt1 (decide (x_7 < (16 : Int))) fun v_10 =>
 if v_10 = true then
  lt1 (w64 ((4 : Int) * x_7)) fun v_11 =>
  lt1 (w64 ((4 : Int) * x_7)) fun v_12 =>
  lt1 (w64 (v_12 + (4 : Int))) fun v_13 =>
  Option.bind (subL a_2 v_11 v_13) fun v_14 =>
  Option.bind (ref01_Get k v_14) fun v_15 =>
  lt1 ((UN.to v_15 : UInt32)) fun v_16 =>
  Option.bind (apL 4 x_6 ([v_16] : (List UInt32))) fun x_17 =>
  lt1 (w64 (x_7 + (1 : Int))) fun v_20 =>
  some (.inl (x_17, v_20))
 else
  some (.inr x_6)

def ref03_press.b2 (k : Nat) (x_24 : (List UInt32)) (x_25 : Int) : Option (((List UInt32) × Int) ⊕ (((List UInt32)))) :=
 lt1 (decide (x_25 < (64 : Int))) fun v_28 =>
 if v_28 = true then
  lt1 (w64 (x_25 - (15 : Int))) fun v_29 =>
  Option.bind (inO x_24 v_29) fun i_30 =>
  Option.bind (x_24[i_30]?) fun v_31 =>
  lt1 (w64 (x_25 - (2 : Int))) fun v_32 =>
  Option.bind (inO x_24 v_32) fun i_33 =>
  Option.bind (x_24[i_33]?) fun v_34 =>
  Option.bind (ref03_ror k v_31 (7 : UInt64)) fun v_35 =>
  Option.bind (ref03_ror k v_31 (18 : UInt64)) fun v_36 =>
  lt1 ((v_35 ^^^ v_36)) fun v_37 =>
  lt1 (UN.shr v_31 (UN.toN (3 : UInt64))) fun v_38 =>
  lt1 ((v_37 ^^^ v_38)) fun v_39 =>
  Option.bind (ref03_ror k v_34 (17 : UInt64)) fun v_40 =>
  Option.bind (ref03_ror k v_34 (19 : UInt64)) fun v_41 =>
  lt1 ((v_40 ^^^ v_41)) fun v_42 =>
  lt1 (UN.shr v_34 (UN.toN (10 : UInt64))) fun v_43 =>
  lt1 ((v_42 ^^^ v_43)) fun v_44 =>
  lt1 (w64 (x_25 - (16 : Int))) fun v_45 =>
  Option.bind (inO x_24 v_45) fun i_46 =>
  Option.bind (x_24[i_46]?) fun v_47 =>
  lt1 ((v_47 + v_39)) fun v_48 =>
  lt1 (w64 (x_25 - (7 : Int))) fun v_49 =>
  Option.bind (inO x_24 v_49) fun i_50 =>
  Option.bind (x_24[i_50]?) fun v_51 =>
  lt1 ((v_48 + v_51)) fun v_52 =>
  lt1 ((v_52 + v_44)) fun v_53 =>
  Option.bind (apL 4 x_24 ([v_53] : (List UInt32))) fun x_54 =>
  lt1 (w64 (x_25 + (1 : Int))) fun v_57 =>
  some (.inl (x_54, v_57))
 else
  some (.inr x_24)

def ref03_press.b3 (k : Nat) (a_3 : (List UInt32)) (x_58 : (List UInt32)) (x_62 : (Vector UInt32 8)) (x_63 : Int) : Option (((Vector UInt32 8) × Int) ⊕ (((Vector UInt32 8)))) :=
 lt1 (decide (x_63 < (64 : Int))) fun v_64 =>
 if v_64 = true then
  Option.bind (inV 8 (0 : Int)) fun i_65 =>
  lt1 ((getV x_62 i_65)) fun v_66 =>
  Option.bind (inV 8 (1 : Int)) fun i_67 =>
  lt1 ((getV x_62 i_67)) fun v_68 =>
  Option.bind (inV 8 (2 : Int)) fun i_69 =>
  lt1 ((getV x_62 i_69)) fun v_70 =>
  Option.bind (inV 8 (4 : Int)) fun i_71 =>
  lt1 ((getV x_62 i_71)) fun v_72 =>
  Option.bind (inV 8 (5 : Int)) fun i_73 =>
  lt1 ((getV x_62 i_73)) fun v_74 =>
  Option.bind (inV 8 (6 : Int)) fun i_75 =>
  lt1 ((getV x_62 i_75)) fun v_76 =>
  Option.bind (inV 8 (7 : Int)) fun i_77 =>
  lt1 ((getV x_62 i_77)) fun v_78 =>
  Option.bind (ref03_ror k v_72 (6 : UInt64)) fun v_79 =>
  Option.bind (ref03_ror k v_72 (11 : UInt64)) fun v_80 =>
  lt1 ((v_79 ^^^ v_80)) fun v_81 =>
  Option.bind (ref03_ror k v_72 (25 : UInt64)) fun v_82 =>
  lt1 ((v_81 ^^^ v_82)) fun v_83 =>
  lt1 ((v_78 + v_83)) fun v_84 =>
  lt1 ((v_72 &&& v_74)) fun v_85 =>
  lt1 ((UN.not v_72)) fun v_86 =>
  lt1 ((v_86 &&& v_76)) fun v_87 =>
  lt1 ((v_85 ^^^ v_87)) fun v_88 =>
  lt1 ((v_84 + v_88)) fun v_89 =>
  Option.bind (idxL a_3 x_63) fun v_90 =>
  lt1 ((v_89 + v_90)) fun v_91 =>
  Option.bind (inO x_58 x_63) fun i_92 =>
  Option.bind (x_58[i_92]?) fun v_93 =>
  lt1 ((v_91 + v_93)) fun v_94 =>
  Option.bind (ref03_ror k v_66 (2 : UInt64)) fun v_95 =>
  Option.bind (ref03_ror k v_66 (13 : UInt64)) fun v_96 =>
  lt1 ((v_95 ^^^ v_96)) fun v_97 =>
  Option.bind (ref03_ror k v_66 (22 : UInt64)) fun v_98 =>
  lt1 ((v_97 ^^^ v_98)) fun v_99 =>
  lt1 ((v_66 &&& v_68)) fun v_100 =>
  lt1 ((v_66 &&& v_70)) fun v_101 =>
  lt1 ((v_100 ^^^ v_101)) fun v_102 =>
  lt1 ((v_68 &&& v_70)) fun v_103 =>
  lt1 ((v_102 ^^^ v_103)) fun v_104 =>
  lt1 ((v_99 + v_104)) fun v_105 =>
  lt1 ((v_94 + v_105)) fun v_106 =>
  Option.bind (inV 8 (3 : Int)) fun i_107 =>
  lt1 ((getV x_62 i_107)) fun v_108 =>
  lt1 ((v_108 + v_94)) fun v_109 =>
  lt1 (w64 (x_63 + (1 : Int))) fun v_110 =>
  some (.inl ((#v[v_106, v_66, v_68, v_70, v_109, v_72, v_74, v_76] : (Vector UInt32 8)), v_110))
 else
  some (.inr x_62)

def ref03_press.b4 (k : Nat) (t_1 : (Vector UInt32 8)) (x_112 : (Vector UInt32 8)) (x_113 : Int) : Option (((Vector UInt32 8) × Int) ⊕ (((Vector UInt32 8)))) :=
 lt1 (decide (x_113 < (8 : Int))) fun v_114 =>
 if v_114 = true then
  Option.bind (inV 8 x_113) fun i_115 =>
  lt1 ((getV x_112 i_115)) fun v_116 =>
  Option.bind (inV 8 x_113) fun i_117 =>
  lt1 ((getV t_1 i_117)) fun v_118 =>
  lt1 ((v_116 + v_118)) fun v_119 =>
  Option.bind (inV 8 x_113) fun i_120 =>
  lt1 ((putV x_112 i_120 v_119)) fun x_121 =>
  lt1 (w64 (x_113 + (1 : Int))) fun v_122 =>
  some (.inl (x_121, v_122))
 else
  some (.inr x_112)

def ref03_press (k : Nat) (t_1 : (Vector UInt32 8)) (a_2 : (List UInt8)) (a_3 : (List UInt32)) : Option (((Vector UInt32 8))) :=
 Option.bind (
  loopO (fun s => ref03_press.b1 k a_2 s.1 s.2) k (([] : (List UInt32)), (0 : Int))
 ) fun x_21 =>
  Option.bind (
   loopO (fun s => ref03_press.b2 k s.1 s.2) k (x_21, (16 : Int))
  ) fun x_58 =>
   Option.bind (
    loopO (fun s => ref03_press.b3 k a_3 x_58 s.1 s.2) k (t_1, (0 : Int))
   ) fun x_111 =>
    Option.bind (
     loopO (fun s => ref03_press.b4 k t_1 s.1 s.2) k (x_111, (0 : Int))
    ) fun x_123 =>
     some x_123

def ref03_Sum.b1 (k : Nat) (v_8 : (List UInt8)) (v_4 : (List UInt32)) (h_11 : (Vector UInt32 8)) (at_12 : Int) : Option (((Vector UInt32 8) × Int) ⊕ (((Vector UInt32 8)))) :=
 lt1 (decide (at_12 < (List.length v_8 : Int))) fun v_13 =>
 if v_13 = true then
  lt1 (w64 (at_12 + (64 : Int))) fun v_14 =>
  Option.bind (subL v_8 at_12 v_14) fun v_15 =>
  Option.bind (ref03_press k h_11 v_15 v_4) fun v_16 =>
  lt1 (w64 (at_12 + (64 : Int))) fun v_17 =>
  some (.inl (v_16, v_17))
 else
  some (.inr h_11)

def ref03_Sum.b2 (k : Nat) (h_18 : (Vector UInt32 8)) (d_20 : (Vector UInt8 32)) (i_21 : Int) : Option (((Vector UInt8 32) × Int) ⊕ (((Vector UInt8 32)))) :=
 lt1 (decide (i_21 < (32 : Int))) fun v_22 =>
 if v_22 = true then
  Option.bind (divI i_21 (4 : Int)) fun v_23 =>
  Option.bind (inV 8 v_23) fun i_24 =>
  lt1 ((getV h_18 i_24)) fun v_25 =>
  Option.bind (modI i_21 (4 : Int)) fun v_26 =>
  lt1 (w64 ((8 : Int) * v_26)) fun v_27 =>
  lt1 (w64 ((24 : Int) - v_27)) fun v_28 =>
  lt1 ((UN.ofI v_28 : UInt64)) fun v_29 =>
  lt1 (UN.shr v_25 (UN.toN v_29)) fun v_30 =>
  lt1 ((UN.to v_30 : UInt8)) fun v_31 =>
  Option.bind (inV 32 i_21) fun i_32 =>
  lt1 ((putV d_20 i_32 v_31)) fun d_33 =>
  lt1 (w64 (i_21 + (1 : Int))) fun v_34 =>
  some (.inl (d_33, v_34))
 else
  some (.inr d_20)

def ref03_Sum (k : Nat) (b_1 : (List UInt8)) : Option (((Vector UInt8 32))) :=
 Option.bind (ref03_begun k) fun (v_3, v_4) =>
 Option.bind (ref03_pad k b_1) fun v_8 =>
 Option.bind (
  loopO (fun s => ref03_Sum.b1 k v_8 v_4 s.1 s.2) k (v_3, (0 : Int))
 ) fun h_18 =>
  Option.bind (
   loopO (fun s => ref03_Sum.b2 k h_18 s.1 s.2) k ((Vector.replicate 32 (0 : UInt8)), (0 : Int))
  ) fun d_35 =>
   some d_35

def ref03_Code.b1 (k : Nat) (k_17 : (List UInt8)) : Option (((List UInt8)) ⊕ (((List UInt8)))) :=
 lt1 (decide ((List.length k_17 : Int) < (64 : Int))) fun v_20 =>
 if v_20 = true then
  Option.bind (apL 1 k_17 ([(0 : UInt8)] : (List UInt8))) fun k_21 =>
  some (.inl k_21)
 else
  some (.inr k_17)

def ref03_Code.b2 (k : Nat) (k_24 : (List UInt8)) (i_27 : (List UInt8)) (o_28 : (List UInt8)) (n_29 : Int) : Option (((List UInt8) × (List UInt8) × Int) ⊕ (((List UInt8) × (List UInt8)))) :=
 lt1 (decide (n_29 < (64 : Int))) fun v_34 =>
 if v_34 = true then
  Option.bind (inO k_24 n_29) fun i_35 =>
  Option.bind (k_24[i_35]?) fun v_36 =>
  lt1 ((v_36 ^^^ (54 : UInt8))) fun v_37 =>
  Option.bind (apL 1 i_27 ([v_37] : (List UInt8))) fun i_38 =>
  Option.bind (inO k_24 n_29) fun i_41 =>
  Option.bind (k_24[i_41]?) fun v_42 =>
  lt1 ((v_42 ^^^ (92 : UInt8))) fun v_43 =>
  Option.bind (apL 1 o_28 ([v_43] : (List UInt8))) fun o_44 =>
  lt1 (w64 (n_29 + (1 : Int))) fun v_47 =>
  some (.inl (i_38, o_44, v_47))
 else
  some (.inr (i_27, o_28))

def ref03_Code (k : Nat) (secret_1 : (List UInt8)) (b_2 : (List UInt8)) : Option (((Vector UInt8 32))) :=
 Option.bind (apL 1 ([] : (List UInt8)) secret_1) fun v_4 =>
 Option.bind (
  lt1 (decide ((List.length v_4 : Int) > (64 : Int))) fun v_7 =>
  if v_7 = true then
   Option.bind (ref03_Sum k secret_1) fun v_8 =>
   Option.bind (subL (Vector.toList v_8) (0 : Int) (32 : Int)) fun v_10 =>
   Option.bind (apL 1 ([] : (List UInt8)) v_10) fun v_11 =>
   some v_11
  else
   some v_4
 ) fun k_14 =>
  Option.bind (
   loopO (fun s => ref03_Code.b1 k s) k k_14
  ) fun k_24 =>
   Option.bind (
    loopO (fun s => ref03_Code.b2 k k_24 s.1 s.2.1 s.2.2) k (([] : (List UInt8)), ([] : (List UInt8)), (0 : Int))
   ) fun (i_48, o_49) =>
    Option.bind (apL 1 i_48 b_2) fun i_54 =>
    Option.bind (ref03_Sum k i_54) fun v_57 =>
    Option.bind (subL (Vector.toList v_57) (0 : Int) (32 : Int)) fun v_59 =>
    Option.bind (apL 1 o_49 v_59) fun o_60 =>
    Option.bind (ref03_Sum k o_60) fun v_63 =>
    some v_63

def ref10_Bytes (k : Nat) (secret_1 : (List UInt8)) (device_2 : (List UInt8)) (v_3 : (Vector UInt64 16)) : Option (((List UInt8))) :=
 Option.bind (ref01_Vector k v_3) fun v_5 =>
 Option.bind (ref01_Blob k device_2) fun v_8 =>
 Option.bind (apL 1 v_8 v_5) fun x_11 =>
 Option.bind (ref03_Code k secret_1 x_11) fun v_14 =>
 Option.bind (subL (Vector.toList v_14) (0 : Int) (32 : Int)) fun v_16 =>
 Option.bind (apL 1 v_5 v_16) fun b_17 =>
 some b_17

def ref10_Of.b1 (k : Nat) (b_3 : (List UInt8)) (v_10 : (Vector UInt64 16)) (i_11 : Int) : Option (((Vector UInt64 16) × Int) ⊕ (((Vector UInt64 16)))) :=
 lt1 (decide (i_11 < (16 : Int))) fun v_12 =>
 if v_12 = true then
  lt1 (w64 ((8 : Int) * i_11)) fun v_13 =>
  lt1 (w64 ((8 : Int) * i_11)) fun v_14 =>
  lt1 (w64 (v_14 + (8 : Int))) fun v_15 =>
  Option.bind (subL b_3 v_13 v_15) fun v_16 =>
  Option.bind (ref01_Get k v_16) fun v_17 =>
  Option.bind (inV 16 i_11) fun i_18 =>
  lt1 ((putV v_10 i_18 v_17)) fun v_19 =>
  lt1 (w64 (i_11 + (1 : Int))) fun v_20 =>
  some (.inl (v_19, v_20))
 else
  some (.inr v_10)

def ref10_Of (k : Nat) (secret_1 : (List UInt8)) (device_2 : (List UInt8)) (b_3 : (List UInt8)) : Option (((Vector UInt64 16) × Int)) :=
 Option.bind (ref09_MayName k device_2) fun v_5 =>
 lt1 ((!v_5)) fun v_6 =>
 if v_6 = true then
  some ((Vector.replicate 16 (0 : UInt64)), (2 : Int))
 else
  lt1 (((List.length b_3 : Int) == (0 : Int))) fun v_7 =>
  if v_7 = true then
   some ((Vector.replicate 16 (0 : UInt64)), (0 : Int))
  else
   lt1 (((List.length b_3 : Int) != (160 : Int))) fun v_8 =>
   if v_8 = true then
    some ((Vector.replicate 16 (0 : UInt64)), (9 : Int))
   else
    Option.bind (
     loopO (fun s => ref10_Of.b1 k b_3 s.1 s.2) k ((Vector.replicate 16 (0 : UInt64)), (0 : Int))
    ) fun v_21 =>
     Option.bind (
      Option.bind (ref10_May k v_21) fun v_22 =>
      lt1 ((!v_22)) fun v_23 =>
      if v_23 = true then
       some true
      else
       Option.bind (ref10_Bytes k secret_1 device_2 v_21) fun v_24 =>
       lt1 ((v_24 != b_3)) fun v_27 =>
       some v_27
     ) fun x_28 =>
      if x_28 = true then
       some ((Vector.replicate 16 (0 : UInt64)), (9 : Int))
      else
       some (v_21, (0 : Int))

def cursor_Join.b1 (k : Nat) (b_2 : (Vector UInt64 16)) (a_6 : (Vector UInt64 16)) (x_7 : Int) : Option (((Vector UInt64 16) × Int) ⊕ (((Vector UInt64 16)))) :=
 lt1 (decide (x_7 < (16 : Int))) fun v_8 =>
 if v_8 = true then
  Option.bind (idxV b_2 x_7) fun v_9 =>
  Option.bind (inV 16 x_7) fun i_10 =>
  lt1 ((getV a_6 i_10)) fun v_11 =>
  lt1 (maxU v_11 v_9) fun v_12 =>
  Option.bind (inV 16 x_7) fun i_13 =>
  lt1 ((putV a_6 i_13 v_12)) fun a_14 =>
  lt1 (w64 (x_7 + (1 : Int))) fun v_15 =>
  some (.inl (a_14, v_15))
 else
  some (.inr a_6)

def cursor_Join (k : Nat) (a_1 : (Vector UInt64 16)) (b_2 : (Vector UInt64 16)) : Option (((Vector UInt64 16))) :=
 Option.bind (
  loopO (fun s => cursor_Join.b1 k b_2 s.1 s.2) k (a_1, (0 : Int))
 ) fun a_16 =>
  some a_16

def ref09_Join.b1 (k : Nat) (b_2 : (Vector UInt64 16)) (a_6 : (Vector UInt64 16)) (i_7 : Int) : Option (((Vector UInt64 16) × Int) ⊕ (((Vector UInt64 16)))) :=
 lt1 (decide (i_7 < (16 : Int))) fun v_8 =>
 if v_8 = true then
  Option.bind (
   Option.bind (inV 16 i_7) fun i_9 =>
   lt1 ((getV b_2 i_9)) fun v_10 =>
   Option.bind (inV 16 i_7) fun i_11 =>
   lt1 ((getV a_6 i_11)) fun v_12 =>
   lt1 (decide (v_12 < v_10)) fun v_13 =>
   if v_13 = true then
    Option.bind (inV 16 i_7) fun i_14 =>
    lt1 ((getV b_2 i_14)) fun v_15 =>
    Option.bind (inV 16 i_7) fun i_16 =>
    lt1 ((putV a_6 i_16 v_15)) fun a_17 =>
    some a_17
   else
    some a_6
  ) fun a_18 =>
   lt1 (w64 (i_7 + (1 : Int))) fun v_19 =>
   some (.inl (a_18, v_19))
 else
  some (.inr a_6)

def ref09_Join (k : Nat) (a_1 : (Vector UInt64 16)) (b_2 : (Vector UInt64 16)) : Option (((Vector UInt64 16))) :=
 Option.bind (
  loopO (fun s => ref09_Join.b1 k b_2 s.1 s.2) k (a_1, (0 : Int))
 ) fun a_20 =>
  some a_20

def cursor_Covers (k : Nat) (a_1 : (Vector UInt64 16)) (b_2 : (Vector UInt64 16)) : Option ((Bool)) :=
 Option.bind (cursor_Join k a_1 b_2) fun v_5 =>
 lt1 (((eqV (fun x y => x == y)) v_5 a_1)) fun v_6 =>
 some v_6

def ref10_Covers.b1 (k : Nat) (a_1 : (Vector UInt64 16)) (b_2 : (Vector UInt64 16)) (i_5 : Int) : Option ((Int) ⊕ ((Unit) ⊕ ((Bool)))) :=
 lt1 (decide (i_5 < (16 : Int))) fun v_6 =>
 if v_6 = true then
  Option.bind (inV 16 i_5) fun i_7 =>
  lt1 ((getV a_1 i_7)) fun v_8 =>
  Option.bind (inV 16 i_5) fun i_9 =>
  lt1 ((getV b_2 i_9)) fun v_10 =>
  lt1 (decide (v_8 < v_10)) fun v_11 =>
  if v_11 = true then
   some (.inr (.inr false))
  else
   lt1 (w64 (i_5 + (1 : Int))) fun v_12 =>
   some (.inl v_12)
 else
  some (.inr (.inl ()))

def ref10_Covers (k : Nat) (a_1 : (Vector UInt64 16)) (b_2 : (Vector UInt64 16)) : Option ((Bool)) :=
 Option.bind (
  Option.bind (loopO (fun s => ref10_Covers.b1 k a_1 b_2 s) k (0 : Int)) fun t => match t with
  | (.inl _) =>
   some (.inl ())
  | (.inr q) =>
   some (.inr q)
  : Option ((Unit) ⊕ ((Bool)))) fun t => match t with
 | (.inl _) =>
  some true
 | (.inr q) =>
  some q

def law10_CursorBytes (k : Nat) (t_1 : (List UInt8)) (a_2 : (List UInt8)) (a_3 : (Vector UInt64 16)) (a_4 : (Vector UInt64 16)) (a_5 : (List UInt8)) : Option ((Bool)) :=
 Option.bind (
  lt1 (decide ((List.length t_1 : Int) > (300 : Int))) fun v_8 =>
  lt1 (decide ((List.length a_5 : Int) > (9000 : Int))) fun v_9 =>
  lt1 (bif v_8 then true else v_9) fun v_10 =>
  some v_10
 ) fun x_11 =>
  if x_11 = true then
   Option.bind (law10_known k) fun v_12 =>
   some v_12
  else
   Option.bind (cursor_Bytes k t_1 a_2 a_3) fun (v_13, v_14) =>
   Option.bind (
    Option.bind (
     Option.bind (ref09_MayName k a_2) fun v_17 =>
     Option.bind (if v_17 = true then ref10_May k a_3 else some default) fun v_18 =>
     lt1 (bif v_17 then v_18 else false) fun v_19 =>
     some v_19
    ) fun x_20 =>
     if x_20 = true then
      Option.bind (
       Option.bind (ref10_Bytes k t_1 a_2 a_3) fun v_21 =>
       lt1 ((v_13 != v_21)) fun v_24 =>
       Option.bind (if (!v_24) = true then law10_num k v_14 else some default) fun _ =>
       lt1 ((v_14 != (0 : Int))) fun v_26 =>
       lt1 (bif v_24 then true else v_26) fun v_27 =>
       some v_27
      ) fun x_28 =>
       if x_28 = true then
        some (.inr false)
       else
        some (.inl ())
     else
      Option.bind (
       lt1 (((List.length v_13 : Int) != (0 : Int))) fun v_29 =>
       Option.bind (if (!v_29) = true then law10_num k v_14 else some default) fun _ =>
       lt1 ((v_14 != (2 : Int))) fun v_31 =>
       lt1 (bif v_29 then true else v_31) fun v_32 =>
       some v_32
      ) fun x_33 =>
       if x_33 = true then
        some (.inr false)
       else
        some (.inl ())
    : Option ((Unit) ⊕ ((Bool)))) fun t => match t with
   | (.inl _) =>
    Option.bind (cursor_Of k t_1 a_2 a_5) fun (v_34, v_35) =>
    Option.bind (ref10_Of k t_1 a_2 a_5) fun (v_37, v_38) =>
    Option.bind (
     lt1 (((eqV (fun x y => x == y)) v_34 v_37)) fun v_40 =>
     Option.bind (if v_40 = true then law10_num k v_35 else some default) fun _ =>
     lt1 ((v_35 == v_38)) fun v_42 =>
     lt1 (bif v_40 then v_42 else false) fun v_43 =>
     Option.bind (if v_43 = true then cursor_May k a_3 else some default) fun v_44 =>
     Option.bind (if v_43 = true then ref10_May k a_3 else some default) fun v_45 =>
     lt1 ((v_44 == v_45)) fun v_46 =>
     lt1 (bif v_43 then v_46 else false) fun v_47 =>
     Option.bind (if v_47 = true then cursor_Join k a_3 a_4 else some default) fun v_48 =>
     Option.bind (if v_47 = true then ref09_Join k a_3 a_4 else some default) fun v_49 =>
     lt1 (((eqV (fun x y => x == y)) v_48 v_49)) fun v_50 =>
     lt1 (bif v_47 then v_50 else false) fun v_51 =>
     Option.bind (if v_51 = true then cursor_Covers k a_3 a_4 else some default) fun v_52 =>
     Option.bind (if v_51 = true then ref10_Covers k a_3 a_4 else some default) fun v_53 =>
     lt1 ((v_52 == v_53)) fun v_54 =>
     lt1 (bif v_51 then v_54 else false) fun v_55 =>
     Option.bind (if v_55 = true then law10_known k else some default) fun v_56 =>
     lt1 (bif v_55 then v_56 else false) fun v_57 =>
     some v_57
    ) fun x_58 =>
     some x_58
   | (.inr q) =>
    some q

def law10_CursorJoins (k : Nat) (t_1 : (Vector UInt64 16)) (a_2 : (Vector UInt64 16)) (a_3 : (Vector UInt64 16)) : Option ((Bool)) :=
 Option.bind (cursor_Join k t_1 a_2) fun v_7 =>
 Option.bind (
  Option.bind (cursor_Covers k v_7 t_1) fun v_9 =>
  lt1 ((!v_9)) fun v_10 =>
  Option.bind (if (!v_10) = true then cursor_Covers k v_7 a_2 else some default) fun v_11 =>
  lt1 ((!v_11)) fun v_12 =>
  lt1 (bif v_10 then true else v_12) fun v_13 =>
  Option.bind (if (!v_13) = true then cursor_Join k a_2 t_1 else some default) fun v_14 =>
  lt1 ((!((eqV (fun x y => x == y)) v_14 v_7))) fun v_15 =>
  lt1 (bif v_13 then true else v_15) fun v_16 =>
  Option.bind (if (!v_16) = true then cursor_Covers k a_3 t_1 else some default) fun v_17 =>
  Option.bind (if ((!v_16) && v_17) = true then cursor_Covers k a_3 a_2 else some default) fun v_18 =>
  lt1 (bif v_17 then v_18 else false) fun v_19 =>
  Option.bind (if ((!v_16) && v_19) = true then cursor_Covers k a_3 v_7 else some default) fun v_20 =>
  lt1 ((!v_20)) fun v_21 =>
  lt1 (bif v_19 then v_21 else false) fun v_22 =>
  lt1 (bif v_16 then true else v_22) fun v_23 =>
  some v_23
 ) fun x_24 =>
  if x_24 = true then
   some false
  else
   Option.bind (
    Option.bind (cursor_Covers k t_1 t_1) fun v_25 =>
    Option.bind (if v_25 = true then cursor_Covers k t_1 a_2 else some default) fun v_26 =>
    lt1 ((!v_26)) fun v_27 =>
    Option.bind (if (v_25 && (!v_27)) = true then cursor_Covers k a_2 t_1 else some default) fun v_28 =>
    lt1 ((!v_28)) fun v_29 =>
    lt1 (bif v_27 then true else v_29) fun v_30 =>
    lt1 (((eqV (fun x y => x == y)) t_1 a_2)) fun v_31 =>
    lt1 (bif v_30 then true else v_31) fun v_32 =>
    lt1 (bif v_25 then v_32 else false) fun v_33 =>
    Option.bind (if v_33 = true then cursor_Covers k t_1 a_2 else some default) fun v_34 =>
    lt1 ((!v_34)) fun v_35 =>
    Option.bind (if (v_33 && (!v_35)) = true then cursor_Covers k a_2 a_3 else some default) fun v_36 =>
    lt1 ((!v_36)) fun v_37 =>
    lt1 (bif v_35 then true else v_37) fun v_38 =>
    Option.bind (if (v_33 && (!v_38)) = true then cursor_Covers k t_1 a_3 else some default) fun v_39 =>
    lt1 (bif v_38 then true else v_39) fun v_40 =>
    lt1 (bif v_33 then v_40 else false) fun v_41 =>
    Option.bind (if v_41 = true then law10_known k else some default) fun v_42 =>
    lt1 (bif v_41 then v_42 else false) fun v_43 =>
    some v_43
   ) fun x_44 =>
    some x_44

end
end Go.Proofs.Ytnhiiabdoichlaa
