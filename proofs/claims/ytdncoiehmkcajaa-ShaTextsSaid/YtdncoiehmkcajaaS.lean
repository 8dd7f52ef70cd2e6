/- The functions as plain Lean functions: no program and no memory here. -/
import Derived.Test.YtdncoiehmkcajaaFp
namespace Go.Proofs.Ytdncoiehmkcajaa
open Fw
set_option linter.unusedVariables false
noncomputable section

structure sha_state where
  h : (Vector UInt32 8)
  k : (Vector UInt32 64)
  deriving DecidableEq, Inhabited

def eq_sha_state (x y : sha_state) : Bool := ((eqV (fun x y => x == y)) x.h y.h && ((eqV (fun x y => x == y)) x.k y.k && true))
theorem eq_sha_state_iff {x y : sha_state} : eq_sha_state x y = true ↔ x = y := by
  cases x; cases y; simp [eq_sha_state, eqV_iff (fun _ _ => beq_iff_eq), eqV_iff (fun _ _ => beq_iff_eq)]

def ref01_Much.b1 (k : Nat) (l_1 : (List (List UInt8))) (most_2 : Int) (n_3 : Int) (i_4 : Int) : Option ((Int × Int) ⊕ ((Int))) :=
  Option.bind (
    lt1 (decide (i_4 < (List.length l_1 : Int))) fun v_5 =>
    lt1 (decide (n_3 ≤ most_2)) fun v_6 =>
    lt1 (bif v_5 then v_6 else false) fun v_7 =>
    some v_7
  ) fun x_8 =>
    if x_8 = true then
      Option.bind (idxL l_1 i_4) fun v_9 =>
      lt1 (w64 (most_2 + (1 : Int))) fun v_10 =>
      lt1 (minI (List.length v_9 : Int) v_10) fun v_11 =>
      lt1 (w64 (n_3 + v_11)) fun v_12 =>
      lt1 (w64 (i_4 + (1 : Int))) fun v_13 =>
      some (.inl (v_12, v_13))
    else
      some (.inr n_3)

def ref01_Much (k : Nat) (l_1 : (List (List UInt8))) (most_2 : Int) : Option ((Bool)) :=
  Option.bind (
    loopO (fun s => ref01_Much.b1 k l_1 most_2 s.1 s.2) k ((List.length l_1 : Int), (0 : Int))
  ) fun n_14 =>
    lt1 (decide (n_14 > most_2)) fun v_15 =>
    some v_15

def sha_primes_1 (k : Nat) (p_1 : UInt64) (x_2 : UInt64) : Option ((Bool)) :=
  Option.bind (modU x_2 p_1) fun v_4 =>
  lt1 ((v_4 == (0 : UInt64))) fun v_5 =>
  some v_5

def slices_IndexFuncuint64_uint64.b1 (k : Nat) (s_1 : (List UInt64)) (x_2 : UInt64) (x_4 : Int) : Option ((Int) ⊕ ((Unit) ⊕ ((Int)))) :=
  lt1 (decide (x_4 < (List.length s_1 : Int))) fun v_5 =>
  if v_5 = true then
    Option.bind (idxL s_1 x_4) fun v_6 =>
    Option.bind (sha_primes_1 k v_6 x_2) fun v_7 =>
    if v_7 = true then
      some (.inr (.inr x_4))
    else
      lt1 (w64 (x_4 + (1 : Int))) fun v_8 =>
      some (.inl v_8)
  else
    some (.inr (.inl ()))

def slices_IndexFuncuint64_uint64 (k : Nat) (s_1 : (List UInt64)) (x_2 : UInt64) : Option ((Int)) :=
  Option.bind (
    Option.bind (loopO (fun s => slices_IndexFuncuint64_uint64.b1 k s_1 x_2 s) k (0 : Int)) fun t => match t with
    | (.inl _) =>
      some (.inl ())
    | (.inr q) =>
      some (.inr q)
   : Option ((Unit) ⊕ ((Int)))) fun t => match t with
  | (.inl _) =>
    some (-1 : Int)
  | (.inr q) =>
    some q

def slices_ContainsFuncuint64_uint64 (k : Nat) (s_1 : (List UInt64)) (x_2 : UInt64) : Option ((Bool)) :=
  Option.bind (slices_IndexFuncuint64_uint64 k s_1 x_2) fun v_4 =>
  lt1 (decide (v_4 ≥ (0 : Int))) fun v_5 =>
  some v_5

def sha_primes.b1 (k : Nat) (l_2 : (List UInt64)) (n_3 : UInt64) : Option (((List UInt64) × UInt64) ⊕ (((List UInt64)))) :=
  lt1 (decide ((List.length l_2 : Int) < (64 : Int))) fun v_7 =>
  if v_7 = true then
    Option.bind (
      Option.bind (slices_ContainsFuncuint64_uint64 k l_2 n_3) fun v_8 =>
      lt1 ((!v_8)) fun v_9 =>
      if v_9 = true then
        Option.bind (apL 8 l_2 ([n_3] : (List UInt64))) fun x_10 =>
        some x_10
      else
        some l_2
    ) fun l_13 =>
      lt1 ((n_3 + (1 : UInt64))) fun v_17 =>
      some (.inl (l_13, v_17))
  else
    some (.inr l_2)

def sha_primes (k : Nat) : Option (((List UInt64))) :=
  Option.bind (
    loopO (fun s => sha_primes.b1 k s.1 s.2) k (([] : (List UInt64)), (2 : UInt64))
  ) fun l_18 =>
    some l_18

def math_bits_Mul64 (k : Nat) (x_1 : UInt64) (y_2 : UInt64) : Option ((UInt64 × UInt64)) :=
  lt1 ((x_1 &&& (4294967295 : UInt64))) fun v_3 =>
  lt1 (UN.shr x_1 (UN.toN (32 : UInt64))) fun v_4 =>
  lt1 ((y_2 &&& (4294967295 : UInt64))) fun v_5 =>
  lt1 (UN.shr y_2 (UN.toN (32 : UInt64))) fun v_6 =>
  lt1 ((v_3 * v_5)) fun v_7 =>
  lt1 ((v_4 * v_5)) fun v_8 =>
  lt1 (UN.shr v_7 (UN.toN (32 : UInt64))) fun v_9 =>
  lt1 ((v_8 + v_9)) fun v_10 =>
  lt1 ((v_10 &&& (4294967295 : UInt64))) fun v_11 =>
  lt1 (UN.shr v_10 (UN.toN (32 : UInt64))) fun v_12 =>
  lt1 ((v_3 * v_6)) fun v_13 =>
  lt1 ((v_11 + v_13)) fun v_14 =>
  lt1 ((v_4 * v_6)) fun v_15 =>
  lt1 ((v_15 + v_12)) fun v_16 =>
  lt1 (UN.shr v_14 (UN.toN (32 : UInt64))) fun v_17 =>
  lt1 ((v_16 + v_17)) fun v_18 =>
  lt1 ((x_1 * y_2)) fun v_19 =>
  some (v_18, v_19)

def sha_square (k : Nat) (x_1 : UInt64) : Option (((Vector UInt64 2))) :=
  Option.bind (math_bits_Mul64 k x_1 x_1) fun (v_3, v_4) =>
  some (#v[v_3, v_4] : (Vector UInt64 2))

def sha_cube (k : Nat) (x_1 : UInt64) : Option (((Vector UInt64 2) × Bool)) :=
  Option.bind (sha_square k x_1) fun v_3 =>
  Option.bind (inV 2 (1 : Int)) fun i_5 =>
  lt1 ((getV v_3 i_5)) fun v_6 =>
  Option.bind (math_bits_Mul64 k v_6 x_1) fun (v_7, v_8) =>
  Option.bind (inV 2 (0 : Int)) fun i_9 =>
  lt1 ((getV v_3 i_9)) fun v_10 =>
  Option.bind (math_bits_Mul64 k v_10 x_1) fun (v_11, v_12) =>
  Option.bind (add64 v_12 v_7 (0 : UInt64)) fun (s_13, o_14) =>
  lt1 ((v_11 + o_14)) fun v_15 =>
  lt1 (UN.shl v_15 (UN.toN (32 : UInt64))) fun v_16 =>
  lt1 (UN.shr s_13 (UN.toN (32 : UInt64))) fun v_17 =>
  lt1 ((v_16 ||| v_17)) fun v_18 =>
  lt1 (UN.shl s_13 (UN.toN (32 : UInt64))) fun v_19 =>
  lt1 (UN.shr v_8 (UN.toN (32 : UInt64))) fun v_20 =>
  lt1 ((v_19 ||| v_20)) fun v_21 =>
  lt1 (UN.shl v_8 (UN.toN (32 : UInt64))) fun v_22 =>
  lt1 ((!(v_22 == (0 : UInt64)))) fun v_23 =>
  some ((#v[v_18, v_21] : (Vector UInt64 2)), v_23)

def sha_above (k : Nat) (x_1 : (Vector UInt64 2)) (lost_2 : Bool) (p_3 : UInt64) : Option ((Bool)) :=
  Option.bind (
    Option.bind (inV 2 (0 : Int)) fun i_5 =>
    lt1 ((getV x_1 i_5)) fun v_6 =>
    lt1 (decide (p_3 < v_6)) fun v_7 =>
    if v_7 = true then
      some true
    else
      Option.bind (inV 2 (0 : Int)) fun i_8 =>
      lt1 ((getV x_1 i_8)) fun v_9 =>
      lt1 ((v_9 == p_3)) fun v_10 =>
      if v_10 = true then
        Option.bind (inV 2 (1 : Int)) fun i_11 =>
        lt1 ((getV x_1 i_11)) fun v_12 =>
        lt1 (decide ((0 : UInt64) < v_12)) fun v_13 =>
        lt1 (bif v_13 then true else lost_2) fun v_14 =>
        some v_14
      else
        some false
  ) fun x_15 =>
    some x_15

def sha_constant_1 (k : Nat) (x_1 : UInt64) (x_2 : UInt64) : Option ((Bool)) :=
  Option.bind (sha_cube k x_1) fun (v_4, v_5) =>
  Option.bind (sha_above k v_4 v_5 x_2) fun v_7 =>
  some v_7

def sha_root.b1 (k : Nat) (x_1 : UInt64) (x_3 : UInt64) (x_4 : Int) : Option ((UInt64 × Int) ⊕ ((UInt64))) :=
  lt1 (decide (x_4 < (38 : Int))) fun v_5 =>
  if v_5 = true then
    Option.bind (
      lt1 (w64 ((37 : Int) - x_4)) fun v_6 =>
      Option.bind (shlU (1 : UInt64) v_6) fun v_7 =>
      lt1 ((x_3 ||| v_7)) fun v_8 =>
      Option.bind (sha_constant_1 k v_8 x_1) fun v_9 =>
      lt1 ((!v_9)) fun v_10 =>
      if v_10 = true then
        some v_8
      else
        some x_3
    ) fun x_11 =>
      lt1 (w64 (x_4 + (1 : Int))) fun v_12 =>
      some (.inl (x_11, v_12))
  else
    some (.inr x_3)

def sha_root (k : Nat) (x_1 : UInt64) : Option ((UInt32)) :=
  Option.bind (
    loopO (fun s => sha_root.b1 k x_1 s.1 s.2) k ((0 : UInt64), (0 : Int))
  ) fun x_13 =>
    lt1 ((UN.to x_13 : UInt32)) fun v_14 =>
    some v_14

def sha_constant (k : Nat) (p_1 : UInt64) : Option ((UInt32)) :=
  Option.bind (sha_root k p_1) fun v_3 =>
  some v_3

def sha_start_1 (k : Nat) (x_1 : UInt64) (x_2 : UInt64) : Option ((Bool)) :=
  Option.bind (sha_square k x_1) fun v_4 =>
  Option.bind (sha_above k v_4 false x_2) fun v_5 =>
  some v_5

def sha_root'2.b1 (k : Nat) (x_1 : UInt64) (x_3 : UInt64) (x_4 : Int) : Option ((UInt64 × Int) ⊕ ((UInt64))) :=
  lt1 (decide (x_4 < (38 : Int))) fun v_5 =>
  if v_5 = true then
    Option.bind (
      lt1 (w64 ((37 : Int) - x_4)) fun v_6 =>
      Option.bind (shlU (1 : UInt64) v_6) fun v_7 =>
      lt1 ((x_3 ||| v_7)) fun v_8 =>
      Option.bind (sha_start_1 k v_8 x_1) fun v_9 =>
      lt1 ((!v_9)) fun v_10 =>
      if v_10 = true then
        some v_8
      else
        some x_3
    ) fun x_11 =>
      lt1 (w64 (x_4 + (1 : Int))) fun v_12 =>
      some (.inl (x_11, v_12))
  else
    some (.inr x_3)

def sha_root'2 (k : Nat) (x_1 : UInt64) : Option ((UInt32)) :=
  Option.bind (
    loopO (fun s => sha_root'2.b1 k x_1 s.1 s.2) k ((0 : UInt64), (0 : Int))
  ) fun x_13 =>
    lt1 ((UN.to x_13 : UInt32)) fun v_14 =>
    some v_14

def sha_start (k : Nat) (p_1 : UInt64) : Option ((UInt32)) :=
  Option.bind (sha_root'2 k p_1) fun v_3 =>
  some v_3

def sha_begun.b1 (k : Nat) (v_3 : (List UInt64)) (s_6 : sha_state) (x_7 : Int) : Option ((sha_state × Int) ⊕ ((sha_state))) :=
  lt1 (decide (x_7 < (List.length v_3 : Int))) fun v_8 =>
  if v_8 = true then
    Option.bind (
      Option.bind (inO v_3 x_7) fun i_9 =>
      Option.bind (v_3[i_9]?) fun v_10 =>
      Option.bind (sha_constant k v_10) fun v_11 =>
      Option.bind (inV 64 x_7) fun i_12 =>
      lt1 ({ s_6 with k := (putV s_6.k i_12 v_11) }) fun s_13 =>
      lt1 (decide (x_7 < (8 : Int))) fun v_14 =>
      if v_14 = true then
        Option.bind (sha_start k v_10) fun v_15 =>
        Option.bind (inV 8 x_7) fun i_16 =>
        lt1 ({ s_13 with h := (putV s_13.h i_16 v_15) }) fun s_17 =>
        some s_17
      else
        some s_13
    ) fun s_18 =>
      lt1 (w64 (x_7 + (1 : Int))) fun v_19 =>
      some (.inl (s_18, v_19))
  else
    some (.inr s_6)

def sha_begun (k : Nat) : Option ((sha_state)) :=
  Option.bind (
    Option.bind (sha_primes k) fun v_3 =>
    loopO (fun s => sha_begun.b1 k v_3 s.1 s.2) k ((sha_state.mk (Vector.replicate 8 (0 : UInt32)) (Vector.replicate 64 (0 : UInt32))), (0 : Int))
  ) fun s_20 =>
    some s_20

def slices_Growbyte_byte (k : Nat) (n_1 : Int) : Option ((Unit)) :=
  Option.bind (
    lt1 (decide (n_1 < (0 : Int))) fun v_2 =>
    if v_2 = true then
      none
    else
      some ()
  ) fun _ =>
    Option.bind (
      lt1 (w64 ((0 : Int) - (0 : Int))) fun v_3 =>
      lt1 (w64 (n_1 - v_3)) fun v_4 =>
      lt1 (decide (v_4 > (0 : Int))) fun v_5 =>
      if v_5 = true then
        Option.bind (apZ 1 ([] : (List UInt8)) v_4 (0 : UInt8)) fun v_6 =>
        some ()
      else
        some ()
    ) fun _ =>
      some ()

def slices_Concatbyte_byte.b1 (k : Nat) (slices_1 : (List (List UInt8))) (size_2 : Int) (x_3 : Int) : Option ((Int × Int) ⊕ ((Int))) :=
  lt1 (decide (x_3 < (List.length slices_1 : Int))) fun v_4 =>
  if v_4 = true then
    Option.bind (
      Option.bind (idxL slices_1 x_3) fun v_5 =>
      lt1 (w64 (size_2 + (List.length v_5 : Int))) fun v_6 =>
      lt1 (decide (v_6 < (0 : Int))) fun v_7 =>
      if v_7 = true then
        none
      else
        some v_6
    ) fun size_8 =>
      lt1 (w64 (x_3 + (1 : Int))) fun v_9 =>
      some (.inl (size_8, v_9))
  else
    some (.inr size_2)

def slices_Concatbyte_byte.b2 (k : Nat) (slices_1 : (List (List UInt8))) (newslice_14 : (List UInt8)) (x_15 : Int) : Option (((List UInt8) × Int) ⊕ (((List UInt8)))) :=
  lt1 (decide (x_15 < (List.length slices_1 : Int))) fun v_18 =>
  if v_18 = true then
    Option.bind (idxL slices_1 x_15) fun v_19 =>
    Option.bind (apL 1 newslice_14 v_19) fun newslice_20 =>
    lt1 (w64 (x_15 + (1 : Int))) fun v_23 =>
    some (.inl (newslice_20, v_23))
  else
    some (.inr newslice_14)

def slices_Concatbyte_byte (k : Nat) (slices_1 : (List (List UInt8))) : Option (((List UInt8))) :=
  Option.bind (
    loopO (fun s => slices_Concatbyte_byte.b1 k slices_1 s.1 s.2) k ((0 : Int), (0 : Int))
  ) fun size_10 =>
    Option.bind (slices_Growbyte_byte k size_10) fun _ =>
    Option.bind (
      loopO (fun s => slices_Concatbyte_byte.b2 k slices_1 s.1 s.2) k (([] : (List UInt8)), (0 : Int))
    ) fun newslice_24 =>
      some newslice_24

def math_bits_RotateLeft32 (k : Nat) (x_1 : UInt32) (k_2 : Int) : Option ((UInt32)) :=
  lt1 ((UN.ofI k_2 : UInt64)) fun v_3 =>
  lt1 ((v_3 &&& (31 : UInt64))) fun v_4 =>
  lt1 (UN.shl x_1 (UN.toN v_4)) fun v_5 =>
  lt1 (((32 : UInt64) - v_4)) fun v_6 =>
  lt1 (UN.shr x_1 (UN.toN v_6)) fun v_7 =>
  lt1 ((v_5 ||| v_7)) fun v_8 =>
  some v_8

def sha_state_press_1.b1 (k : Nat) (l_2 : (List Int)) (x_1 : UInt32) (y_3 : UInt32) (x_4 : Int) : Option ((UInt32 × Int) ⊕ ((UInt32))) :=
  lt1 (decide (x_4 < (List.length l_2 : Int))) fun v_5 =>
  if v_5 = true then
    Option.bind (idxL l_2 x_4) fun v_6 =>
    lt1 (w64 (0 - v_6)) fun v_7 =>
    Option.bind (math_bits_RotateLeft32 k x_1 v_7) fun v_8 =>
    lt1 ((y_3 ^^^ v_8)) fun v_9 =>
    lt1 (w64 (x_4 + (1 : Int))) fun v_10 =>
    some (.inl (v_9, v_10))
  else
    some (.inr y_3)

def sha_state_press_1 (k : Nat) (x_1 : UInt32) (l_2 : (List Int)) : Option ((UInt32)) :=
  Option.bind (
    loopO (fun s => sha_state_press_1.b1 k l_2 x_1 s.1 s.2) k ((0 : UInt32), (0 : Int))
  ) fun y_11 =>
    some y_11

def sha_state_press.b2 (k : Nat) (v_11 : (List UInt8)) (x_6 : Int) (x_12 : (Vector UInt32 64)) (x_13 : Int) : Option (((Vector UInt32 64) × Int) ⊕ (((Vector UInt32 64)))) :=
  lt1 (decide (x_13 < (List.length v_11 : Int))) fun v_14 =>
  if v_14 = true then
    Option.bind (idxL v_11 x_13) fun v_15 =>
    Option.bind (inV 64 x_6) fun i_16 =>
    lt1 ((getV x_12 i_16)) fun v_17 =>
    lt1 (UN.shl v_17 (UN.toN (8 : UInt64))) fun v_18 =>
    lt1 ((UN.to v_15 : UInt32)) fun v_19 =>
    lt1 ((v_18 ||| v_19)) fun v_20 =>
    Option.bind (inV 64 x_6) fun i_21 =>
    lt1 ((putV x_12 i_21 v_20)) fun x_22 =>
    lt1 (w64 (x_13 + (1 : Int))) fun v_23 =>
    some (.inl (x_22, v_23))
  else
    some (.inr x_12)

def sha_state_press.b1 (k : Nat) (a_1 : (List UInt8)) (x_5 : (Vector UInt32 64)) (x_6 : Int) : Option (((Vector UInt32 64) × Int) ⊕ (((Vector UInt32 64)))) :=
  lt1 (decide (x_6 < (16 : Int))) fun v_7 =>
  if v_7 = true then
    Option.bind (
      lt1 (w64 ((4 : Int) * x_6)) fun v_8 =>
      lt1 (w64 ((4 : Int) * x_6)) fun v_9 =>
      lt1 (w64 (v_9 + (4 : Int))) fun v_10 =>
      Option.bind (subL a_1 v_8 v_10) fun v_11 =>
      loopO (fun s => sha_state_press.b2 k v_11 x_6 s.1 s.2) k (x_5, (0 : Int))
    ) fun x_24 =>
      lt1 (w64 (x_6 + (1 : Int))) fun v_25 =>
      some (.inl (x_24, v_25))
  else
    some (.inr x_5)

def sha_state_press.b3 (k : Nat) (x_27 : (Vector UInt32 64)) (x_28 : Int) : Option (((Vector UInt32 64) × Int) ⊕ (((Vector UInt32 64)))) :=
  lt1 (decide (x_28 < (64 : Int))) fun v_29 =>
  if v_29 = true then
    lt1 (w64 (x_28 - (15 : Int))) fun v_30 =>
    Option.bind (inV 64 v_30) fun i_31 =>
    lt1 ((getV x_27 i_31)) fun v_32 =>
    lt1 (w64 (x_28 - (2 : Int))) fun v_33 =>
    Option.bind (inV 64 v_33) fun i_34 =>
    lt1 ((getV x_27 i_34)) fun v_35 =>
    lt1 (w64 (x_28 - (16 : Int))) fun v_36 =>
    Option.bind (inV 64 v_36) fun i_37 =>
    lt1 ((getV x_27 i_37)) fun v_38 =>
    Option.bind (sha_state_press_1 k v_32 ([(7 : Int), (18 : Int)] : (List Int))) fun v_39 =>
    lt1 (UN.shr v_32 (UN.toN (3 : UInt64))) fun v_40 =>
    lt1 ((v_39 ^^^ v_40)) fun v_41 =>
    lt1 ((v_38 + v_41)) fun v_42 =>
    lt1 (w64 (x_28 - (7 : Int))) fun v_43 =>
    Option.bind (inV 64 v_43) fun i_44 =>
    lt1 ((getV x_27 i_44)) fun v_45 =>
    lt1 ((v_42 + v_45)) fun v_46 =>
    Option.bind (sha_state_press_1 k v_35 ([(17 : Int), (19 : Int)] : (List Int))) fun v_47 =>
    lt1 (UN.shr v_35 (UN.toN (10 : UInt64))) fun v_48 =>
    lt1 ((v_47 ^^^ v_48)) fun v_49 =>
    lt1 ((v_46 + v_49)) fun v_50 =>
    Option.bind (inV 64 x_28) fun i_51 =>
    lt1 ((putV x_27 i_51 v_50)) fun x_52 =>
    lt1 (w64 (x_28 + (1 : Int))) fun v_53 =>
    some (.inl (x_52, v_53))
  else
    some (.inr x_27)

def sha_state_press.b4 (k : Nat) (t_2 : sha_state) (x_54 : (Vector UInt32 64)) (x_71 : UInt32) (x_72 : UInt32) (x_73 : UInt32) (x_74 : UInt32) (x_75 : UInt32) (x_76 : UInt32) (x_77 : UInt32) (x_78 : UInt32) (x_79 : Int) : Option ((UInt32 × UInt32 × UInt32 × UInt32 × UInt32 × UInt32 × UInt32 × UInt32 × Int) ⊕ ((UInt32 × UInt32 × UInt32 × UInt32 × UInt32 × UInt32 × UInt32 × UInt32))) :=
  lt1 (decide (x_79 < (64 : Int))) fun v_80 =>
  if v_80 = true then
    Option.bind (sha_state_press_1 k x_75 ([(6 : Int), (11 : Int), (25 : Int)] : (List Int))) fun v_81 =>
    lt1 ((x_78 + v_81)) fun v_82 =>
    lt1 ((x_75 &&& x_76)) fun v_83 =>
    lt1 ((UN.not x_75)) fun v_84 =>
    lt1 ((v_84 &&& x_77)) fun v_85 =>
    lt1 ((v_83 ^^^ v_85)) fun v_86 =>
    lt1 ((v_82 + v_86)) fun v_87 =>
    Option.bind (inV 64 x_79) fun i_88 =>
    lt1 ((getV t_2.k i_88)) fun v_89 =>
    lt1 ((v_87 + v_89)) fun v_90 =>
    Option.bind (inV 64 x_79) fun i_91 =>
    lt1 ((getV x_54 i_91)) fun v_92 =>
    lt1 ((v_90 + v_92)) fun v_93 =>
    Option.bind (sha_state_press_1 k x_71 ([(2 : Int), (13 : Int), (22 : Int)] : (List Int))) fun v_94 =>
    lt1 ((x_71 &&& x_72)) fun v_95 =>
    lt1 ((x_71 &&& x_73)) fun v_96 =>
    lt1 ((v_95 ^^^ v_96)) fun v_97 =>
    lt1 ((x_72 &&& x_73)) fun v_98 =>
    lt1 ((v_97 ^^^ v_98)) fun v_99 =>
    lt1 ((v_94 + v_99)) fun v_100 =>
    lt1 ((v_93 + v_100)) fun v_101 =>
    lt1 ((x_74 + v_93)) fun v_102 =>
    lt1 (w64 (x_79 + (1 : Int))) fun v_103 =>
    some (.inl (v_101, x_71, x_72, x_73, v_102, x_75, x_76, x_77, v_103))
  else
    some (.inr (x_71, x_72, x_73, x_74, x_75, x_76, x_77, x_78))

def sha_state_press.b5 (k : Nat) (x_104 : UInt32) (x_105 : UInt32) (x_106 : UInt32) (x_107 : UInt32) (x_108 : UInt32) (x_109 : UInt32) (x_110 : UInt32) (x_111 : UInt32) (t_112 : sha_state) (x_113 : Int) : Option ((sha_state × Int) ⊕ ((sha_state))) :=
  lt1 (decide (x_113 < (8 : Int))) fun v_114 =>
  if v_114 = true then
    Option.bind (idxV (#v[x_104, x_105, x_106, x_107, x_108, x_109, x_110, x_111] : (Vector UInt32 8)) x_113) fun v_115 =>
    Option.bind (inV 8 x_113) fun i_116 =>
    lt1 ((getV t_112.h i_116)) fun v_117 =>
    lt1 ((v_117 + v_115)) fun v_118 =>
    Option.bind (inV 8 x_113) fun i_119 =>
    lt1 ({ t_112 with h := (putV t_112.h i_119 v_118) }) fun t_120 =>
    lt1 (w64 (x_113 + (1 : Int))) fun v_121 =>
    some (.inl (t_120, v_121))
  else
    some (.inr t_112)

def sha_state_press (k : Nat) (a_1 : (List UInt8)) (t_2 : sha_state) : Option ((sha_state)) :=
  Option.bind (
    loopO (fun s => sha_state_press.b1 k a_1 s.1 s.2) k ((Vector.replicate 64 (0 : UInt32)), (0 : Int))
  ) fun x_26 =>
    Option.bind (
      loopO (fun s => sha_state_press.b3 k s.1 s.2) k (x_26, (16 : Int))
    ) fun x_54 =>
      Option.bind (inV 8 (0 : Int)) fun i_55 =>
      lt1 ((getV t_2.h i_55)) fun v_56 =>
      Option.bind (inV 8 (1 : Int)) fun i_57 =>
      lt1 ((getV t_2.h i_57)) fun v_58 =>
      Option.bind (inV 8 (2 : Int)) fun i_59 =>
      lt1 ((getV t_2.h i_59)) fun v_60 =>
      Option.bind (inV 8 (3 : Int)) fun i_61 =>
      lt1 ((getV t_2.h i_61)) fun v_62 =>
      Option.bind (inV 8 (4 : Int)) fun i_63 =>
      lt1 ((getV t_2.h i_63)) fun v_64 =>
      Option.bind (inV 8 (5 : Int)) fun i_65 =>
      lt1 ((getV t_2.h i_65)) fun v_66 =>
      Option.bind (inV 8 (6 : Int)) fun i_67 =>
      lt1 ((getV t_2.h i_67)) fun v_68 =>
      Option.bind (inV 8 (7 : Int)) fun i_69 =>
      lt1 ((getV t_2.h i_69)) fun v_70 =>
      Option.bind (
        loopO (fun s => sha_state_press.b4 k t_2 x_54 s.1 s.2.1 s.2.2.1 s.2.2.2.1 s.2.2.2.2.1 s.2.2.2.2.2.1 s.2.2.2.2.2.2.1 s.2.2.2.2.2.2.2.1 s.2.2.2.2.2.2.2.2) k (v_56, v_58, v_60, v_62, v_64, v_66, v_68, v_70, (0 : Int))
      ) fun (x_104, x_105, x_106, x_107, x_108, x_109, x_110, x_111) =>
        loopO (fun s => sha_state_press.b5 k x_104 x_105 x_106 x_107 x_108 x_109 x_110 x_111 s.1 s.2) k (t_2, (0 : Int))

def sha_state_hash.b1 (k : Nat) (v_9 : UInt64) (b_19 : (List UInt8)) (x_20 : Int) : Option (((List UInt8) × Int) ⊕ (((List UInt8)))) :=
  lt1 (decide (x_20 < (8 : Int))) fun v_23 =>
  if v_23 = true then
    lt1 (w64 ((8 : Int) * x_20)) fun v_24 =>
    lt1 (w64 ((56 : Int) - v_24)) fun v_25 =>
    Option.bind (shrU v_9 v_25) fun v_26 =>
    lt1 ((UN.to v_26 : UInt8)) fun v_27 =>
    Option.bind (apL 1 b_19 ([v_27] : (List UInt8))) fun b_28 =>
    lt1 (w64 (x_20 + (1 : Int))) fun v_31 =>
    some (.inl (b_28, v_31))
  else
    some (.inr b_19)

def sha_state_hash.b2 (k : Nat) (s_35 : sha_state) (b_36 : (List UInt8)) : Option ((sha_state × (List UInt8)) ⊕ ((sha_state))) :=
  lt1 (decide ((List.length b_36 : Int) > (0 : Int))) fun v_37 =>
  if v_37 = true then
    Option.bind (subL b_36 (0) (64 : Int)) fun v_38 =>
    Option.bind (sha_state_press k v_38 s_35) fun x_39 =>
    Option.bind (subL b_36 (64 : Int) (List.length b_36 : Int)) fun v_40 =>
    some (.inl (x_39, v_40))
  else
    some (.inr s_35)

def sha_state_hash.b3 (k : Nat) (s_41 : sha_state) (out_42 : (Vector UInt8 32)) (x_43 : Int) : Option (((Vector UInt8 32) × Int) ⊕ (((Vector UInt8 32)))) :=
  lt1 (decide (x_43 < (32 : Int))) fun v_44 =>
  if v_44 = true then
    Option.bind (divI x_43 (4 : Int)) fun v_45 =>
    Option.bind (inV 8 v_45) fun i_46 =>
    lt1 ((getV s_41.h i_46)) fun v_47 =>
    Option.bind (modI x_43 (4 : Int)) fun v_48 =>
    lt1 (w64 ((8 : Int) * v_48)) fun v_49 =>
    lt1 (w64 ((24 : Int) - v_49)) fun v_50 =>
    Option.bind (shrU v_47 v_50) fun v_51 =>
    lt1 ((UN.to v_51 : UInt8)) fun v_52 =>
    Option.bind (inV 32 x_43) fun i_53 =>
    lt1 ((putV out_42 i_53 v_52)) fun out_54 =>
    lt1 (w64 (x_43 + (1 : Int))) fun v_55 =>
    some (.inl (out_54, v_55))
  else
    some (.inr out_42)

def sha_state_hash (k : Nat) (s_1 : sha_state) (l_2 : (List (List UInt8))) : Option (((Vector UInt8 32))) :=
  Option.bind (slices_Concatbyte_byte k l_2) fun v_5 =>
  lt1 ((UN.ofI (List.length v_5 : Int) : UInt64)) fun v_8 =>
  lt1 ((v_8 * (8 : UInt64))) fun v_9 =>
  Option.bind (apL 1 v_5 ([(128 : UInt8)] : (List UInt8))) fun b_10 =>
  Option.bind (modI (List.length b_10 : Int) (64 : Int)) fun v_13 =>
  lt1 (w64 ((120 : Int) - v_13)) fun v_14 =>
  Option.bind (modI v_14 (64 : Int)) fun v_15 =>
  Option.bind (apZ 1 b_10 v_15 (0 : UInt8)) fun b_16 =>
  Option.bind (
    loopO (fun s => sha_state_hash.b1 k v_9 s.1 s.2) k (b_16, (0 : Int))
  ) fun b_32 =>
    Option.bind (
      loopO (fun s => sha_state_hash.b2 k s.1 s.2) k (s_1, b_32)
    ) fun s_41 =>
      Option.bind (
        loopO (fun s => sha_state_hash.b3 k s_41 s.1 s.2) k ((Vector.replicate 32 (0 : UInt8)), (0 : Int))
      ) fun out_56 =>
        some out_56

def sha_Sum (k : Nat) (l_1 : (List (List UInt8))) : Option (((Vector UInt8 32))) :=
  Option.bind (sha_begun k) fun v_3 =>
  Option.bind (sha_state_hash k v_3 l_1) fun v_4 =>
  some v_4

def law03_begins (k : Nat) (h_1 : (Vector UInt8 32)) (a_2 : UInt8) (b_3 : UInt8) (c_4 : UInt8) (d_5 : UInt8) : Option ((Bool)) :=
  Option.bind (
    Option.bind (inV 32 (0 : Int)) fun i_7 =>
    lt1 ((getV h_1 i_7)) fun v_8 =>
    lt1 ((v_8 == a_2)) fun v_9 =>
    if v_9 = true then
      Option.bind (inV 32 (1 : Int)) fun i_10 =>
      lt1 ((getV h_1 i_10)) fun v_11 =>
      lt1 ((v_11 == b_3)) fun v_12 =>
      if v_12 = true then
        Option.bind (inV 32 (2 : Int)) fun i_13 =>
        lt1 ((getV h_1 i_13)) fun v_14 =>
        lt1 ((v_14 == c_4)) fun v_15 =>
        if v_15 = true then
          Option.bind (inV 32 (3 : Int)) fun i_16 =>
          lt1 ((getV h_1 i_16)) fun v_17 =>
          lt1 ((v_17 == d_5)) fun v_18 =>
          some v_18
        else
          some false
      else
        some false
    else
      some false
  ) fun x_19 =>
    some x_19

def sha_Code.b1 (k : Nat) (inner_14 : (Vector UInt8 64)) (outer_15 : (Vector UInt8 64)) (x_16 : Int) : Option (((Vector UInt8 64) × (Vector UInt8 64) × Int) ⊕ (((Vector UInt8 64) × (Vector UInt8 64)))) :=
  lt1 (decide (x_16 < (64 : Int))) fun v_17 =>
  if v_17 = true then
    Option.bind (inV 64 x_16) fun i_18 =>
    lt1 ((getV inner_14 i_18)) fun v_19 =>
    lt1 ((v_19 ^^^ (54 : UInt8))) fun v_20 =>
    Option.bind (inV 64 x_16) fun i_21 =>
    lt1 ((putV inner_14 i_21 v_20)) fun inner_22 =>
    Option.bind (inV 64 x_16) fun i_23 =>
    lt1 ((getV outer_15 i_23)) fun v_24 =>
    lt1 ((v_24 ^^^ (92 : UInt8))) fun v_25 =>
    Option.bind (inV 64 x_16) fun i_26 =>
    lt1 ((putV outer_15 i_26 v_25)) fun outer_27 =>
    lt1 (w64 (x_16 + (1 : Int))) fun v_28 =>
    some (.inl (inner_22, outer_27, v_28))
  else
    some (.inr (inner_14, outer_15))

def sha_Code (k : Nat) (secret_1 : (List UInt8)) (l_2 : (List (List UInt8))) : Option (((Vector UInt8 32))) :=
  Option.bind (sha_begun k) fun v_4 =>
  Option.bind (
    lt1 (decide ((List.length secret_1 : Int) > (64 : Int))) fun v_6 =>
    if v_6 = true then
      Option.bind (sha_state_hash k v_4 ([secret_1] : (List (List UInt8)))) fun v_7 =>
      Option.bind (subL (Vector.toList v_7) (0 : Int) (32 : Int)) fun v_9 =>
      some v_9
    else
      some secret_1
  ) fun secret_10 =>
    lt1 (cpV (Vector.replicate 64 (0 : UInt8)) 0 (64 - 0) secret_10) fun inner_13 =>
    Option.bind (
      loopO (fun s => sha_Code.b1 k s.1 s.2.1 s.2.2) k (inner_13, inner_13, (0 : Int))
    ) fun (inner_29, outer_30) =>
      Option.bind (subL (Vector.toList inner_29) (0 : Int) (64 : Int)) fun v_31 =>
      Option.bind (apL 24 ([v_31] : (List (List UInt8))) l_2) fun x_33 =>
      Option.bind (sha_state_hash k v_4 x_33) fun v_36 =>
      Option.bind (subL (Vector.toList outer_30) (0 : Int) (64 : Int)) fun v_38 =>
      Option.bind (subL (Vector.toList v_36) (0 : Int) (32 : Int)) fun v_39 =>
      Option.bind (sha_state_hash k v_4 ([v_38, v_39] : (List (List UInt8)))) fun v_40 =>
      some v_40

def sha_Start (k : Nat) (i_1 : Int) : Option ((UInt32)) :=
  Option.bind (
    lt1 (decide (i_1 < (0 : Int))) fun v_2 =>
    lt1 (decide (i_1 > (7 : Int))) fun v_3 =>
    lt1 (bif v_2 then true else v_3) fun v_4 =>
    some v_4
  ) fun x_5 =>
    if x_5 = true then
      some (0 : UInt32)
    else
      Option.bind (sha_primes k) fun v_6 =>
      Option.bind (inO v_6 i_1) fun i_9 =>
      Option.bind (v_6[i_9]?) fun v_10 =>
      Option.bind (sha_start k v_10) fun v_11 =>
      some v_11

def sha_Constant (k : Nat) (i_1 : Int) : Option ((UInt32)) :=
  Option.bind (
    lt1 (decide (i_1 < (0 : Int))) fun v_2 =>
    lt1 (decide (i_1 > (63 : Int))) fun v_3 =>
    lt1 (bif v_2 then true else v_3) fun v_4 =>
    some v_4
  ) fun x_5 =>
    if x_5 = true then
      some (0 : UInt32)
    else
      Option.bind (sha_primes k) fun v_6 =>
      Option.bind (inO v_6 i_1) fun i_9 =>
      Option.bind (v_6[i_9]?) fun v_10 =>
      Option.bind (sha_constant k v_10) fun v_11 =>
      some v_11

def law03_known (k : Nat) : Option ((Bool)) :=
  Option.bind (
    Option.bind (sha_Sum k ([] : (List (List UInt8)))) fun v_1 =>
    Option.bind (law03_begins k v_1 (227 : UInt8) (176 : UInt8) (196 : UInt8) (66 : UInt8)) fun v_2 =>
    if v_2 = true then
      Option.bind (sha_Sum k ([([(97 : UInt8), (98 : UInt8), (99 : UInt8)] : (List UInt8))] : (List (List UInt8)))) fun v_4 =>
      Option.bind (law03_begins k v_4 (186 : UInt8) (120 : UInt8) (22 : UInt8) (191 : UInt8)) fun v_5 =>
      if v_5 = true then
        Option.bind (sha_Code k ([(74 : UInt8), (101 : UInt8), (102 : UInt8), (101 : UInt8)] : (List UInt8)) ([([(119 : UInt8), (104 : UInt8), (97 : UInt8), (116 : UInt8), (32 : UInt8), (100 : UInt8), (111 : UInt8), (32 : UInt8), (121 : UInt8), (97 : UInt8), (32 : UInt8), (119 : UInt8), (97 : UInt8), (110 : UInt8), (116 : UInt8), (32 : UInt8), (102 : UInt8), (111 : UInt8), (114 : UInt8), (32 : UInt8), (110 : UInt8), (111 : UInt8), (116 : UInt8), (104 : UInt8), (105 : UInt8), (110 : UInt8), (103 : UInt8), (63 : UInt8)] : (List UInt8))] : (List (List UInt8)))) fun v_8 =>
        Option.bind (law03_begins k v_8 (91 : UInt8) (220 : UInt8) (193 : UInt8) (70 : UInt8)) fun v_9 =>
        Option.bind (if v_9 = true then sha_Start k (0 : Int) else some default) fun v_10 =>
        lt1 ((v_10 == (1779033703 : UInt32))) fun v_11 =>
        lt1 (bif v_9 then v_11 else false) fun v_12 =>
        Option.bind (if v_12 = true then sha_Constant k (0 : Int) else some default) fun v_13 =>
        lt1 ((v_13 == (1116352408 : UInt32))) fun v_14 =>
        lt1 (bif v_12 then v_14 else false) fun v_15 =>
        some v_15
      else
        some false
    else
      some false
  ) fun x_16 =>
    some x_16

def ref01_Join.b1 (k : Nat) (l_1 : (List (List UInt8))) (o_2 : (List UInt8)) (i_3 : Int) : Option (((List UInt8) × Int) ⊕ (((List UInt8)))) :=
  lt1 (decide (i_3 < (List.length l_1 : Int))) fun v_6 =>
  if v_6 = true then
    Option.bind (idxL l_1 i_3) fun v_7 =>
    Option.bind (apL 1 o_2 v_7) fun o_8 =>
    lt1 (w64 (i_3 + (1 : Int))) fun v_11 =>
    some (.inl (o_8, v_11))
  else
    some (.inr o_2)

def ref01_Join (k : Nat) (l_1 : (List (List UInt8))) : Option (((List UInt8))) :=
  Option.bind (
    loopO (fun s => ref01_Join.b1 k l_1 s.1 s.2) k (([] : (List UInt8)), (0 : Int))
  ) fun o_12 =>
    some o_12

def ref03_power (k : Nat) (t_1 : UInt64) (a_2 : Int) (a_3 : UInt64) : Option ((Bool)) :=
  Option.bind (math_bits_Mul64 k t_1 t_1) fun (v_4, v_5) =>
  lt1 ((a_2 == (2 : Int))) fun v_6 =>
  if v_6 = true then
    Option.bind (
      lt1 (decide (v_4 < a_3)) fun v_7 =>
      lt1 ((v_4 == a_3)) fun v_8 =>
      lt1 ((v_5 == (0 : UInt64))) fun v_9 =>
      lt1 (bif v_8 then v_9 else false) fun v_10 =>
      lt1 (bif v_7 then true else v_10) fun v_11 =>
      some v_11
    ) fun x_12 =>
      some x_12
  else
    Option.bind (math_bits_Mul64 k v_5 t_1) fun (v_13, v_14) =>
    Option.bind (math_bits_Mul64 k v_4 t_1) fun (v_15, v_16) =>
    Option.bind (add64 v_13 v_16 (0 : UInt64)) fun (s_17, o_18) =>
    lt1 ((v_15 + o_18)) fun v_19 =>
    lt1 (UN.shr a_3 (UN.toN (32 : UInt64))) fun v_20 =>
    lt1 ((!(v_19 == v_20))) fun v_21 =>
    if v_21 = true then
      lt1 (UN.shr a_3 (UN.toN (32 : UInt64))) fun v_22 =>
      lt1 (decide (v_19 < v_22)) fun v_23 =>
      some v_23
    else
      Option.bind (
        lt1 (UN.shl a_3 (UN.toN (32 : UInt64))) fun v_24 =>
        lt1 (decide (s_17 < v_24)) fun v_25 =>
        lt1 (UN.shl a_3 (UN.toN (32 : UInt64))) fun v_26 =>
        lt1 ((s_17 == v_26)) fun v_27 =>
        lt1 ((v_14 == (0 : UInt64))) fun v_28 =>
        lt1 (bif v_27 then v_28 else false) fun v_29 =>
        lt1 (bif v_25 then true else v_29) fun v_30 =>
        some v_30
      ) fun x_31 =>
        some x_31

def ref03_root.b1 (k : Nat) (n_2 : Int) (p_1 : UInt64) (x_3 : UInt64) (b_4 : Int) : Option ((UInt64 × Int) ⊕ ((UInt64))) :=
  lt1 (decide (b_4 ≥ (0 : Int))) fun v_5 =>
  if v_5 = true then
    Option.bind (
      lt1 ((UN.ofI b_4 : UInt64)) fun v_6 =>
      lt1 (UN.shl (1 : UInt64) (UN.toN v_6)) fun v_7 =>
      lt1 ((x_3 + v_7)) fun v_8 =>
      Option.bind (ref03_power k v_8 n_2 p_1) fun v_9 =>
      if v_9 = true then
        some v_8
      else
        some x_3
    ) fun x_10 =>
      lt1 (w64 (b_4 - (1 : Int))) fun v_11 =>
      some (.inl (x_10, v_11))
  else
    some (.inr x_3)

def ref03_root (k : Nat) (p_1 : UInt64) (n_2 : Int) : Option ((UInt32)) :=
  Option.bind (
    loopO (fun s => ref03_root.b1 k n_2 p_1 s.1 s.2) k ((0 : UInt64), (37 : Int))
  ) fun x_12 =>
    lt1 ((UN.to x_12 : UInt32)) fun v_13 =>
    some v_13

def ref03_begun.b2 (k : Nat) (n_5 : UInt64) (is_9 : Bool) (d_10 : UInt64) : Option ((Bool × UInt64) ⊕ ((Bool))) :=
  lt1 ((d_10 * d_10)) fun v_11 =>
  lt1 (decide (v_11 ≤ n_5)) fun v_12 =>
  if v_12 = true then
    Option.bind (
      Option.bind (if is_9 = true then modU n_5 d_10 else some default) fun v_13 =>
      lt1 ((!(v_13 == (0 : UInt64)))) fun v_14 =>
      lt1 (bif is_9 then v_14 else false) fun v_15 =>
      some v_15
    ) fun is_16 =>
      lt1 ((d_10 + (1 : UInt64))) fun v_17 =>
      some (.inl (is_16, v_17))
  else
    some (.inr is_9)

def ref03_begun.b1 (k : Nat) (h_3 : (Vector UInt32 8)) (k_4 : (List UInt32)) (n_5 : UInt64) : Option (((Vector UInt32 8) × (List UInt32) × UInt64) ⊕ (((Vector UInt32 8) × (List UInt32)))) :=
  lt1 (decide ((List.length k_4 : Int) < (64 : Int))) fun v_8 =>
  if v_8 = true then
    Option.bind (
      Option.bind (
        loopO (fun s => ref03_begun.b2 k n_5 s.1 s.2) k (true, (2 : UInt64))
      ) fun is_18 =>
        Option.bind (
          Option.bind (
            if is_18 = true then
              lt1 (decide ((List.length k_4 : Int) < (8 : Int))) fun v_19 =>
              some v_19
            else
              some false
          ) fun x_20 =>
            if x_20 = true then
              Option.bind (ref03_root k n_5 (2 : Int)) fun v_21 =>
              Option.bind (inV 8 (List.length k_4 : Int)) fun i_22 =>
              lt1 ((putV h_3 i_22 v_21)) fun h_23 =>
              some h_23
            else
              some h_3
        ) fun h_24 =>
          if is_18 = true then
            Option.bind (ref03_root k n_5 (3 : Int)) fun v_25 =>
            Option.bind (apL 4 k_4 ([v_25] : (List UInt32))) fun k_26 =>
            some (h_24, k_26)
          else
            some (h_24, k_4)
    ) fun (h_29, k_30) =>
      lt1 ((n_5 + (1 : UInt64))) fun v_33 =>
      some (.inl (h_29, k_30, v_33))
  else
    some (.inr (h_3, k_4))

def ref03_begun (k : Nat) : Option (((Vector UInt32 8) × (List UInt32))) :=
  Option.bind (
    loopO (fun s => ref03_begun.b1 k s.1 s.2.1 s.2.2) k ((Vector.replicate 8 (0 : UInt32)), ([] : (List UInt32)), (2 : UInt64))
  ) fun (h_34, k_35) =>
    some (h_34, k_35)

def ref01_Put.b1 (k : Nat) (n_6 : UInt64) (b_7 : (List UInt8)) (i_8 : Int) : Option ((UInt64 × (List UInt8) × Int) ⊕ (((List UInt8)))) :=
  lt1 (decide (i_8 ≥ (0 : Int))) fun v_9 =>
  if v_9 = true then
    Option.bind (modU n_6 (256 : UInt64)) fun v_10 =>
    lt1 ((UN.to v_10 : UInt8)) fun v_11 =>
    Option.bind (inO b_7 i_8) fun i_12 =>
    Option.bind (setO' b_7 i_12 v_11) fun b_13 =>
    Option.bind (divU n_6 (256 : UInt64)) fun v_14 =>
    lt1 (w64 (i_8 - (1 : Int))) fun v_15 =>
    some (.inl (v_14, b_13, v_15))
  else
    some (.inr b_7)

def ref01_Put (k : Nat) (n_1 : UInt64) (size_2 : Int) : Option (((List UInt8))) :=
  Option.bind (mkL 1 size_2 (0 : UInt8)) fun v_3 =>
  Option.bind (
    lt1 (w64 (size_2 - (1 : Int))) fun v_5 =>
    loopO (fun s => ref01_Put.b1 k s.1 s.2.1 s.2.2) k (n_1, v_3, v_5)
  ) fun b_16 =>
    some b_16

def ref03_pad.b1 (k : Nat) (o_8 : (List UInt8)) : Option (((List UInt8)) ⊕ (((List UInt8)))) :=
  Option.bind (modI (List.length o_8 : Int) (64 : Int)) fun v_11 =>
  lt1 ((v_11 != (56 : Int))) fun v_12 =>
  if v_12 = true then
    Option.bind (apL 1 o_8 ([(0 : UInt8)] : (List UInt8))) fun o_13 =>
    some (.inl o_13)
  else
    some (.inr o_8)

def ref03_pad (k : Nat) (b_1 : (List UInt8)) : Option (((List UInt8))) :=
  Option.bind (apL 1 ([] : (List UInt8)) b_1) fun v_2 =>
  Option.bind (apL 1 v_2 ([(128 : UInt8)] : (List UInt8))) fun x_5 =>
  Option.bind (
    loopO (fun s => ref03_pad.b1 k s) k x_5
  ) fun o_16 =>
    lt1 ((UN.ofI (List.length b_1 : Int) : UInt64)) fun v_19 =>
    lt1 ((v_19 * (8 : UInt64))) fun v_20 =>
    Option.bind (ref01_Put k v_20 (8 : Int)) fun v_21 =>
    Option.bind (apL 1 o_16 v_21) fun x_23 =>
    some x_23

def ref01_Get.b1 (k : Nat) (b_1 : (List UInt8)) (n_2 : UInt64) (i_3 : Int) : Option ((UInt64 × Int) ⊕ ((UInt64))) :=
  lt1 (decide (i_3 < (List.length b_1 : Int))) fun v_4 =>
  if v_4 = true then
    lt1 ((n_2 * (256 : UInt64))) fun v_5 =>
    Option.bind (idxL b_1 i_3) fun v_6 =>
    lt1 ((UN.to v_6 : UInt64)) fun v_7 =>
    lt1 ((v_5 + v_7)) fun v_8 =>
    lt1 (w64 (i_3 + (1 : Int))) fun v_9 =>
    some (.inl (v_8, v_9))
  else
    some (.inr n_2)

def ref01_Get (k : Nat) (b_1 : (List UInt8)) : Option ((UInt64)) :=
  Option.bind (
    loopO (fun s => ref01_Get.b1 k b_1 s.1 s.2) k ((0 : UInt64), (0 : Int))
  ) fun n_10 =>
    some n_10

def ref03_ror (k : Nat) (x_1 : UInt32) (n_2 : UInt64) : Option ((UInt32)) :=
  lt1 (UN.shr x_1 (UN.toN n_2)) fun v_3 =>
  lt1 (((32 : UInt64) - n_2)) fun v_4 =>
  lt1 (UN.shl x_1 (UN.toN v_4)) fun v_5 =>
  lt1 ((v_3 ||| v_5)) fun v_6 =>
  some v_6

def ref03_press.b1 (k : Nat) (a_2 : (List UInt8)) (x_6 : (List UInt32)) (x_7 : Int) : Option (((List UInt32) × Int) ⊕ (((List UInt32)))) :=
  lt1 (decide (x_7 < (16 : Int))) fun v_10 =>
  if v_10 = true then
    lt1 (w64 ((4 : Int) * x_7)) fun v_11 =>
    lt1 (w64 ((4 : Int) * x_7)) fun v_12 =>
    lt1 (w64 (v_12 + (4 : Int))) fun v_13 =>
    Option.bind (subL a_2 v_11 v_13) fun v_14 =>
    Option.bind (ref01_Get k v_14) fun v_15 =>
    lt1 ((UN.to v_15 : UInt32)) fun v_16 =>
    Option.bind (apL 4 x_6 ([v_16] : (List UInt32))) fun x_17 =>
    lt1 (w64 (x_7 + (1 : Int))) fun v_20 =>
    some (.inl (x_17, v_20))
  else
    some (.inr x_6)

def ref03_press.b2 (k : Nat) (x_24 : (List UInt32)) (x_25 : Int) : Option (((List UInt32) × Int) ⊕ (((List UInt32)))) :=
  lt1 (decide (x_25 < (64 : Int))) fun v_28 =>
  if v_28 = true then
    lt1 (w64 (x_25 - (15 : Int))) fun v_29 =>
    Option.bind (inO x_24 v_29) fun i_30 =>
    Option.bind (x_24[i_30]?) fun v_31 =>
    lt1 (w64 (x_25 - (2 : Int))) fun v_32 =>
    Option.bind (inO x_24 v_32) fun i_33 =>
    Option.bind (x_24[i_33]?) fun v_34 =>
    Option.bind (ref03_ror k v_31 (7 : UInt64)) fun v_35 =>
    Option.bind (ref03_ror k v_31 (18 : UInt64)) fun v_36 =>
    lt1 ((v_35 ^^^ v_36)) fun v_37 =>
    lt1 (UN.shr v_31 (UN.toN (3 : UInt64))) fun v_38 =>
    lt1 ((v_37 ^^^ v_38)) fun v_39 =>
    Option.bind (ref03_ror k v_34 (17 : UInt64)) fun v_40 =>
    Option.bind (ref03_ror k v_34 (19 : UInt64)) fun v_41 =>
    lt1 ((v_40 ^^^ v_41)) fun v_42 =>
    lt1 (UN.shr v_34 (UN.toN (10 : UInt64))) fun v_43 =>
    lt1 ((v_42 ^^^ v_43)) fun v_44 =>
    lt1 (w64 (x_25 - (16 : Int))) fun v_45 =>
    Option.bind (inO x_24 v_45) fun i_46 =>
    Option.bind (x_24[i_46]?) fun v_47 =>
    lt1 ((v_47 + v_39)) fun v_48 =>
    lt1 (w64 (x_25 - (7 : Int))) fun v_49 =>
    Option.bind (inO x_24 v_49) fun i_50 =>
    Option.bind (x_24[i_50]?) fun v_51 =>
    lt1 ((v_48 + v_51)) fun v_52 =>
    lt1 ((v_52 + v_44)) fun v_53 =>
    Option.bind (apL 4 x_24 ([v_53] : (List UInt32))) fun x_54 =>
    lt1 (w64 (x_25 + (1 : Int))) fun v_57 =>
    some (.inl (x_54, v_57))
  else
    some (.inr x_24)

def ref03_press.b3 (k : Nat) (a_3 : (List UInt32)) (x_58 : (List UInt32)) (x_62 : (Vector UInt32 8)) (x_63 : Int) : Option (((Vector UInt32 8) × Int) ⊕ (((Vector UInt32 8)))) :=
  lt1 (decide (x_63 < (64 : Int))) fun v_64 =>
  if v_64 = true then
    Option.bind (inV 8 (0 : Int)) fun i_65 =>
    lt1 ((getV x_62 i_65)) fun v_66 =>
    Option.bind (inV 8 (1 : Int)) fun i_67 =>
    lt1 ((getV x_62 i_67)) fun v_68 =>
    Option.bind (inV 8 (2 : Int)) fun i_69 =>
    lt1 ((getV x_62 i_69)) fun v_70 =>
    Option.bind (inV 8 (4 : Int)) fun i_71 =>
    lt1 ((getV x_62 i_71)) fun v_72 =>
    Option.bind (inV 8 (5 : Int)) fun i_73 =>
    lt1 ((getV x_62 i_73)) fun v_74 =>
    Option.bind (inV 8 (6 : Int)) fun i_75 =>
    lt1 ((getV x_62 i_75)) fun v_76 =>
    Option.bind (inV 8 (7 : Int)) fun i_77 =>
    lt1 ((getV x_62 i_77)) fun v_78 =>
    Option.bind (ref03_ror k v_72 (6 : UInt64)) fun v_79 =>
    Option.bind (ref03_ror k v_72 (11 : UInt64)) fun v_80 =>
    lt1 ((v_79 ^^^ v_80)) fun v_81 =>
    Option.bind (ref03_ror k v_72 (25 : UInt64)) fun v_82 =>
    lt1 ((v_81 ^^^ v_82)) fun v_83 =>
    lt1 ((v_78 + v_83)) fun v_84 =>
    lt1 ((v_72 &&& v_74)) fun v_85 =>
    lt1 ((UN.not v_72)) fun v_86 =>
    lt1 ((v_86 &&& v_76)) fun v_87 =>
    lt1 ((v_85 ^^^ v_87)) fun v_88 =>
    lt1 ((v_84 + v_88)) fun v_89 =>
    Option.bind (idxL a_3 x_63) fun v_90 =>
    lt1 ((v_89 + v_90)) fun v_91 =>
    Option.bind (inO x_58 x_63) fun i_92 =>
    Option.bind (x_58[i_92]?) fun v_93 =>
    lt1 ((v_91 + v_93)) fun v_94 =>
    Option.bind (ref03_ror k v_66 (2 : UInt64)) fun v_95 =>
    Option.bind (ref03_ror k v_66 (13 : UInt64)) fun v_96 =>
    lt1 ((v_95 ^^^ v_96)) fun v_97 =>
    Option.bind (ref03_ror k v_66 (22 : UInt64)) fun v_98 =>
    lt1 ((v_97 ^^^ v_98)) fun v_99 =>
    lt1 ((v_66 &&& v_68)) fun v_100 =>
    lt1 ((v_66 &&& v_70)) fun v_101 =>
    lt1 ((v_100 ^^^ v_101)) fun v_102 =>
    lt1 ((v_68 &&& v_70)) fun v_103 =>
    lt1 ((v_102 ^^^ v_103)) fun v_104 =>
    lt1 ((v_99 + v_104)) fun v_105 =>
    lt1 ((v_94 + v_105)) fun v_106 =>
    Option.bind (inV 8 (3 : Int)) fun i_107 =>
    lt1 ((getV x_62 i_107)) fun v_108 =>
    lt1 ((v_108 + v_94)) fun v_109 =>
    lt1 (w64 (x_63 + (1 : Int))) fun v_110 =>
    some (.inl ((#v[v_106, v_66, v_68, v_70, v_109, v_72, v_74, v_76] : (Vector UInt32 8)), v_110))
  else
    some (.inr x_62)

def ref03_press.b4 (k : Nat) (t_1 : (Vector UInt32 8)) (x_112 : (Vector UInt32 8)) (x_113 : Int) : Option (((Vector UInt32 8) × Int) ⊕ (((Vector UInt32 8)))) :=
  lt1 (decide (x_113 < (8 : Int))) fun v_114 =>
  if v_114 = true then
    Option.bind (inV 8 x_113) fun i_115 =>
    lt1 ((getV x_112 i_115)) fun v_116 =>
    Option.bind (inV 8 x_113) fun i_117 =>
    lt1 ((getV t_1 i_117)) fun v_118 =>
    lt1 ((v_116 + v_118)) fun v_119 =>
    Option.bind (inV 8 x_113) fun i_120 =>
    lt1 ((putV x_112 i_120 v_119)) fun x_121 =>
    lt1 (w64 (x_113 + (1 : Int))) fun v_122 =>
    some (.inl (x_121, v_122))
  else
    some (.inr x_112)

def ref03_press (k : Nat) (t_1 : (Vector UInt32 8)) (a_2 : (List UInt8)) (a_3 : (List UInt32)) : Option (((Vector UInt32 8))) :=
  Option.bind (
    loopO (fun s => ref03_press.b1 k a_2 s.1 s.2) k (([] : (List UInt32)), (0 : Int))
  ) fun x_21 =>
    Option.bind (
      loopO (fun s => ref03_press.b2 k s.1 s.2) k (x_21, (16 : Int))
    ) fun x_58 =>
      Option.bind (
        loopO (fun s => ref03_press.b3 k a_3 x_58 s.1 s.2) k (t_1, (0 : Int))
      ) fun x_111 =>
        Option.bind (
          loopO (fun s => ref03_press.b4 k t_1 s.1 s.2) k (x_111, (0 : Int))
        ) fun x_123 =>
          some x_123

def ref03_Sum.b1 (k : Nat) (v_8 : (List UInt8)) (v_4 : (List UInt32)) (h_11 : (Vector UInt32 8)) (at_12 : Int) : Option (((Vector UInt32 8) × Int) ⊕ (((Vector UInt32 8)))) :=
  lt1 (decide (at_12 < (List.length v_8 : Int))) fun v_13 =>
  if v_13 = true then
    lt1 (w64 (at_12 + (64 : Int))) fun v_14 =>
    Option.bind (subL v_8 at_12 v_14) fun v_15 =>
    Option.bind (ref03_press k h_11 v_15 v_4) fun v_16 =>
    lt1 (w64 (at_12 + (64 : Int))) fun v_17 =>
    some (.inl (v_16, v_17))
  else
    some (.inr h_11)

def ref03_Sum.b2 (k : Nat) (h_18 : (Vector UInt32 8)) (d_20 : (Vector UInt8 32)) (i_21 : Int) : Option (((Vector UInt8 32) × Int) ⊕ (((Vector UInt8 32)))) :=
  lt1 (decide (i_21 < (32 : Int))) fun v_22 =>
  if v_22 = true then
    Option.bind (divI i_21 (4 : Int)) fun v_23 =>
    Option.bind (inV 8 v_23) fun i_24 =>
    lt1 ((getV h_18 i_24)) fun v_25 =>
    Option.bind (modI i_21 (4 : Int)) fun v_26 =>
    lt1 (w64 ((8 : Int) * v_26)) fun v_27 =>
    lt1 (w64 ((24 : Int) - v_27)) fun v_28 =>
    lt1 ((UN.ofI v_28 : UInt64)) fun v_29 =>
    lt1 (UN.shr v_25 (UN.toN v_29)) fun v_30 =>
    lt1 ((UN.to v_30 : UInt8)) fun v_31 =>
    Option.bind (inV 32 i_21) fun i_32 =>
    lt1 ((putV d_20 i_32 v_31)) fun d_33 =>
    lt1 (w64 (i_21 + (1 : Int))) fun v_34 =>
    some (.inl (d_33, v_34))
  else
    some (.inr d_20)

def ref03_Sum (k : Nat) (b_1 : (List UInt8)) : Option (((Vector UInt8 32))) :=
  Option.bind (ref03_begun k) fun (v_3, v_4) =>
  Option.bind (ref03_pad k b_1) fun v_8 =>
  Option.bind (
    loopO (fun s => ref03_Sum.b1 k v_8 v_4 s.1 s.2) k (v_3, (0 : Int))
  ) fun h_18 =>
    Option.bind (
      loopO (fun s => ref03_Sum.b2 k h_18 s.1 s.2) k ((Vector.replicate 32 (0 : UInt8)), (0 : Int))
    ) fun d_35 =>
      some d_35

def law03_ShaSums (k : Nat) (l_1 : (List (List UInt8))) : Option ((Bool)) :=
  Option.bind (ref01_Much k l_1 (3000 : Int)) fun v_2 =>
  if v_2 = true then
    Option.bind (law03_known k) fun v_3 =>
    some v_3
  else
    Option.bind (ref01_Join k l_1) fun v_4 =>
    Option.bind (
      Option.bind (sha_Sum k l_1) fun v_7 =>
      Option.bind (ref03_Sum k v_4) fun v_8 =>
      lt1 (((eqV (fun x y => x == y)) v_7 v_8)) fun v_9 =>
      if v_9 = true then
        Option.bind (sha_Sum k ([v_4] : (List (List UInt8)))) fun v_10 =>
        Option.bind (ref03_Sum k v_4) fun v_11 =>
        lt1 (((eqV (fun x y => x == y)) v_10 v_11)) fun v_12 =>
        Option.bind (if v_12 = true then law03_known k else some default) fun v_13 =>
        lt1 (bif v_12 then v_13 else false) fun v_14 =>
        some v_14
      else
        some false
    ) fun x_15 =>
      some x_15

def ref03_Code.b1 (k : Nat) (k_17 : (List UInt8)) : Option (((List UInt8)) ⊕ (((List UInt8)))) :=
  lt1 (decide ((List.length k_17 : Int) < (64 : Int))) fun v_20 =>
  if v_20 = true then
    Option.bind (apL 1 k_17 ([(0 : UInt8)] : (List UInt8))) fun k_21 =>
    some (.inl k_21)
  else
    some (.inr k_17)

def ref03_Code.b2 (k : Nat) (k_24 : (List UInt8)) (i_27 : (List UInt8)) (o_28 : (List UInt8)) (n_29 : Int) : Option (((List UInt8) × (List UInt8) × Int) ⊕ (((List UInt8) × (List UInt8)))) :=
  lt1 (decide (n_29 < (64 : Int))) fun v_34 =>
  if v_34 = true then
    Option.bind (inO k_24 n_29) fun i_35 =>
    Option.bind (k_24[i_35]?) fun v_36 =>
    lt1 ((v_36 ^^^ (54 : UInt8))) fun v_37 =>
    Option.bind (apL 1 i_27 ([v_37] : (List UInt8))) fun i_38 =>
    Option.bind (inO k_24 n_29) fun i_41 =>
    Option.bind (k_24[i_41]?) fun v_42 =>
    lt1 ((v_42 ^^^ (92 : UInt8))) fun v_43 =>
    Option.bind (apL 1 o_28 ([v_43] : (List UInt8))) fun o_44 =>
    lt1 (w64 (n_29 + (1 : Int))) fun v_47 =>
    some (.inl (i_38, o_44, v_47))
  else
    some (.inr (i_27, o_28))

def ref03_Code (k : Nat) (secret_1 : (List UInt8)) (b_2 : (List UInt8)) : Option (((Vector UInt8 32))) :=
  Option.bind (apL 1 ([] : (List UInt8)) secret_1) fun v_4 =>
  Option.bind (
    lt1 (decide ((List.length v_4 : Int) > (64 : Int))) fun v_7 =>
    if v_7 = true then
      Option.bind (ref03_Sum k secret_1) fun v_8 =>
      Option.bind (subL (Vector.toList v_8) (0 : Int) (32 : Int)) fun v_10 =>
      Option.bind (apL 1 ([] : (List UInt8)) v_10) fun v_11 =>
      some v_11
    else
      some v_4
  ) fun k_14 =>
    Option.bind (
      loopO (fun s => ref03_Code.b1 k s) k k_14
    ) fun k_24 =>
      Option.bind (
        loopO (fun s => ref03_Code.b2 k k_24 s.1 s.2.1 s.2.2) k (([] : (List UInt8)), ([] : (List UInt8)), (0 : Int))
      ) fun (i_48, o_49) =>
        Option.bind (apL 1 i_48 b_2) fun i_54 =>
        Option.bind (ref03_Sum k i_54) fun v_57 =>
        Option.bind (subL (Vector.toList v_57) (0 : Int) (32 : Int)) fun v_59 =>
        Option.bind (apL 1 o_49 v_59) fun x_60 =>
        Option.bind (ref03_Sum k x_60) fun v_63 =>
        some v_63

def law03_ShaCodes (k : Nat) (secret_1 : (List UInt8)) (l_2 : (List (List UInt8))) : Option ((Bool)) :=
  Option.bind (
    lt1 (decide ((List.length secret_1 : Int) > (300 : Int))) fun v_3 =>
    Option.bind (if (!v_3) = true then ref01_Much k l_2 (3000 : Int) else some default) fun v_4 =>
    lt1 (bif v_3 then true else v_4) fun v_5 =>
    some v_5
  ) fun x_6 =>
    if x_6 = true then
      Option.bind (law03_known k) fun v_7 =>
      some v_7
    else
      Option.bind (ref01_Join k l_2) fun v_8 =>
      Option.bind (
        Option.bind (sha_Code k secret_1 l_2) fun v_11 =>
        Option.bind (ref03_Code k secret_1 v_8) fun v_12 =>
        lt1 (((eqV (fun x y => x == y)) v_11 v_12)) fun v_13 =>
        if v_13 = true then
          Option.bind (sha_Code k secret_1 ([v_8] : (List (List UInt8)))) fun v_14 =>
          Option.bind (ref03_Code k secret_1 v_8) fun v_15 =>
          lt1 (((eqV (fun x y => x == y)) v_14 v_15)) fun v_16 =>
          lt1 ((secret_1 == secret_1)) fun v_17 =>
          lt1 (bif v_16 then v_17 else false) fun v_18 =>
          Option.bind (if v_18 = true then law03_known k else some default) fun v_19 =>
          lt1 (bif v_18 then v_19 else false) fun v_20 =>
          some v_20
        else
          some false
      ) fun x_21 =>
        some x_21

def law03_ShaVectors.b1 (k : Nat) (x_3 : (List UInt8)) (x_4 : Int) : Option (((List UInt8) × Int) ⊕ (((List UInt8)))) :=
  lt1 (decide (x_4 < (List.length x_3 : Int))) fun v_5 =>
  if v_5 = true then
    Option.bind (inO x_3 x_4) fun i_6 =>
    Option.bind (setO' x_3 i_6 (97 : UInt8)) fun x_7 =>
    lt1 (w64 (x_4 + (1 : Int))) fun v_8 =>
    some (.inl (x_7, v_8))
  else
    some (.inr x_3)

def law03_ShaVectors.b2 (k : Nat) (x_12 : (List UInt8)) (x_13 : Int) : Option (((List UInt8) × Int) ⊕ (((List UInt8)))) :=
  lt1 (decide (x_13 < (List.length x_12 : Int))) fun v_14 =>
  if v_14 = true then
    Option.bind (inO x_12 x_13) fun i_15 =>
    Option.bind (setO' x_12 i_15 (170 : UInt8)) fun x_16 =>
    lt1 (w64 (x_13 + (1 : Int))) fun v_17 =>
    some (.inl (x_16, v_17))
  else
    some (.inr x_12)

def law03_ShaVectors.b3 (k : Nat) (x_21 : (List UInt8)) (x_22 : Int) : Option (((List UInt8) × Int) ⊕ (((List UInt8)))) :=
  lt1 (decide (x_22 < (List.length x_21 : Int))) fun v_23 =>
  if v_23 = true then
    Option.bind (inO x_21 x_22) fun i_24 =>
    Option.bind (setO' x_21 i_24 (11 : UInt8)) fun x_25 =>
    lt1 (w64 (x_22 + (1 : Int))) fun v_26 =>
    some (.inl (x_25, v_26))
  else
    some (.inr x_21)

def law03_ShaVectors (k : Nat) : Option ((Bool)) :=
  Option.bind (mkL 1 (1000 : Int) (0 : UInt8)) fun v_1 =>
  Option.bind (
    loopO (fun s => law03_ShaVectors.b1 k s.1 s.2) k (v_1, (0 : Int))
  ) fun x_9 =>
    Option.bind (mkL 1 (131 : Int) (0 : UInt8)) fun v_10 =>
    Option.bind (
      loopO (fun s => law03_ShaVectors.b2 k s.1 s.2) k (v_10, (0 : Int))
    ) fun x_18 =>
      Option.bind (mkL 1 (20 : Int) (0 : UInt8)) fun v_19 =>
      Option.bind (
        loopO (fun s => law03_ShaVectors.b3 k s.1 s.2) k (v_19, (0 : Int))
      ) fun x_27 =>
        Option.bind (
          Option.bind (sha_Sum k ([([(97 : UInt8), (98 : UInt8), (99 : UInt8), (100 : UInt8), (98 : UInt8), (99 : UInt8), (100 : UInt8), (101 : UInt8), (99 : UInt8), (100 : UInt8), (101 : UInt8), (102 : UInt8), (100 : UInt8), (101 : UInt8), (102 : UInt8), (103 : UInt8), (101 : UInt8), (102 : UInt8), (103 : UInt8), (104 : UInt8), (102 : UInt8), (103 : UInt8), (104 : UInt8), (105 : UInt8), (103 : UInt8), (104 : UInt8), (105 : UInt8), (106 : UInt8), (104 : UInt8), (105 : UInt8), (106 : UInt8), (107 : UInt8), (105 : UInt8), (106 : UInt8), (107 : UInt8), (108 : UInt8), (106 : UInt8), (107 : UInt8), (108 : UInt8), (109 : UInt8), (107 : UInt8), (108 : UInt8), (109 : UInt8), (110 : UInt8), (108 : UInt8), (109 : UInt8), (110 : UInt8), (111 : UInt8), (109 : UInt8), (110 : UInt8), (111 : UInt8), (112 : UInt8), (110 : UInt8), (111 : UInt8), (112 : UInt8), (113 : UInt8)] : (List UInt8))] : (List (List UInt8)))) fun v_29 =>
          Option.bind (law03_begins k v_29 (36 : UInt8) (141 : UInt8) (106 : UInt8) (97 : UInt8)) fun v_30 =>
          if v_30 = true then
            Option.bind (sha_Sum k ([x_9] : (List (List UInt8)))) fun v_31 =>
            Option.bind (law03_begins k v_31 (65 : UInt8) (237 : UInt8) (236 : UInt8) (228 : UInt8)) fun v_32 =>
            if v_32 = true then
              Option.bind (sha_Code k x_27 ([([(72 : UInt8), (105 : UInt8), (32 : UInt8), (84 : UInt8), (104 : UInt8), (101 : UInt8), (114 : UInt8), (101 : UInt8)] : (List UInt8))] : (List (List UInt8)))) fun v_34 =>
              Option.bind (law03_begins k v_34 (176 : UInt8) (52 : UInt8) (76 : UInt8) (97 : UInt8)) fun v_35 =>
              if v_35 = true then
                Option.bind (sha_Code k x_18 ([([(84 : UInt8), (101 : UInt8), (115 : UInt8), (116 : UInt8), (32 : UInt8), (85 : UInt8), (115 : UInt8), (105 : UInt8), (110 : UInt8), (103 : UInt8), (32 : UInt8), (76 : UInt8), (97 : UInt8), (114 : UInt8), (103 : UInt8), (101 : UInt8), (114 : UInt8), (32 : UInt8), (84 : UInt8), (104 : UInt8), (97 : UInt8), (110 : UInt8), (32 : UInt8), (66 : UInt8), (108 : UInt8), (111 : UInt8), (99 : UInt8), (107 : UInt8), (45 : UInt8), (83 : UInt8), (105 : UInt8), (122 : UInt8), (101 : UInt8), (32 : UInt8), (75 : UInt8), (101 : UInt8), (121 : UInt8), (32 : UInt8), (45 : UInt8), (32 : UInt8), (72 : UInt8), (97 : UInt8), (115 : UInt8), (104 : UInt8), (32 : UInt8), (75 : UInt8), (101 : UInt8), (121 : UInt8), (32 : UInt8), (70 : UInt8), (105 : UInt8), (114 : UInt8), (115 : UInt8), (116 : UInt8)] : (List UInt8))] : (List (List UInt8)))) fun v_37 =>
                Option.bind (law03_begins k v_37 (96 : UInt8) (228 : UInt8) (49 : UInt8) (89 : UInt8)) fun v_38 =>
                Option.bind (if v_38 = true then law03_known k else some default) fun v_39 =>
                lt1 (bif v_38 then v_39 else false) fun v_40 =>
                some v_40
              else
                some false
            else
              some false
          else
            some false
        ) fun t_41 =>
          some t_41

def sha_Text.b1 (k : Nat) (h_1 : (Vector UInt8 32)) (b_3 : (List UInt8)) (x_4 : Int) : Option (((List UInt8) × Int) ⊕ (((List UInt8)))) :=
  lt1 (decide (x_4 < (32 : Int))) fun v_7 =>
  if v_7 = true then
    Option.bind (idxV h_1 x_4) fun v_8 =>
    lt1 (UN.shr v_8 (UN.toN (4 : UInt64))) fun v_9 =>
    Option.bind (idxL ([48, 49, 50, 51, 52, 53, 54, 55, 56, 57, 97, 98, 99, 100, 101, 102] : List UInt8) (UN.toN v_9)) fun v_10 =>
    lt1 ((v_8 &&& (15 : UInt8))) fun v_11 =>
    Option.bind (idxL ([48, 49, 50, 51, 52, 53, 54, 55, 56, 57, 97, 98, 99, 100, 101, 102] : List UInt8) (UN.toN v_11)) fun v_12 =>
    Option.bind (apL 1 b_3 ([v_10, v_12] : (List UInt8))) fun b_13 =>
    lt1 (w64 (x_4 + (1 : Int))) fun v_16 =>
    some (.inl (b_13, v_16))
  else
    some (.inr b_3)

def sha_Text (k : Nat) (h_1 : (Vector UInt8 32)) : Option (((List UInt8))) :=
  Option.bind (
    loopO (fun s => sha_Text.b1 k h_1 s.1 s.2) k (([] : (List UInt8)), (0 : Int))
  ) fun b_17 =>
    some b_17

def slices_Indexbyte_byte.b1 (k : Nat) (s_1 : (List UInt8)) (v_2 : UInt8) (x_3 : Int) : Option ((Int) ⊕ ((Unit) ⊕ ((Int)))) :=
  lt1 (decide (x_3 < (List.length s_1 : Int))) fun v_4 =>
  if v_4 = true then
    Option.bind (idxL s_1 x_3) fun v_5 =>
    lt1 ((v_2 == v_5)) fun v_6 =>
    if v_6 = true then
      some (.inr (.inr x_3))
    else
      lt1 (w64 (x_3 + (1 : Int))) fun v_7 =>
      some (.inl v_7)
  else
    some (.inr (.inl ()))

def slices_Indexbyte_byte (k : Nat) (s_1 : (List UInt8)) (v_2 : UInt8) : Option ((Int)) :=
  Option.bind (
    Option.bind (loopO (fun s => slices_Indexbyte_byte.b1 k s_1 v_2 s) k (0 : Int)) fun t => match t with
    | (.inl _) =>
      some (.inl ())
    | (.inr q) =>
      some (.inr q)
   : Option ((Unit) ⊕ ((Int)))) fun t => match t with
  | (.inl _) =>
    some (-1 : Int)
  | (.inr q) =>
    some q

def sha_Of.b1 (k : Nat) (s_1 : (List UInt8)) (h_4 : (Vector UInt8 32)) (x_5 : Int) : Option (((Vector UInt8 32) × Int) ⊕ (((Vector UInt8 32) × Int))) :=
  lt1 (decide (x_5 < (List.length s_1 : Int))) fun v_6 =>
  if v_6 = true then
    Option.bind (idxL s_1 x_5) fun v_8 =>
    Option.bind (slices_Indexbyte_byte k ([(48 : UInt8), (49 : UInt8), (50 : UInt8), (51 : UInt8), (52 : UInt8), (53 : UInt8), (54 : UInt8), (55 : UInt8), (56 : UInt8), (57 : UInt8), (97 : UInt8), (98 : UInt8), (99 : UInt8), (100 : UInt8), (101 : UInt8), (102 : UInt8)] : (List UInt8)) v_8) fun v_9 =>
    lt1 (decide (v_9 < (0 : Int))) fun v_10 =>
    if v_10 = true then
      some (.inr ((Vector.replicate 32 (0 : UInt8)), (4 : Int)))
    else
      Option.bind (divI x_5 (2 : Int)) fun v_11 =>
      Option.bind (divI x_5 (2 : Int)) fun v_12 =>
      Option.bind (inV 32 v_12) fun i_13 =>
      lt1 ((getV h_4 i_13)) fun v_14 =>
      lt1 (UN.shl v_14 (UN.toN (4 : UInt64))) fun v_15 =>
      lt1 ((UN.ofI v_9 : UInt8)) fun v_16 =>
      lt1 ((v_15 ||| v_16)) fun v_17 =>
      Option.bind (inV 32 v_11) fun i_18 =>
      lt1 ((putV h_4 i_18 v_17)) fun h_19 =>
      lt1 (w64 (x_5 + (1 : Int))) fun v_20 =>
      some (.inl (h_19, v_20))
  else
    some (.inr (h_4, (0 : Int)))

def sha_Of (k : Nat) (s_1 : (List UInt8)) : Option (((Vector UInt8 32) × Int)) :=
  lt1 (((List.length s_1 : Int) != (64 : Int))) fun v_3 =>
  if v_3 = true then
    some ((Vector.replicate 32 (0 : UInt8)), (4 : Int))
  else
    Option.bind (
      loopO (fun s => sha_Of.b1 k s_1 s.1 s.2) k ((Vector.replicate 32 (0 : UInt8)), (0 : Int))
    ) fun (h_21, e_22) =>
      some (h_21, e_22)

def law03_num (k : Nat) (e_1 : Int) : Option ((Unit)) :=
  some ()

def law03_ShaBack (k : Nat) (t_1 : (Vector UInt8 32)) (a_2 : (List UInt8)) (a_3 : (List UInt8)) (a_4 : Int) : Option ((Bool)) :=
  Option.bind (law03_known k) fun v_6 =>
  lt1 ((!v_6)) fun v_7 =>
  if v_7 = true then
    some false
  else
    Option.bind (sha_Text k t_1) fun v_8 =>
    Option.bind (sha_Of k v_8) fun (v_9, v_10) =>
    Option.bind (
      Option.bind (law03_num k v_10) fun _ =>
      lt1 ((v_10 != (0 : Int))) fun v_13 =>
      lt1 ((!((eqV (fun x y => x == y)) v_9 t_1))) fun v_14 =>
      lt1 (bif v_13 then true else v_14) fun v_15 =>
      some v_15
    ) fun x_16 =>
      if x_16 = true then
        some false
      else
        Option.bind (
          lt1 (decide ((List.length a_2 : Int) > (64 : Int))) fun v_17 =>
          lt1 (decide ((List.length a_3 : Int) > (3000 : Int))) fun v_18 =>
          lt1 (bif v_17 then true else v_18) fun v_19 =>
          lt1 (decide (a_4 < (0 : Int))) fun v_20 =>
          lt1 (bif v_19 then true else v_20) fun v_21 =>
          lt1 (decide (a_4 > (List.length a_3 : Int))) fun v_22 =>
          lt1 (bif v_21 then true else v_22) fun v_23 =>
          some v_23
        ) fun x_24 =>
          if x_24 = true then
            some true
          else
            Option.bind (mkL 1 (64 : Int) (0 : UInt8)) fun v_25 =>
            lt1 (cpL v_25 a_2) fun x_27 =>
            Option.bind (
              Option.bind (subL a_3 (0) a_4) fun v_28 =>
              Option.bind (subL a_3 a_4 (List.length a_3 : Int)) fun v_29 =>
              Option.bind (sha_Sum k ([v_28, v_29] : (List (List UInt8)))) fun v_30 =>
              Option.bind (sha_Sum k ([a_3] : (List (List UInt8)))) fun v_31 =>
              lt1 (((eqV (fun x y => x == y)) v_30 v_31)) fun v_32 =>
              Option.bind (if v_32 = true then subL a_3 (0) a_4 else some default) fun v_33 =>
              Option.bind (if v_32 = true then subL a_3 a_4 (List.length a_3 : Int) else some default) fun v_34 =>
              Option.bind (if v_32 = true then sha_Code k a_2 ([v_33, ([] : (List UInt8)), v_34] : (List (List UInt8))) else some default) fun v_35 =>
              if v_32 = true then
                Option.bind (sha_Code k x_27 ([a_3] : (List (List UInt8)))) fun v_36 =>
                lt1 (((eqV (fun x y => x == y)) v_35 v_36)) fun v_37 =>
                some v_37
              else
                some false
            ) fun x_38 =>
              some x_38

def ref01_Unhex.b2 (k : Nat) (x_5 : Int) (t_1 : (List UInt8)) (x_9 : Int) (x_10 : Int) : Option ((Int × Int) ⊕ ((Int) ⊕ (((List UInt8) × Bool)))) :=
  lt1 (w64 (x_5 + (2 : Int))) fun v_11 =>
  lt1 (decide (x_10 < v_11)) fun v_12 =>
  if v_12 = true then
    Option.bind (
      Option.bind (
        Option.bind (idxL t_1 x_10) fun v_13 =>
        lt1 (decide ((48 : UInt8) ≤ v_13)) fun v_14 =>
        Option.bind (if v_14 = true then idxL t_1 x_10 else some default) fun v_15 =>
        lt1 (decide (v_15 ≤ (57 : UInt8))) fun v_16 =>
        lt1 (bif v_14 then v_16 else false) fun v_17 =>
        some v_17
      ) fun x_18 =>
        if x_18 = true then
          lt1 (w64 ((16 : Int) * x_9)) fun v_19 =>
          Option.bind (idxL t_1 x_10) fun v_20 =>
          lt1 ((v_20 - (48 : UInt8))) fun v_21 =>
          lt1 (w64 (UN.toN v_21 : Int)) fun v_22 =>
          lt1 (w64 (v_19 + v_22)) fun v_23 =>
          some (.inl v_23)
        else
          Option.bind (
            Option.bind (idxL t_1 x_10) fun v_24 =>
            lt1 (decide ((97 : UInt8) ≤ v_24)) fun v_25 =>
            Option.bind (if v_25 = true then idxL t_1 x_10 else some default) fun v_26 =>
            lt1 (decide (v_26 ≤ (102 : UInt8))) fun v_27 =>
            lt1 (bif v_25 then v_27 else false) fun v_28 =>
            some v_28
          ) fun x_29 =>
            if x_29 = true then
              lt1 (w64 ((16 : Int) * x_9)) fun v_30 =>
              Option.bind (idxL t_1 x_10) fun v_31 =>
              lt1 ((v_31 - (97 : UInt8))) fun v_32 =>
              lt1 (w64 (UN.toN v_32 : Int)) fun v_33 =>
              lt1 (w64 (v_30 + v_33)) fun v_34 =>
              lt1 (w64 (v_34 + (10 : Int))) fun v_35 =>
              some (.inl v_35)
            else
              some (.inr (([] : (List UInt8)), false))
     : Option ((Int) ⊕ (((List UInt8) × Bool)))) fun t => match t with
    | (.inl x_36) =>
      lt1 (w64 (x_10 + (1 : Int))) fun v_37 =>
      some (.inl (x_36, v_37))
    | (.inr q) =>
      some (.inr (.inr q))
  else
    some (.inr (.inl x_9))

def ref01_Unhex.b1 (k : Nat) (t_1 : (List UInt8)) (x_4 : (List UInt8)) (x_5 : Int) : Option (((List UInt8) × Int) ⊕ (((List UInt8)) ⊕ (((List UInt8) × Bool)))) :=
  lt1 (decide (x_5 < (List.length t_1 : Int))) fun v_8 =>
  if v_8 = true then
    Option.bind (
      Option.bind (
        Option.bind (loopO (fun s => ref01_Unhex.b2 k x_5 t_1 s.1 s.2) k ((0 : Int), x_5)) fun t => match t with
        | (.inl x_38) =>
          some (.inl x_38)
        | (.inr q) =>
          some (.inr q)
       : Option ((Int) ⊕ (((List UInt8) × Bool)))) fun t => match t with
      | (.inl x_39) =>
        lt1 ((UN.ofI x_39 : UInt8)) fun v_40 =>
        Option.bind (apL 1 x_4 ([v_40] : (List UInt8))) fun x_41 =>
        some (.inl x_41)
      | (.inr q) =>
        some (.inr q)
     : Option (((List UInt8)) ⊕ (((List UInt8) × Bool)))) fun t => match t with
    | (.inl x_44) =>
      lt1 (w64 (x_5 + (2 : Int))) fun v_47 =>
      some (.inl (x_44, v_47))
    | (.inr q) =>
      some (.inr (.inr q))
  else
    some (.inr (.inl x_4))

def ref01_Unhex (k : Nat) (t_1 : (List UInt8)) : Option (((List UInt8) × Bool)) :=
  Option.bind (modI (List.length t_1 : Int) (2 : Int)) fun v_2 =>
  lt1 ((v_2 != (0 : Int))) fun v_3 =>
  if v_3 = true then
    some (([] : (List UInt8)), false)
  else
    Option.bind (
      Option.bind (loopO (fun s => ref01_Unhex.b1 k t_1 s.1 s.2) k (([] : (List UInt8)), (0 : Int))) fun t => match t with
      | (.inl x_48) =>
        some (.inl x_48)
      | (.inr q) =>
        some (.inr q)
     : Option (((List UInt8)) ⊕ (((List UInt8) × Bool)))) fun t => match t with
    | (.inl x_51) =>
      some (x_51, true)
    | (.inr q) =>
      some q

def ref03_Of (k : Nat) (s_1 : (List UInt8)) : Option (((Vector UInt8 32) × Bool)) :=
  Option.bind (ref01_Unhex k s_1) fun (v_4, v_5) =>
  Option.bind (
    lt1 ((!v_5)) fun v_8 =>
    if v_8 = true then
      some true
    else
      lt1 (((List.length v_4 : Int) != (32 : Int))) fun v_9 =>
      some v_9
  ) fun x_10 =>
    if x_10 = true then
      some ((Vector.replicate 32 (0 : UInt8)), false)
    else
      lt1 (cpV (Vector.replicate 32 (0 : UInt8)) 0 (32 - 0) v_4) fun h_11 =>
      some (h_11, true)

def ref01_Hex.b1 (k : Nat) (b_1 : (List UInt8)) (o_2 : (List UInt8)) (i_3 : Int) : Option (((List UInt8) × Int) ⊕ (((List UInt8)))) :=
  lt1 (decide (i_3 < (List.length b_1 : Int))) fun v_6 =>
  if v_6 = true then
    Option.bind (idxL b_1 i_3) fun v_7 =>
    Option.bind (divU v_7 (16 : UInt8)) fun v_8 =>
    Option.bind (idxL ([48, 49, 50, 51, 52, 53, 54, 55, 56, 57, 97, 98, 99, 100, 101, 102] : List UInt8) (UN.toN v_8)) fun v_9 =>
    Option.bind (idxL b_1 i_3) fun v_10 =>
    Option.bind (modU v_10 (16 : UInt8)) fun v_11 =>
    Option.bind (idxL ([48, 49, 50, 51, 52, 53, 54, 55, 56, 57, 97, 98, 99, 100, 101, 102] : List UInt8) (UN.toN v_11)) fun v_12 =>
    Option.bind (apL 1 o_2 ([v_9, v_12] : (List UInt8))) fun o_13 =>
    lt1 (w64 (i_3 + (1 : Int))) fun v_16 =>
    some (.inl (o_13, v_16))
  else
    some (.inr o_2)

def ref01_Hex (k : Nat) (b_1 : (List UInt8)) : Option (((List UInt8))) :=
  Option.bind (
    loopO (fun s => ref01_Hex.b1 k b_1 s.1 s.2) k (([] : (List UInt8)), (0 : Int))
  ) fun o_17 =>
    some o_17

def sha_Equal.b1 (k : Nat) (a_1 : (Vector UInt8 32)) (b_2 : (Vector UInt8 32)) (x_5 : UInt8) (x_6 : Int) : Option ((UInt8 × Int) ⊕ ((UInt8))) :=
  lt1 (decide (x_6 < (32 : Int))) fun v_7 =>
  if v_7 = true then
    Option.bind (inV 32 x_6) fun i_8 =>
    lt1 ((getV a_1 i_8)) fun v_9 =>
    Option.bind (inV 32 x_6) fun i_10 =>
    lt1 ((getV b_2 i_10)) fun v_11 =>
    lt1 ((v_9 ^^^ v_11)) fun v_12 =>
    lt1 ((x_5 ||| v_12)) fun v_13 =>
    lt1 (w64 (x_6 + (1 : Int))) fun v_14 =>
    some (.inl (v_13, v_14))
  else
    some (.inr x_5)

def sha_Equal (k : Nat) (a_1 : (Vector UInt8 32)) (b_2 : (Vector UInt8 32)) : Option ((Bool)) :=
  Option.bind (
    loopO (fun s => sha_Equal.b1 k a_1 b_2 s.1 s.2) k ((0 : UInt8), (0 : Int))
  ) fun x_15 =>
    lt1 ((x_15 == (0 : UInt8))) fun v_16 =>
    some v_16

def ref03_prime.b2 (k : Nat) (v_5 : UInt64) (is_6 : Bool) (k_7 : UInt64) : Option ((Bool × UInt64) ⊕ ((Bool))) :=
  lt1 ((k_7 * k_7)) fun v_8 =>
  lt1 (decide (v_8 ≤ v_5)) fun v_9 =>
  if v_9 = true then
    Option.bind (
      Option.bind (if is_6 = true then modU v_5 k_7 else some default) fun v_10 =>
      lt1 ((!(v_10 == (0 : UInt64)))) fun v_11 =>
      lt1 (bif is_6 then v_11 else false) fun v_12 =>
      some v_12
    ) fun is_13 =>
      lt1 ((k_7 + (1 : UInt64))) fun v_14 =>
      some (.inl (is_13, v_14))
  else
    some (.inr is_6)

def ref03_prime.b1 (k : Nat) (i_2 : Int) (n_3 : UInt64) : Option ((Int × UInt64) ⊕ ((UInt64))) :=
  lt1 (decide (i_2 ≥ (0 : Int))) fun v_4 =>
  if v_4 = true then
    lt1 ((n_3 + (1 : UInt64))) fun v_5 =>
    Option.bind (
      loopO (fun s => ref03_prime.b2 k v_5 s.1 s.2) k (true, (2 : UInt64))
    ) fun is_15 =>
      if is_15 = true then
        lt1 (w64 (i_2 - (1 : Int))) fun v_16 =>
        some (.inl (v_16, v_5))
      else
        some (.inl (i_2, v_5))
  else
    some (.inr n_3)

def ref03_prime (k : Nat) (i_1 : Int) : Option ((UInt64)) :=
  Option.bind (
    loopO (fun s => ref03_prime.b1 k s.1 s.2) k (i_1, (1 : UInt64))
  ) fun n_17 =>
    some n_17

def ref03_Start (k : Nat) (i_1 : Int) : Option ((UInt32)) :=
  Option.bind (
    lt1 (decide (i_1 < (0 : Int))) fun v_2 =>
    lt1 (decide (i_1 > (7 : Int))) fun v_3 =>
    lt1 (bif v_2 then true else v_3) fun v_4 =>
    some v_4
  ) fun x_5 =>
    if x_5 = true then
      some (0 : UInt32)
    else
      Option.bind (ref03_prime k i_1) fun v_6 =>
      Option.bind (ref03_root k v_6 (2 : Int)) fun v_7 =>
      some v_7

def ref03_Constant (k : Nat) (i_1 : Int) : Option ((UInt32)) :=
  Option.bind (
    lt1 (decide (i_1 < (0 : Int))) fun v_2 =>
    lt1 (decide (i_1 > (63 : Int))) fun v_3 =>
    lt1 (bif v_2 then true else v_3) fun v_4 =>
    some v_4
  ) fun x_5 =>
    if x_5 = true then
      some (0 : UInt32)
    else
      Option.bind (ref03_prime k i_1) fun v_6 =>
      Option.bind (ref03_root k v_6 (3 : Int)) fun v_7 =>
      some v_7

def law03_ShaTexts (k : Nat) (t_1 : (Vector UInt8 32)) (a_2 : (Vector UInt8 32)) (a_3 : (List UInt8)) (a_4 : Int) : Option ((Bool)) :=
  lt1 (decide ((List.length a_3 : Int) > (300 : Int))) fun v_7 =>
  if v_7 = true then
    Option.bind (law03_known k) fun v_8 =>
    some v_8
  else
    Option.bind (sha_Of k a_3) fun (v_9, v_10) =>
    Option.bind (ref03_Of k a_3) fun (v_12, v_13) =>
    Option.bind (
      Option.bind (sha_Text k t_1) fun v_15 =>
      Option.bind (subL (Vector.toList t_1) (0 : Int) (32 : Int)) fun v_16 =>
      Option.bind (ref01_Hex k v_16) fun v_17 =>
      lt1 ((v_15 == v_17)) fun v_18 =>
      Option.bind (if v_18 = true then sha_Equal k t_1 a_2 else some default) fun v_19 =>
      lt1 (((eqV (fun x y => x == y)) t_1 a_2)) fun v_20 =>
      lt1 ((v_19 == v_20)) fun v_21 =>
      lt1 (bif v_18 then v_21 else false) fun v_22 =>
      lt1 (((eqV (fun x y => x == y)) v_9 v_12)) fun v_23 =>
      lt1 (bif v_22 then v_23 else false) fun v_24 =>
      Option.bind (if v_24 = true then law03_num k v_10 else some default) fun _ =>
      lt1 ((v_10 == (0 : Int))) fun v_26 =>
      lt1 ((v_26 == v_13)) fun v_27 =>
      lt1 (bif v_24 then v_27 else false) fun v_28 =>
      Option.bind (if (v_28 && (!v_13)) = true then law03_num k v_10 else some default) fun _ =>
      lt1 ((v_10 == (4 : Int))) fun v_30 =>
      lt1 (bif v_13 then true else v_30) fun v_31 =>
      lt1 (bif v_28 then v_31 else false) fun v_32 =>
      Option.bind (if v_32 = true then sha_Start k a_4 else some default) fun v_33 =>
      Option.bind (if v_32 = true then ref03_Start k a_4 else some default) fun v_34 =>
      lt1 ((v_33 == v_34)) fun v_35 =>
      lt1 (bif v_32 then v_35 else false) fun v_36 =>
      Option.bind (if v_36 = true then sha_Constant k a_4 else some default) fun v_37 =>
      Option.bind (if v_36 = true then ref03_Constant k a_4 else some default) fun v_38 =>
      lt1 ((v_37 == v_38)) fun v_39 =>
      lt1 (bif v_36 then v_39 else false) fun v_40 =>
      Option.bind (if v_40 = true then law03_known k else some default) fun v_41 =>
      lt1 (bif v_40 then v_41 else false) fun v_42 =>
      some v_42
    ) fun x_43 =>
      some x_43

end
end Go.Proofs.Ytdncoiehmkcajaa
