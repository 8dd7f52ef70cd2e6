/- The functions as plain Lean functions: no program and no memory here. -/
import Derived.Test.YtbmimaabgclhjaaFp
import Derived.Test.YtbmimaabgclhjaaFdq
namespace Go.Proofs.Ytbmimaabgclhjaa
open Fw
set_option linter.unusedVariables false
noncomputable section

structure api_Dot where
  Region : Int
  Count : UInt64
  deriving DecidableEq, Inhabited

def eq_api_Dot (x y : api_Dot) : Bool := ((x.Region == y.Region) && ((x.Count == y.Count) && true))
theorem eq_api_Dot_iff {x y : api_Dot} : eq_api_Dot x y = true ↔ x = y := by
  cases x; cases y; simp [eq_api_Dot]

structure api_Dest where
  Dot : api_Dot
  Device : (List UInt8)
  deriving DecidableEq, Inhabited

structure api_Event where
  ID : api_Dot
  Topic : (List UInt8)
  Payload : (List UInt8)
  Past : (Vector UInt64 16)
  To : (List api_Dest)
  deriving DecidableEq, Inhabited

structure law13_Act where
  Kind : Int
  Event : api_Event
  deriving DecidableEq, Inhabited

def law13_much.b1 (k : Nat) (l_1 : (List law13_Act)) (i_2 : Int) : Option ((Int) ⊕ ((Unit) ⊕ ((Bool)))) :=
 lt1 (decide (i_2 < (List.length l_1 : Int))) fun v_3 =>
 if v_3 = true then
  Option.bind (
   Option.bind (idxL l_1 i_2) fun v_4 =>
   lt1 (decide ((List.length v_4.Event.To : Int) > (40 : Int))) fun v_5 =>
   Option.bind (if (!v_5) = true then idxL l_1 i_2 else some default) fun v_6 =>
   lt1 (decide ((List.length v_6.Event.Payload : Int) > (1000 : Int))) fun v_7 =>
   lt1 (bif v_5 then true else v_7) fun v_8 =>
   some v_8
  ) fun x_9 =>
   if x_9 = true then
    some (.inr (.inr true))
   else
    lt1 (w64 (i_2 + (1 : Int))) fun v_10 =>
    some (.inl v_10)
 else
  some (.inr (.inl ()))

def law13_much (k : Nat) (l_1 : (List law13_Act)) : Option ((Bool)) :=
 Option.bind (
  Option.bind (loopO (fun s => law13_much.b1 k l_1 s) k (0 : Int)) fun t => match t with
  | (.inl _) =>
   some (.inl ())
  | (.inr q) =>
   some (.inr q)
  : Option ((Unit) ⊕ ((Bool)))) fun t => match t with
 | (.inl _) =>
  lt1 (decide ((List.length l_1 : Int) > (100 : Int))) fun v_11 =>
  some v_11
 | (.inr q) =>
  some q

def cast_New (k : Nat) (regions_1 : Int) (own_2 : Int) : Option ((Unit) ⊕ (Unit)) :=
 Option.bind (
  lt1 (decide (regions_1 < (1 : Int))) fun v_3 =>
  lt1 (decide (regions_1 > (16 : Int))) fun v_4 =>
  lt1 (bif v_3 then true else v_4) fun v_5 =>
  lt1 (decide (own_2 < (1 : Int))) fun v_6 =>
  lt1 (bif v_5 then true else v_6) fun v_7 =>
  lt1 (decide (own_2 > regions_1)) fun v_8 =>
  lt1 (bif v_7 then true else v_8) fun v_9 =>
  some v_9
 ) fun x_10 =>
  if x_10 = true then
   some (.inr ())
  else
   some (.inl ())

def law13_named (k : Nat) (region_1 : Int) (count_2 : UInt64) : Option ((api_Event)) :=
 lt1 (w64 (region_1 - (1 : Int))) fun v_5 =>
 lt1 ((count_2 - (1 : UInt64))) fun v_6 =>
 Option.bind (inV 16 v_5) fun i_7 =>
 lt1 ((putV (Vector.replicate 16 (0 : UInt64)) i_7 v_6)) fun past_8 =>
 some (api_Event.mk (api_Dot.mk region_1 count_2) ([116] : List UInt8) ([] : (List UInt8)) past_8 ([] : (List api_Dest)))

def cast_Caster_there_p_svvvnnmm (k : Nat) (regions_1 : Int) (own_2 : Int) (v_3 : (Vector UInt64 16)) (x_5 : (List (api_Dot × api_Event))) : Option ((Unit)) :=
 Option.bind (
  some ()
 ) fun _ =>
  some ()

def event_MayDot (k : Nat) (d_1 : api_Dot) : Option ((Bool)) :=
 Option.bind (
  lt1 (decide (d_1.Region ≥ (1 : Int))) fun v_3 =>
  lt1 (decide (d_1.Region ≤ (16 : Int))) fun v_4 =>
  lt1 (bif v_3 then v_4 else false) fun v_5 =>
  lt1 (decide ((1 : UInt64) ≤ d_1.Count)) fun v_6 =>
  lt1 (bif v_5 then v_6 else false) fun v_7 =>
  lt1 (decide (d_1.Count ≤ (4611686018427387904 : UInt64))) fun v_8 =>
  lt1 (bif v_7 then v_8 else false) fun v_9 =>
  some v_9
 ) fun x_10 =>
  some x_10

def event_mayVector_1 (k : Nat) (n_1 : UInt64) : Option ((Bool)) :=
 lt1 (decide ((4611686018427387904 : UInt64) < n_1)) fun v_2 =>
 some v_2

def slices_IndexFuncuint64_uint64.b1 (k : Nat) (s_1 : (List UInt64)) (x_2 : Int) : Option ((Int) ⊕ ((Unit) ⊕ ((Int)))) :=
 lt1 (decide (x_2 < (List.length s_1 : Int))) fun v_3 =>
 if v_3 = true then
  Option.bind (idxL s_1 x_2) fun v_4 =>
  Option.bind (event_mayVector_1 k v_4) fun v_5 =>
  if v_5 = true then
   some (.inr (.inr x_2))
  else
   lt1 (w64 (x_2 + (1 : Int))) fun v_6 =>
   some (.inl v_6)
 else
  some (.inr (.inl ()))

def slices_IndexFuncuint64_uint64 (k : Nat) (s_1 : (List UInt64)) : Option ((Int)) :=
 Option.bind (
  Option.bind (loopO (fun s => slices_IndexFuncuint64_uint64.b1 k s_1 s) k (0 : Int)) fun t => match t with
  | (.inl _) =>
   some (.inl ())
  | (.inr q) =>
   some (.inr q)
  : Option ((Unit) ⊕ ((Int)))) fun t => match t with
 | (.inl _) =>
  some (-1 : Int)
 | (.inr q) =>
  some q

def slices_ContainsFuncuint64_uint64 (k : Nat) (s_1 : (List UInt64)) : Option ((Bool)) :=
 Option.bind (slices_IndexFuncuint64_uint64 k s_1) fun v_2 =>
 lt1 (decide (v_2 ≥ (0 : Int))) fun v_3 =>
 some v_3

def event_mayVector (k : Nat) (v_1 : (Vector UInt64 16)) : Option ((Bool)) :=
 Option.bind (subL (Vector.toList v_1) (0 : Int) (16 : Int)) fun v_3 =>
 Option.bind (slices_ContainsFuncuint64_uint64 k v_3) fun v_4 =>
 lt1 ((!v_4)) fun v_5 =>
 some v_5

def event_MayName (k : Nat) (s_1 : (List UInt8)) : Option ((Bool)) :=
 Option.bind (
  lt1 (decide ((List.length s_1 : Int) ≥ (1 : Int))) fun v_2 =>
  lt1 (decide ((List.length s_1 : Int) ≤ (32 : Int))) fun v_3 =>
  lt1 (bif v_2 then v_3 else false) fun v_4 =>
  some v_4
 ) fun x_5 =>
  some x_5

def cmp_isNaNint (k : Nat) (x_1 : Int) : Option ((Bool)) :=
 lt1 ((x_1 != x_1)) fun v_2 =>
 some v_2

def cmp_Compareint (k : Nat) (x_1 : Int) (y_2 : Int) : Option ((Int)) :=
 Option.bind (cmp_isNaNint k x_1) fun v_3 =>
 Option.bind (cmp_isNaNint k y_2) fun v_4 =>
 if v_3 = true then
  if v_4 = true then
   some (0 : Int)
  else
   some (-1 : Int)
 else
  if v_4 = true then
   some (1 : Int)
  else
   lt1 (decide (x_1 < y_2)) fun v_5 =>
   if v_5 = true then
    some (-1 : Int)
   else
    lt1 (decide (x_1 > y_2)) fun v_6 =>
    if v_6 = true then
     some (1 : Int)
    else
     some (0 : Int)

def cmp_isNaNuint64 (k : Nat) (x_1 : UInt64) : Option ((Bool)) :=
 lt1 ((!(x_1 == x_1))) fun v_2 =>
 some v_2

def cmp_Compareuint64 (k : Nat) (x_1 : UInt64) (y_2 : UInt64) : Option ((Int)) :=
 Option.bind (cmp_isNaNuint64 k x_1) fun v_3 =>
 Option.bind (cmp_isNaNuint64 k y_2) fun v_4 =>
 if v_3 = true then
  if v_4 = true then
   some (0 : Int)
  else
   some (-1 : Int)
 else
  if v_4 = true then
   some (1 : Int)
  else
   lt1 (decide (x_1 < y_2)) fun v_5 =>
   if v_5 = true then
    some (-1 : Int)
   else
    lt1 (decide (y_2 < x_1)) fun v_6 =>
    if v_6 = true then
     some (1 : Int)
    else
     some (0 : Int)

def cmp_Orint.b1 (k : Nat) (vals_1 : (List Int)) (x_2 : Int) : Option ((Int) ⊕ ((Unit) ⊕ ((Int)))) :=
 lt1 (decide (x_2 < (List.length vals_1 : Int))) fun v_3 =>
 if v_3 = true then
  Option.bind (idxL vals_1 x_2) fun v_4 =>
  lt1 ((v_4 != (0 : Int))) fun v_5 =>
  if v_5 = true then
   some (.inr (.inr v_4))
  else
   lt1 (w64 (x_2 + (1 : Int))) fun v_6 =>
   some (.inl v_6)
 else
  some (.inr (.inl ()))

def cmp_Orint (k : Nat) (vals_1 : (List Int)) : Option ((Int)) :=
 Option.bind (
  Option.bind (loopO (fun s => cmp_Orint.b1 k vals_1 s) k (0 : Int)) fun t => match t with
  | (.inl _) =>
   some (.inl ())
  | (.inr q) =>
   some (.inr q)
  : Option ((Unit) ⊕ ((Int)))) fun t => match t with
 | (.inl _) =>
  some (0 : Int)
 | (.inr q) =>
  some q

def event_Less (k : Nat) (a_1 : api_Dot) (b_2 : api_Dot) : Option ((Bool)) :=
 Option.bind (cmp_Compareint k a_1.Region b_2.Region) fun v_5 =>
 Option.bind (cmp_Compareuint64 k a_1.Count b_2.Count) fun v_6 =>
 Option.bind (cmp_Orint k ([v_5, v_6] : (List Int))) fun v_7 =>
 lt1 (decide (v_7 < (0 : Int))) fun v_8 =>
 some v_8

def event_May.b1 (k : Nat) (t_1 : api_Event) (x_21 : Bool) (x_22 : Int) : Option ((Bool × Int) ⊕ ((Bool))) :=
 lt1 (decide (x_22 < (List.length t_1.To : Int))) fun v_23 =>
 if v_23 = true then
  Option.bind (idxL t_1.To x_22) fun v_24 =>
  Option.bind (
   Option.bind (event_MayDot k v_24.Dot) fun v_26 =>
   Option.bind (if v_26 = true then event_MayName k v_24.Device else some default) fun v_27 =>
   lt1 (bif v_26 then v_27 else false) fun v_28 =>
   lt1 ((x_22 == (0 : Int))) fun v_29 =>
   lt1 (w64 (x_22 - (1 : Int))) fun v_30 =>
   Option.bind (if (v_28 && (!v_29)) = true then idxL t_1.To v_30 else some default) fun v_31 =>
   Option.bind (if (v_28 && (!v_29)) = true then event_Less k v_31.Dot v_24.Dot else some default) fun v_32 =>
   lt1 (bif v_29 then true else v_32) fun v_33 =>
   lt1 (bif v_28 then v_33 else false) fun v_34 =>
   some v_34
  ) fun x_35 =>
   lt1 ((!x_35)) fun v_36 =>
   if v_36 = true then
    some (.inr x_35)
   else
    lt1 (w64 (x_22 + (1 : Int))) fun v_37 =>
    some (.inl (x_35, v_37))
 else
  some (.inr x_21)

def event_May (k : Nat) (t_1 : api_Event) : Option ((Bool)) :=
 Option.bind (
  Option.bind (event_MayDot k t_1.ID) fun v_3 =>
  lt1 ((!v_3)) fun v_4 =>
  Option.bind (if (!v_4) = true then event_mayVector k t_1.Past else some default) fun v_5 =>
  lt1 ((!v_5)) fun v_6 =>
  lt1 (bif v_4 then true else v_6) fun v_7 =>
  lt1 (w64 (t_1.ID.Region - (1 : Int))) fun v_8 =>
  if v_7 = true then
   some true
  else
   Option.bind (inV 16 v_8) fun i_9 =>
   lt1 ((getV t_1.Past i_9)) fun v_10 =>
   lt1 ((t_1.ID.Count - (1 : UInt64))) fun v_11 =>
   lt1 ((!(v_10 == v_11))) fun v_12 =>
   some v_12
 ) fun x_13 =>
  if x_13 = true then
   some false
  else
   Option.bind (
    Option.bind (event_MayName k t_1.Topic) fun v_14 =>
    lt1 ((!v_14)) fun v_15 =>
    lt1 (decide ((List.length t_1.Payload : Int) > (512 : Int))) fun v_16 =>
    lt1 (bif v_15 then true else v_16) fun v_17 =>
    lt1 (decide ((List.length t_1.To : Int) > (1024 : Int))) fun v_18 =>
    lt1 (bif v_17 then true else v_18) fun v_19 =>
    some v_19
   ) fun x_20 =>
    if x_20 = true then
     some false
    else
     Option.bind (
      loopO (fun s => event_May.b1 k t_1 s.1 s.2) k (true, (0 : Int))
     ) fun x_38 =>
      some x_38

def cast_Caster_may_pv_svvvnnmm.b1 (k : Nat) (v_19 : (List UInt64)) (x_20 : Int) : Option ((Int) ⊕ ((Unit) ⊕ ((Bool)))) :=
 lt1 (decide (x_20 < (List.length v_19 : Int))) fun v_21 =>
 if v_21 = true then
  Option.bind (idxL v_19 x_20) fun v_22 =>
  lt1 ((!(v_22 == (0 : UInt64)))) fun v_23 =>
  if v_23 = true then
   some (.inr (.inr false))
  else
   lt1 (w64 (x_20 + (1 : Int))) fun v_24 =>
   some (.inl v_24)
 else
  some (.inr (.inl ()))

def cast_Caster_may_pv_svvvnnmm (k : Nat) (e_1 : api_Event) (regions_2 : Int) (own_3 : Int) (v_4 : (Vector UInt64 16)) (x_6 : (List (api_Dot × api_Event))) : Option ((Bool)) :=
 Option.bind (
  Option.bind (event_May k e_1) fun v_9 =>
  lt1 ((!v_9)) fun v_10 =>
  lt1 (decide (e_1.ID.Region > regions_2)) fun v_11 =>
  lt1 (bif v_10 then true else v_11) fun v_12 =>
  lt1 (w64 (e_1.ID.Region - (1 : Int))) fun v_13 =>
  if v_12 = true then
   some true
  else
   Option.bind (inV 16 v_13) fun i_14 =>
   lt1 ((getV e_1.Past i_14)) fun v_15 =>
   lt1 ((e_1.ID.Count - (1 : UInt64))) fun v_16 =>
   lt1 ((!(v_15 == v_16))) fun v_17 =>
   some v_17
 ) fun x_18 =>
  if x_18 = true then
   some false
  else
   Option.bind (
    Option.bind (subL (Vector.toList e_1.Past) regions_2 (16 : Int)) fun v_19 =>
    Option.bind (loopO (fun s => cast_Caster_may_pv_svvvnnmm.b1 k v_19 s) k (0 : Int)) fun t => match t with
    | (.inl _) =>
     some (.inl ())
    | (.inr q) =>
     some (.inr q)
    : Option ((Unit) ⊕ ((Bool)))) fun t => match t with
   | (.inl _) =>
    some true
   | (.inr q) =>
    some q

def cast_Caster_can_pv_svvvnnmm.b1 (k : Nat) (e_1 : api_Event) (v_4 : (Vector UInt64 16)) (x_14 : Int) : Option ((Int) ⊕ ((Unit) ⊕ ((Bool)))) :=
 lt1 (decide (x_14 < (16 : Int))) fun v_15 =>
 if v_15 = true then
  Option.bind (idxV e_1.Past x_14) fun v_16 =>
  Option.bind (
   lt1 (w64 (e_1.ID.Region - (1 : Int))) fun v_17 =>
   lt1 ((x_14 != v_17)) fun v_18 =>
   if v_18 = true then
    Option.bind (inV 16 x_14) fun i_19 =>
    lt1 ((getV v_4 i_19)) fun v_20 =>
    lt1 (decide (v_20 < v_16)) fun v_21 =>
    some v_21
   else
    some false
  ) fun x_22 =>
   if x_22 = true then
    some (.inr (.inr false))
   else
    lt1 (w64 (x_14 + (1 : Int))) fun v_23 =>
    some (.inl v_23)
 else
  some (.inr (.inl ()))

def cast_Caster_can_pv_svvvnnmm (k : Nat) (e_1 : api_Event) (regions_2 : Int) (own_3 : Int) (v_4 : (Vector UInt64 16)) (x_6 : (List (api_Dot × api_Event))) : Option ((Bool)) :=
 lt1 (w64 (e_1.ID.Region - (1 : Int))) fun v_9 =>
 Option.bind (inV 16 v_9) fun i_10 =>
 lt1 ((getV v_4 i_10)) fun v_11 =>
 lt1 ((v_11 + (1 : UInt64))) fun v_12 =>
 lt1 ((!(e_1.ID.Count == v_12))) fun v_13 =>
 if v_13 = true then
  some false
 else
  Option.bind (
   Option.bind (loopO (fun s => cast_Caster_can_pv_svvvnnmm.b1 k e_1 v_4 s) k (0 : Int)) fun t => match t with
   | (.inl _) =>
    some (.inl ())
   | (.inr q) =>
    some (.inr q)
   : Option ((Unit) ⊕ ((Bool)))) fun t => match t with
  | (.inl _) =>
   some true
  | (.inr q) =>
   some q

def slices_Clonebyte_byte (k : Nat) (s_1 : (List UInt8)) : Option (((List UInt8))) :=
 Option.bind (apL 1 ([] : (List UInt8)) s_1) fun x_3 =>
 some x_3

def slices_Cloneapi_Dest_api_Dest (k : Nat) (s_1 : (List api_Dest)) : Option (((List api_Dest))) :=
 Option.bind (apL 32 ([] : (List api_Dest)) s_1) fun x_3 =>
 some x_3

def cast_fresh (k : Nat) (e_1 : api_Event) : Option ((api_Event)) :=
 Option.bind (slices_Clonebyte_byte k e_1.Payload) fun v_4 =>
 Option.bind (slices_Cloneapi_Dest_api_Dest k e_1.To) fun v_7 =>
 some (api_Event.mk e_1.ID e_1.Topic v_4 e_1.Past v_7)

def cast_Caster_apply_pv_svvvnnmm (k : Nat) (e_1 : api_Event) (regions_2 : Int) (own_3 : Int) (v_4 : (Vector UInt64 16)) (x_6 : (List (api_Dot × api_Event))) : Option (((Vector UInt64 16) × (List api_Event) × (List (Vector UInt64 16)))) :=
 lt1 (w64 (e_1.ID.Region - (1 : Int))) fun v_9 =>
 Option.bind (inV 16 v_9) fun i_10 =>
 lt1 ((getV v_4 i_10)) fun v_11 =>
 lt1 ((v_11 + (1 : UInt64))) fun v_12 =>
 Option.bind (inV 16 v_9) fun i_13 =>
 Option.bind (apL 208 ([] : (List api_Event)) ([e_1] : (List api_Event))) fun x_14 =>
 Option.bind (apL 128 ([] : (List (Vector UInt64 16))) ([(putV v_4 i_13 v_12)] : (List (Vector UInt64 16)))) fun x_17 =>
 some ((putV v_4 i_13 v_12), x_14, x_17)

def cast_Caster_can_pv_svvvoomm.b1 (k : Nat) (e_1 : api_Event) (v_4 : (Vector UInt64 16)) (x_20 : Int) : Option ((Int) ⊕ ((Unit) ⊕ ((Bool)))) :=
 lt1 (decide (x_20 < (16 : Int))) fun v_21 =>
 if v_21 = true then
  Option.bind (idxV e_1.Past x_20) fun v_22 =>
  Option.bind (
   lt1 (w64 (e_1.ID.Region - (1 : Int))) fun v_23 =>
   lt1 ((x_20 != v_23)) fun v_24 =>
   if v_24 = true then
    Option.bind (inV 16 x_20) fun i_25 =>
    lt1 ((getV v_4 i_25)) fun v_26 =>
    lt1 (decide (v_26 < v_22)) fun v_27 =>
    some v_27
   else
    some false
  ) fun x_28 =>
   if x_28 = true then
    some (.inr (.inr false))
   else
    lt1 (w64 (x_20 + (1 : Int))) fun v_29 =>
    some (.inl v_29)
 else
  some (.inr (.inl ()))

def cast_Caster_can_pv_svvvoomm (k : Nat) (e_1 : api_Event) (regions_2 : Int) (own_3 : Int) (v_4 : (Vector UInt64 16)) (x_6 : (List api_Event)) (x_9 : (List (Vector UInt64 16))) (x_12 : (List (api_Dot × api_Event))) : Option ((Bool)) :=
 lt1 (w64 (e_1.ID.Region - (1 : Int))) fun v_15 =>
 Option.bind (inV 16 v_15) fun i_16 =>
 lt1 ((getV v_4 i_16)) fun v_17 =>
 lt1 ((v_17 + (1 : UInt64))) fun v_18 =>
 lt1 ((!(e_1.ID.Count == v_18))) fun v_19 =>
 if v_19 = true then
  some false
 else
  Option.bind (
   Option.bind (loopO (fun s => cast_Caster_can_pv_svvvoomm.b1 k e_1 v_4 s) k (0 : Int)) fun t => match t with
   | (.inl _) =>
    some (.inl ())
   | (.inr q) =>
    some (.inr q)
   : Option ((Unit) ⊕ ((Bool)))) fun t => match t with
  | (.inl _) =>
   some true
  | (.inr q) =>
   some q

def cast_Caster_apply_pv_svvvoomm (k : Nat) (e_1 : api_Event) (regions_2 : Int) (own_3 : Int) (v_4 : (Vector UInt64 16)) (x_6 : (List api_Event)) (x_9 : (List (Vector UInt64 16))) (x_12 : (List (api_Dot × api_Event))) : Option (((Vector UInt64 16) × (List api_Event) × (List (Vector UInt64 16)))) :=
 lt1 (w64 (e_1.ID.Region - (1 : Int))) fun v_15 =>
 Option.bind (inV 16 v_15) fun i_16 =>
 lt1 ((getV v_4 i_16)) fun v_17 =>
 lt1 ((v_17 + (1 : UInt64))) fun v_18 =>
 Option.bind (inV 16 v_15) fun i_19 =>
 Option.bind (apL 208 x_6 ([e_1] : (List api_Event))) fun x_20 =>
 Option.bind (apL 128 x_9 ([(putV v_4 i_19 v_18)] : (List (Vector UInt64 16)))) fun x_23 =>
 some ((putV v_4 i_19 v_18), x_20, x_23)

def slices_Cloneapi_Event_api_Event (k : Nat) (s_1 : (List api_Event)) : Option (((List api_Event))) :=
 Option.bind (apL 208 ([] : (List api_Event)) s_1) fun x_3 =>
 some x_3

def cast_all.b1 (k : Nat) (v_2 : (List api_Event)) (out_5 : (List api_Event)) (x_6 : Int) : Option (((List api_Event) × Int) ⊕ (((List api_Event)))) :=
 lt1 (decide (x_6 < (List.length v_2 : Int))) fun v_7 =>
 if v_7 = true then
  Option.bind (inO out_5 x_6) fun i_8 =>
  Option.bind (out_5[i_8]?) fun v_9 =>
  Option.bind (cast_fresh k v_9) fun v_10 =>
  Option.bind (inO out_5 x_6) fun i_11 =>
  Option.bind (setO' out_5 i_11 v_10) fun out_12 =>
  lt1 (w64 (x_6 + (1 : Int))) fun v_13 =>
  some (.inl (out_12, v_13))
 else
  some (.inr out_5)

def cast_all (k : Nat) (l_1 : (List api_Event)) : Option (((List api_Event))) :=
 Option.bind (slices_Cloneapi_Event_api_Event k l_1) fun v_2 =>
 Option.bind (
  loopO (fun s => cast_all.b1 k v_2 s.1 s.2) k (v_2, (0 : Int))
 ) fun out_14 =>
  some out_14

def cast_Caster_Offer_pv_svvvnnmm.b1 (k : Nat) (regions_2 : Int) (own_3 : Int) (v_33 : (Vector UInt64 16)) (log_34 : (List api_Event)) (behind_35 : (List (Vector UInt64 16))) (x_36 : (List (api_Dot × api_Event))) (x_37 : Int) : Option (((Vector UInt64 16) × (List api_Event) × (List (Vector UInt64 16)) × (List (api_Dot × api_Event)) × Int) ⊕ (((Vector UInt64 16) × (List api_Event) × (List (Vector UInt64 16)) × (List (api_Dot × api_Event))))) :=
 lt1 (decide (x_37 ≤ regions_2)) fun v_42 =>
 if v_42 = true then
  Option.bind (
   lt1 (w64 (x_37 - (1 : Int))) fun v_43 =>
   Option.bind (inV 16 v_43) fun i_44 =>
   lt1 ((getV v_33 i_44)) fun v_45 =>
   lt1 ((v_45 + (1 : UInt64))) fun v_46 =>
   Option.bind (mgetC (some x_36) (api_Dot.mk x_37 v_46) (api_Event.mk (api_Dot.mk (0 : Int) (0 : UInt64)) ([] : (List UInt8)) ([] : (List UInt8)) (Vector.replicate 16 (0 : UInt64)) ([] : (List api_Dest)))) fun (v_48, is_49) =>
   Option.bind (
    if is_49 = true then
     Option.bind (cast_Caster_can_pv_svvvoomm k v_48 regions_2 own_3 v_33 log_34 behind_35 x_36) fun v_51 =>
     some v_51
    else
     some false
   ) fun x_52 =>
    if x_52 = true then
     lt1 (mdel (api_Dot.mk x_37 v_46) x_36) fun x_53 =>
     Option.bind (cast_Caster_apply_pv_svvvoomm k v_48 regions_2 own_3 v_33 log_34 behind_35 x_53) fun (x_54, x_55, x_56) =>
     some (x_54, x_55, x_56, x_53, (0 : Int))
    else
     some (v_33, log_34, behind_35, x_36, x_37)
  ) fun (v_61, log_62, behind_63, x_64, x_65) =>
   lt1 (w64 (x_65 + (1 : Int))) fun v_70 =>
   some (.inl (v_61, log_62, behind_63, x_64, v_70))
 else
  some (.inr (v_33, log_34, behind_35, x_36))

def cast_Caster_Offer_pv_svvvnnmm (k : Nat) (a_1 : api_Event) (regions_2 : Int) (own_3 : Int) (v_4 : (Vector UInt64 16)) (x_6 : (List (api_Dot × api_Event))) : Option (((List api_Event) × Int × (Vector UInt64 16) × (List api_Event) × (List (Vector UInt64 16)) × (List (api_Dot × api_Event)))) :=
 Option.bind (cast_Caster_there_p_svvvnnmm k regions_2 own_3 v_4 x_6) fun _ =>
 Option.bind (cast_Caster_may_pv_svvvnnmm k a_1 regions_2 own_3 v_4 x_6) fun v_10 =>
 lt1 ((!v_10)) fun v_11 =>
 if v_11 = true then
  some (([] : (List api_Event)), (2 : Int), v_4, ([] : (List api_Event)), ([] : (List (Vector UInt64 16))), x_6)
 else
  Option.bind (mgetC (some x_6) a_1.ID (api_Event.mk (api_Dot.mk (0 : Int) (0 : UInt64)) ([] : (List UInt8)) ([] : (List UInt8)) (Vector.replicate 16 (0 : UInt64)) ([] : (List api_Dest)))) fun (v_12, is_13) =>
  Option.bind (
   lt1 (w64 (a_1.ID.Region - (1 : Int))) fun v_15 =>
   if is_13 = true then
    some true
   else
    Option.bind (inV 16 v_15) fun i_16 =>
    lt1 ((getV v_4 i_16)) fun v_17 =>
    lt1 (decide (a_1.ID.Count ≤ v_17)) fun v_18 =>
    some v_18
  ) fun x_19 =>
   if x_19 = true then
    some (([] : (List api_Event)), (0 : Int), v_4, ([] : (List api_Event)), ([] : (List (Vector UInt64 16))), x_6)
   else
    Option.bind (cast_Caster_can_pv_svvvnnmm k a_1 regions_2 own_3 v_4 x_6) fun v_20 =>
    lt1 ((!v_20)) fun v_21 =>
    if v_21 = true then
     lt1 (decide ((List.length (Option.getD (some x_6) []) : Int) ≥ (256 : Int))) fun v_22 =>
     if v_22 = true then
      some (([] : (List api_Event)), (5 : Int), v_4, ([] : (List api_Event)), ([] : (List (Vector UInt64 16))), x_6)
     else
      Option.bind (cast_fresh k a_1) fun v_23 =>
      lt1 (mput a_1.ID v_23 x_6) fun x_24 =>
      some (([] : (List api_Event)), (0 : Int), v_4, ([] : (List api_Event)), ([] : (List (Vector UInt64 16))), x_24)
    else
     Option.bind (cast_fresh k a_1) fun v_25 =>
     Option.bind (cast_Caster_apply_pv_svvvnnmm k v_25 regions_2 own_3 v_4 x_6) fun (x_26, x_27, x_28) =>
     Option.bind (
      loopO (fun s => cast_Caster_Offer_pv_svvvnnmm.b1 k regions_2 own_3 s.1 s.2.1 s.2.2.1 s.2.2.2.1 s.2.2.2.2) k (x_26, x_27, x_28, x_6, (1 : Int))
     ) fun (v_71, log_72, behind_73, x_74) =>
      Option.bind (subL log_72 (0 : Int) (List.length log_72 : Int)) fun v_79 =>
      Option.bind (cast_all k v_79) fun v_80 =>
      some (v_80, (0 : Int), v_71, log_72, behind_73, x_74)

def cast_Caster_there_p_svvvoomm (k : Nat) (regions_1 : Int) (own_2 : Int) (v_3 : (Vector UInt64 16)) (x_5 : (List api_Event)) (x_8 : (List (Vector UInt64 16))) (x_11 : (List (api_Dot × api_Event))) : Option ((Unit)) :=
 Option.bind (
  some ()
 ) fun _ =>
  some ()

def maps_Valuesmapapi_Dotapi_Event_api_Dot_api_Event (k : Nat) (x_1 : (List (api_Dot × api_Event))) : Option ((Unit)) :=
 some ()

def maps_Valuesmapapi_Dotapi_Event_api_Dot_api_Event_1.b1 {σ τ : Type} (k : Nat) (Y_1 : (σ → api_Event → Option (σ ⊕ τ))) (x_9 : (σ ⊕ τ)) (e_11 : (api_Dot × api_Event)) : Option (((σ ⊕ τ)) ⊕ (((σ ⊕ τ)) ⊕ (((σ ⊕ τ))))) :=
 Option.bind (yldO Y_1 x_9 e_11.2) fun y_14 =>
 lt1 ((!(Sum.isLeft y_14))) fun v_16 =>
 if v_16 = true then
  some (.inr (.inr y_14))
 else
  some (.inl y_14)

def maps_Valuesmapapi_Dotapi_Event_api_Dot_api_Event_1.f1 {σ τ : Type} (k : Nat) (x_9 : (σ ⊕ τ)) : Option (((σ ⊕ τ)) ⊕ (((σ ⊕ τ)))) :=
 some (.inl x_9)

def maps_Valuesmapapi_Dotapi_Event_api_Dot_api_Event_1 {σ τ : Type} (k : Nat) (Y_1 : (σ → api_Event → Option (σ ⊕ τ))) (x_2 : (σ ⊕ τ)) (x_5 : (List (api_Dot × api_Event))) : Option (((σ ⊕ τ))) :=
 Option.bind (rangeM (Option.getD (some x_5) []) (fun s e => maps_Valuesmapapi_Dotapi_Event_api_Dot_api_Event_1.b1 k Y_1 s e) (fun s => maps_Valuesmapapi_Dotapi_Event_api_Dot_api_Event_1.f1 k s) x_2) fun t => match t with
 | (.inl x_17) =>
  some x_17
 | (.inr q) =>
  some q

def slices_AppendSeqapi_Event_api_Event'2.y1 (k : Nat) (s_8 : (List api_Event)) (a_11 : api_Event) : Option (((List api_Event)) ⊕ (Empty)) :=
 Option.bind (apL 208 s_8 ([a_11] : (List api_Event))) fun x_13 =>
 some (.inl x_13)

def slices_AppendSeqapi_Event_api_Event'2 (k : Nat) (s_1 : (List api_Event)) (x_5 : (List (api_Dot × api_Event))) : Option (((List api_Event))) :=
 Option.bind (
  Option.bind (maps_Valuesmapapi_Dotapi_Event_api_Dot_api_Event_1 k (fun (s : (List api_Event)) (u : api_Event) => slices_AppendSeqapi_Event_api_Event'2.y1 k s u) (Sum.inl s_1) x_5) fun tv2 => match tv2 with
  | (.inl s_17) =>
   some s_17
  | (.inr e) => nomatch e
 ) fun s_20 =>
  some s_20

def slices_Collectapi_Event'2 (k : Nat) (x_2 : (List (api_Dot × api_Event))) : Option (((List api_Event))) :=
 Option.bind (slices_AppendSeqapi_Event_api_Event'2 k ([] : (List api_Event)) x_2) fun v_4 =>
 some v_4

def math_bits_Len64 (k : Nat) (x_1 : UInt64) : Option ((Int)) :=
 Option.bind (
  lt1 (decide ((4294967296 : UInt64) ≤ x_1)) fun v_2 =>
  if v_2 = true then
   lt1 (UN.shr x_1 (UN.toN (32 : UInt64))) fun v_3 =>
   some (v_3, (32 : Int))
  else
   some (x_1, (0 : Int))
 ) fun (x_4, n_5) =>
  Option.bind (
   lt1 (decide ((65536 : UInt64) ≤ x_4)) fun v_6 =>
   if v_6 = true then
    lt1 (UN.shr x_4 (UN.toN (16 : UInt64))) fun v_7 =>
    lt1 (w64 (n_5 + (16 : Int))) fun v_8 =>
    some (v_7, v_8)
   else
    some (x_4, n_5)
  ) fun (x_9, n_10) =>
   Option.bind (
    lt1 (decide ((256 : UInt64) ≤ x_9)) fun v_11 =>
    if v_11 = true then
     lt1 (UN.shr x_9 (UN.toN (8 : UInt64))) fun v_12 =>
     lt1 (w64 (n_10 + (8 : Int))) fun v_13 =>
     some (v_12, v_13)
    else
     some (x_9, n_10)
   ) fun (x_14, n_15) =>
    lt1 ((UN.to x_14 : UInt8)) fun v_16 =>
    Option.bind (idxL ([0, 1, 2, 2, 3, 3, 3, 3, 4, 4, 4, 4, 4, 4, 4, 4, 5, 5, 5, 5, 5, 5, 5, 5, 5, 5, 5, 5, 5, 5, 5, 5, 6, 6, 6, 6, 6, 6, 6, 6, 6, 6, 6, 6, 6, 6, 6, 6, 6, 6, 6, 6, 6, 6, 6, 6, 6, 6, 6, 6, 6, 6, 6, 6, 7, 7, 7, 7, 7, 7, 7, 7, 7, 7, 7, 7, 7, 7, 7, 7, 7, 7, 7, 7, 7, 7, 7, 7, 7, 7, 7, 7, 7, 7, 7, 7, 7, 7, 7, 7, 7, 7, 7, 7, 7, 7, 7, 7, 7, 7, 7, 7, 7, 7, 7, 7, 7, 7, 7, 7, 7, 7, 7, 7, 7, 7, 7, 7, 8, 8, 8, 8, 8, 8, 8, 8, 8, 8, 8, 8, 8, 8, 8, 8, 8, 8, 8, 8, 8, 8, 8, 8, 8, 8, 8, 8, 8, 8, 8, 8, 8, 8, 8, 8, 8, 8, 8, 8, 8, 8, 8, 8, 8, 8, 8, 8, 8, 8, 8, 8, 8, 8, 8, 8, 8, 8, 8, 8, 8, 8, 8, 8, 8, 8, 8, 8, 8, 8, 8, 8, 8, 8, 8, 8, 8, 8, 8, 8, 8, 8, 8, 8, 8, 8, 8, 8, 8, 8, 8, 8, 8, 8, 8, 8, 8, 8, 8, 8, 8, 8, 8, 8, 8, 8, 8, 8, 8, 8, 8, 8, 8, 8, 8, 8, 8, 8, 8, 8, 8, 8, 8, 8, 8, 8, 8, 8] : List UInt8) (UN.toN v_16)) fun v_17 =>
    lt1 (w64 (UN.toN v_17 : Int)) fun v_18 =>
    lt1 (w64 (n_15 + v_18)) fun v_19 =>
    some v_19

def math_bits_Len (k : Nat) (x_1 : UInt64) : Option ((Int)) :=
 Option.bind (math_bits_Len64 k x_1) fun v_2 =>
 some v_2

def slices_insertionSortCmpFuncapi_Event.b2 (k : Nat) (i_5 : Int) (a_2 : Int) (data_1 : (List api_Event)) : Option ((Unit) ⊕ ((Unit))) :=
 Option.bind (
  lt1 (decide (i_5 > a_2)) fun v_7 =>
  Option.bind (if v_7 = true then idxL data_1 i_5 else some default) fun v_8 =>
  lt1 (w64 (i_5 - (1 : Int))) fun v_9 =>
  Option.bind (if v_7 = true then idxL data_1 v_9 else some default) fun v_10 =>
  if v_7 = true then
   none
  else
   some ()
 ) fun _ =>
  some (.inr ())

def slices_insertionSortCmpFuncapi_Event.b1 (k : Nat) (b_3 : Int) (a_2 : Int) (data_1 : (List api_Event)) (i_5 : Int) : Option ((Int) ⊕ ((Unit))) :=
 lt1 (decide (i_5 < b_3)) fun v_6 =>
 if v_6 = true then
  Option.bind (
   loopO (fun _ => slices_insertionSortCmpFuncapi_Event.b2 k i_5 a_2 data_1) k ()
  ) fun _ =>
   lt1 (w64 (i_5 + (1 : Int))) fun v_11 =>
   some (.inl v_11)
 else
  some (.inr ())

def slices_insertionSortCmpFuncapi_Event (k : Nat) (data_1 : (List api_Event)) (a_2 : Int) (b_3 : Int) : Option ((Unit)) :=
 lt1 (w64 (a_2 + (1 : Int))) fun v_4 =>
 loopO (fun s => slices_insertionSortCmpFuncapi_Event.b1 k b_3 a_2 data_1 s) k v_4

def slices_pdqsortCmpFuncapi_Event.b1 (k : Nat) (a_3 : Int) (a_2 : Int) (t_1 : (List api_Event)) (a_4 : Int) : Option ((Unit) ⊕ (((Unit)))) :=
 lt1 (w64 (a_3 - a_2)) fun v_5 =>
 lt1 (decide (v_5 ≤ (12 : Int))) fun v_6 =>
 if v_6 = true then
  Option.bind (slices_insertionSortCmpFuncapi_Event k t_1 a_2 a_3) fun _ =>
  some (.inr ())
 else
  lt1 ((a_4 == (0 : Int))) fun v_8 =>
  if v_8 = true then
   none
  else
   Option.bind (
    some ()
   ) fun _ =>
    none

def slices_pdqsortCmpFuncapi_Event (k : Nat) (t_1 : (List api_Event)) (a_2 : Int) (a_3 : Int) (a_4 : Int) : Option ((Unit)) :=
 loopO (fun _ => slices_pdqsortCmpFuncapi_Event.b1 k a_3 a_2 t_1 a_4) k ()

def slices_SortFuncapi_Event_api_Event (k : Nat) (x_1 : (List api_Event)) : Option ((Unit)) :=
 lt1 ((UN.ofI (List.length x_1 : Int) : UInt64)) fun v_2 =>
 Option.bind (math_bits_Len k v_2) fun v_3 =>
 Option.bind (slices_pdqsortCmpFuncapi_Event k x_1 (0 : Int) (List.length x_1 : Int) v_3) fun _ =>
 some ()

def slices_SortedFuncapi_Event'2 (k : Nat) (x_2 : (List (api_Dot × api_Event))) : Option (((List api_Event))) :=
 Option.bind (slices_Collectapi_Event'2 k x_2) fun v_4 =>
 Option.bind (slices_SortFuncapi_Event_api_Event k v_4) fun _ =>
 some v_4

def cast_Caster_Held_p_svvvoomm (k : Nat) (regions_1 : Int) (own_2 : Int) (v_3 : (Vector UInt64 16)) (x_5 : (List api_Event)) (x_8 : (List (Vector UInt64 16))) (x_11 : (List (api_Dot × api_Event))) : Option (((List api_Event))) :=
 Option.bind (cast_Caster_there_p_svvvoomm k regions_1 own_2 v_3 x_5 x_8 x_11) fun _ =>
 Option.bind (maps_Valuesmapapi_Dotapi_Event_api_Dot_api_Event k x_11) fun _ =>
 Option.bind (slices_SortedFuncapi_Event'2 k x_11) fun v_16 =>
 Option.bind (cast_all k v_16) fun v_19 =>
 some v_19

def cast_Caster_may_pv_svvvoomm.b1 (k : Nat) (v_25 : (List UInt64)) (x_26 : Int) : Option ((Int) ⊕ ((Unit) ⊕ ((Bool)))) :=
 lt1 (decide (x_26 < (List.length v_25 : Int))) fun v_27 =>
 if v_27 = true then
  Option.bind (idxL v_25 x_26) fun v_28 =>
  lt1 ((!(v_28 == (0 : UInt64)))) fun v_29 =>
  if v_29 = true then
   some (.inr (.inr false))
  else
   lt1 (w64 (x_26 + (1 : Int))) fun v_30 =>
   some (.inl v_30)
 else
  some (.inr (.inl ()))

def cast_Caster_may_pv_svvvoomm (k : Nat) (e_1 : api_Event) (regions_2 : Int) (own_3 : Int) (v_4 : (Vector UInt64 16)) (x_6 : (List api_Event)) (x_9 : (List (Vector UInt64 16))) (x_12 : (List (api_Dot × api_Event))) : Option ((Bool)) :=
 Option.bind (
  Option.bind (event_May k e_1) fun v_15 =>
  lt1 ((!v_15)) fun v_16 =>
  lt1 (decide (e_1.ID.Region > regions_2)) fun v_17 =>
  lt1 (bif v_16 then true else v_17) fun v_18 =>
  lt1 (w64 (e_1.ID.Region - (1 : Int))) fun v_19 =>
  if v_18 = true then
   some true
  else
   Option.bind (inV 16 v_19) fun i_20 =>
   lt1 ((getV e_1.Past i_20)) fun v_21 =>
   lt1 ((e_1.ID.Count - (1 : UInt64))) fun v_22 =>
   lt1 ((!(v_21 == v_22))) fun v_23 =>
   some v_23
 ) fun x_24 =>
  if x_24 = true then
   some false
  else
   Option.bind (
    Option.bind (subL (Vector.toList e_1.Past) regions_2 (16 : Int)) fun v_25 =>
    Option.bind (loopO (fun s => cast_Caster_may_pv_svvvoomm.b1 k v_25 s) k (0 : Int)) fun t => match t with
    | (.inl _) =>
     some (.inl ())
    | (.inr q) =>
     some (.inr q)
    : Option ((Unit) ⊕ ((Bool)))) fun t => match t with
   | (.inl _) =>
    some true
   | (.inr q) =>
    some q

def cast_Caster_can_pv_svvvoomm'2.b1 (k : Nat) (e_1 : api_Event) (v_4 : (Vector UInt64 16)) (x_20 : Int) : Option ((Int) ⊕ ((Unit) ⊕ ((Bool)))) :=
 lt1 (decide (x_20 < (16 : Int))) fun v_21 =>
 if v_21 = true then
  Option.bind (idxV e_1.Past x_20) fun v_22 =>
  Option.bind (
   lt1 (w64 (e_1.ID.Region - (1 : Int))) fun v_23 =>
   lt1 ((x_20 != v_23)) fun v_24 =>
   if v_24 = true then
    Option.bind (inV 16 x_20) fun i_25 =>
    lt1 ((getV v_4 i_25)) fun v_26 =>
    lt1 (decide (v_26 < v_22)) fun v_27 =>
    some v_27
   else
    some false
  ) fun x_28 =>
   if x_28 = true then
    some (.inr (.inr false))
   else
    lt1 (w64 (x_20 + (1 : Int))) fun v_29 =>
    some (.inl v_29)
 else
  some (.inr (.inl ()))

def cast_Caster_can_pv_svvvoomm'2 (k : Nat) (e_1 : api_Event) (regions_2 : Int) (own_3 : Int) (v_4 : (Vector UInt64 16)) (x_6 : (List api_Event)) (x_9 : (List (Vector UInt64 16))) (x_12 : (List (api_Dot × api_Event))) : Option ((Bool)) :=
 lt1 (w64 (e_1.ID.Region - (1 : Int))) fun v_15 =>
 Option.bind (inV 16 v_15) fun i_16 =>
 lt1 ((getV v_4 i_16)) fun v_17 =>
 lt1 ((v_17 + (1 : UInt64))) fun v_18 =>
 lt1 ((!(e_1.ID.Count == v_18))) fun v_19 =>
 if v_19 = true then
  some false
 else
  Option.bind (
   Option.bind (loopO (fun s => cast_Caster_can_pv_svvvoomm'2.b1 k e_1 v_4 s) k (0 : Int)) fun t => match t with
   | (.inl _) =>
    some (.inl ())
   | (.inr q) =>
    some (.inr q)
   : Option ((Unit) ⊕ ((Bool)))) fun t => match t with
  | (.inl _) =>
   some true
  | (.inr q) =>
   some q

def cast_Caster_apply_pv_svvvoomm'2 (k : Nat) (e_1 : api_Event) (regions_2 : Int) (own_3 : Int) (v_4 : (Vector UInt64 16)) (x_6 : (List api_Event)) (x_9 : (List (Vector UInt64 16))) (x_12 : (List (api_Dot × api_Event))) : Option (((Vector UInt64 16) × (List api_Event) × (List (Vector UInt64 16)))) :=
 lt1 (w64 (e_1.ID.Region - (1 : Int))) fun v_15 =>
 Option.bind (inV 16 v_15) fun i_16 =>
 lt1 ((getV v_4 i_16)) fun v_17 =>
 lt1 ((v_17 + (1 : UInt64))) fun v_18 =>
 Option.bind (inV 16 v_15) fun i_19 =>
 Option.bind (apL 208 x_6 ([e_1] : (List api_Event))) fun x_20 =>
 Option.bind (apL 128 x_9 ([(putV v_4 i_19 v_18)] : (List (Vector UInt64 16)))) fun x_23 =>
 some ((putV v_4 i_19 v_18), x_20, x_23)

def cast_Caster_Offer_pv_svvvoomm.b1 (k : Nat) (regions_2 : Int) (own_3 : Int) (v_39 : (Vector UInt64 16)) (log_40 : (List api_Event)) (behind_41 : (List (Vector UInt64 16))) (x_42 : (List (api_Dot × api_Event))) (x_43 : Int) : Option (((Vector UInt64 16) × (List api_Event) × (List (Vector UInt64 16)) × (List (api_Dot × api_Event)) × Int) ⊕ (((Vector UInt64 16) × (List api_Event) × (List (Vector UInt64 16)) × (List (api_Dot × api_Event))))) :=
 lt1 (decide (x_43 ≤ regions_2)) fun v_48 =>
 if v_48 = true then
  Option.bind (
   lt1 (w64 (x_43 - (1 : Int))) fun v_49 =>
   Option.bind (inV 16 v_49) fun i_50 =>
   lt1 ((getV v_39 i_50)) fun v_51 =>
   lt1 ((v_51 + (1 : UInt64))) fun v_52 =>
   Option.bind (mgetC (some x_42) (api_Dot.mk x_43 v_52) (api_Event.mk (api_Dot.mk (0 : Int) (0 : UInt64)) ([] : (List UInt8)) ([] : (List UInt8)) (Vector.replicate 16 (0 : UInt64)) ([] : (List api_Dest)))) fun (v_54, is_55) =>
   Option.bind (
    if is_55 = true then
     Option.bind (cast_Caster_can_pv_svvvoomm'2 k v_54 regions_2 own_3 v_39 log_40 behind_41 x_42) fun v_57 =>
     some v_57
    else
     some false
   ) fun x_58 =>
    if x_58 = true then
     lt1 (mdel (api_Dot.mk x_43 v_52) x_42) fun x_59 =>
     Option.bind (cast_Caster_apply_pv_svvvoomm'2 k v_54 regions_2 own_3 v_39 log_40 behind_41 x_59) fun (x_60, x_61, x_62) =>
     some (x_60, x_61, x_62, x_59, (0 : Int))
    else
     some (v_39, log_40, behind_41, x_42, x_43)
  ) fun (v_67, log_68, behind_69, x_70, x_71) =>
   lt1 (w64 (x_71 + (1 : Int))) fun v_76 =>
   some (.inl (v_67, log_68, behind_69, x_70, v_76))
 else
  some (.inr (v_39, log_40, behind_41, x_42))

def cast_Caster_Offer_pv_svvvoomm (k : Nat) (a_1 : api_Event) (regions_2 : Int) (own_3 : Int) (v_4 : (Vector UInt64 16)) (x_6 : (List api_Event)) (x_9 : (List (Vector UInt64 16))) (x_12 : (List (api_Dot × api_Event))) : Option (((List api_Event) × Int × (Vector UInt64 16) × (List api_Event) × (List (Vector UInt64 16)) × (List (api_Dot × api_Event)))) :=
 Option.bind (cast_Caster_there_p_svvvoomm k regions_2 own_3 v_4 x_6 x_9 x_12) fun _ =>
 Option.bind (cast_Caster_may_pv_svvvoomm k a_1 regions_2 own_3 v_4 x_6 x_9 x_12) fun v_16 =>
 lt1 ((!v_16)) fun v_17 =>
 if v_17 = true then
  some (([] : (List api_Event)), (2 : Int), v_4, x_6, x_9, x_12)
 else
  Option.bind (mgetC (some x_12) a_1.ID (api_Event.mk (api_Dot.mk (0 : Int) (0 : UInt64)) ([] : (List UInt8)) ([] : (List UInt8)) (Vector.replicate 16 (0 : UInt64)) ([] : (List api_Dest)))) fun (v_18, is_19) =>
  Option.bind (
   lt1 (w64 (a_1.ID.Region - (1 : Int))) fun v_21 =>
   if is_19 = true then
    some true
   else
    Option.bind (inV 16 v_21) fun i_22 =>
    lt1 ((getV v_4 i_22)) fun v_23 =>
    lt1 (decide (a_1.ID.Count ≤ v_23)) fun v_24 =>
    some v_24
  ) fun x_25 =>
   if x_25 = true then
    some (([] : (List api_Event)), (0 : Int), v_4, x_6, x_9, x_12)
   else
    Option.bind (cast_Caster_can_pv_svvvoomm'2 k a_1 regions_2 own_3 v_4 x_6 x_9 x_12) fun v_26 =>
    lt1 ((!v_26)) fun v_27 =>
    if v_27 = true then
     lt1 (decide ((List.length (Option.getD (some x_12) []) : Int) ≥ (256 : Int))) fun v_28 =>
     if v_28 = true then
      some (([] : (List api_Event)), (5 : Int), v_4, x_6, x_9, x_12)
     else
      Option.bind (cast_fresh k a_1) fun v_29 =>
      lt1 (mput a_1.ID v_29 x_12) fun x_30 =>
      some (([] : (List api_Event)), (0 : Int), v_4, x_6, x_9, x_30)
    else
     Option.bind (cast_fresh k a_1) fun v_31 =>
     Option.bind (cast_Caster_apply_pv_svvvoomm'2 k v_31 regions_2 own_3 v_4 x_6 x_9 x_12) fun (x_32, x_33, x_34) =>
     Option.bind (
      loopO (fun s => cast_Caster_Offer_pv_svvvoomm.b1 k regions_2 own_3 s.1 s.2.1 s.2.2.1 s.2.2.2.1 s.2.2.2.2) k (x_32, x_33, x_34, x_12, (1 : Int))
     ) fun (v_77, log_78, behind_79, x_80) =>
      Option.bind (subL log_78 (List.length x_6 : Int) (List.length log_78 : Int)) fun v_85 =>
      Option.bind (cast_all k v_85) fun v_86 =>
      some (v_86, (0 : Int), v_77, log_78, behind_79, x_80)

def cast_Caster_Vector_p_svvvoomm (k : Nat) (regions_1 : Int) (own_2 : Int) (v_3 : (Vector UInt64 16)) (x_5 : (List api_Event)) (x_8 : (List (Vector UInt64 16))) (x_11 : (List (api_Dot × api_Event))) : Option ((Unit)) :=
 Option.bind (cast_Caster_there_p_svvvoomm k regions_1 own_2 v_3 x_5 x_8 x_11) fun _ =>
 some ()

def cast_Caster_there_n (k : Nat) : Option ((Unit)) :=
 Option.bind (
  some ()
 ) fun _ =>
  some ()

def cast_Caster_Offer_nv (k : Nat) (a_1 : api_Event) : Option ((Unit)) :=
 Option.bind (cast_Caster_there_n k) fun _ =>
 some ()

def cast_Caster_Held_n (k : Nat) : Option ((Unit)) :=
 Option.bind (cast_Caster_there_n k) fun _ =>
 some ()

def law13_known (k : Nat) : Option ((Bool)) :=
 Option.bind (cast_New k (2 : Int) (1 : Int)) fun t => match t with
 | (.inl _) =>
  Option.bind (law13_named k (2 : Int) (2 : UInt64)) fun v_3 =>
  Option.bind (cast_Caster_Offer_pv_svvvnnmm k v_3 (2 : Int) (1 : Int) (Vector.replicate 16 (0 : UInt64)) ([] : (List (api_Dot × api_Event)))) fun (v_4, v_5, x_6, x_7, x_8, x_9) =>
  Option.bind (cast_Caster_Held_p_svvvoomm k (2 : Int) (1 : Int) x_6 x_7 x_8 (x_9)) fun v_16 =>
  Option.bind (law13_named k (2 : Int) (1 : UInt64)) fun v_19 =>
  Option.bind (cast_Caster_Offer_pv_svvvoomm k v_19 (2 : Int) (1 : Int) x_6 x_7 x_8 (x_9)) fun (v_20, v_21, x_22, x_23, x_24, x_25) =>
  Option.bind (
   lt1 ((v_5 == (0 : Int))) fun v_32 =>
   lt1 ((v_21 == (0 : Int))) fun v_33 =>
   lt1 (bif v_32 then v_33 else false) fun v_34 =>
   if v_34 = true then
    lt1 (((List.length v_4 : Int) == (0 : Int))) fun v_35 =>
    if v_35 = true then
     lt1 (((List.length v_16 : Int) == (1 : Int))) fun v_36 =>
     if v_36 = true then
      lt1 (((List.length v_20 : Int) == (2 : Int))) fun v_37 =>
      if v_37 = true then
       Option.bind (inO v_20 (0 : Int)) fun i_38 =>
       Option.bind (v_20[i_38]?) fun u_39 =>
       lt1 ((u_39.ID.Count == (1 : UInt64))) fun v_40 =>
       if v_40 = true then
        Option.bind (inO v_20 (1 : Int)) fun i_41 =>
        Option.bind (v_20[i_41]?) fun u_42 =>
        lt1 ((u_42.ID.Count == (2 : UInt64))) fun v_43 =>
        if v_43 = true then
         Option.bind (cast_Caster_Held_p_svvvoomm k (2 : Int) (1 : Int) x_22 x_23 x_24 (x_25)) fun v_44 =>
         lt1 (((List.length v_44 : Int) == (0 : Int))) fun v_47 =>
         if v_47 = true then
          Option.bind (cast_Caster_Vector_p_svvvoomm k (2 : Int) (1 : Int) x_22 x_23 x_24 (x_25)) fun _ =>
          lt1 (((eqV (fun x y => x == y)) x_22 (Vector.set (Vector.set (Vector.replicate 16 (0 : UInt64)) 0 (0 : UInt64) (by decide)) 1 (2 : UInt64) (by decide)))) fun v_49 =>
          some v_49
         else
          some false
        else
         some false
       else
        some false
      else
       some false
     else
      some false
    else
     some false
   else
    some false
  ) fun t_50 =>
   some t_50
 | (.inr _) =>
  Option.bind (law13_named k (2 : Int) (2 : UInt64)) fun v_51 =>
  Option.bind (cast_Caster_Offer_nv k v_51) fun _ =>
  Option.bind (cast_Caster_Held_n k) fun _ =>
  Option.bind (law13_named k (2 : Int) (1 : UInt64)) fun v_54 =>
  Option.bind (cast_Caster_Offer_nv k v_54) fun _ =>
  Option.bind (
   some ()
  ) fun _ =>
   some false

def cast_Caster_Publish_pvvv_svvvoomm (k : Nat) (a_1 : (List UInt8)) (a_2 : (List UInt8)) (a_3 : (List api_Dest)) (regions_4 : Int) (own_5 : Int) (v_6 : (Vector UInt64 16)) (x_8 : (List api_Event)) (x_11 : (List (Vector UInt64 16))) (x_14 : (List (api_Dot × api_Event))) : Option ((api_Event × Int × (Vector UInt64 16) × (List api_Event) × (List (Vector UInt64 16)))) :=
 Option.bind (cast_Caster_there_p_svvvoomm k regions_4 own_5 v_6 x_8 x_11 x_14) fun _ =>
 lt1 (w64 (own_5 - (1 : Int))) fun v_18 =>
 Option.bind (inV 16 v_18) fun i_19 =>
 lt1 ((getV v_6 i_19)) fun v_20 =>
 lt1 ((v_20 + (1 : UInt64))) fun v_21 =>
 lt1 (decide ((4611686018427387904 : UInt64) < (api_Dot.mk own_5 v_21).Count)) fun v_23 =>
 Option.bind (
  if v_23 = true then
   lt1 (w64 (own_5 - (1 : Int))) fun v_24 =>
   Option.bind (inV 16 v_24) fun i_25 =>
   some (api_Event.mk ({ (api_Dot.mk own_5 v_21) with Count := (1 : UInt64) }) a_1 a_2 (putV v_6 i_25 (0 : UInt64)) a_3)
  else
   some (api_Event.mk (api_Dot.mk own_5 v_21) a_1 a_2 v_6 a_3)
 ) fun x_26 =>
  Option.bind (cast_Caster_may_pv_svvvoomm k x_26 regions_4 own_5 v_6 x_8 x_11 x_14) fun v_27 =>
  lt1 ((!v_27)) fun v_28 =>
  if v_28 = true then
   some ((api_Event.mk (api_Dot.mk (0 : Int) (0 : UInt64)) ([] : (List UInt8)) ([] : (List UInt8)) (Vector.replicate 16 (0 : UInt64)) ([] : (List api_Dest))), (2 : Int), v_6, x_8, x_11)
  else
   if v_23 = true then
    some ((api_Event.mk (api_Dot.mk (0 : Int) (0 : UInt64)) ([] : (List UInt8)) ([] : (List UInt8)) (Vector.replicate 16 (0 : UInt64)) ([] : (List api_Dest))), (5 : Int), v_6, x_8, x_11)
   else
    Option.bind (cast_fresh k x_26) fun v_29 =>
    Option.bind (cast_Caster_apply_pv_svvvoomm'2 k v_29 regions_4 own_5 v_6 x_8 x_11 x_14) fun (x_30, x_31, x_32) =>
    Option.bind (cast_fresh k x_26) fun v_37 =>
    some (v_37, (0 : Int), x_30, x_31, x_32)

def cast_Caster_Log_p_svvvoomm (k : Nat) (regions_1 : Int) (own_2 : Int) (v_3 : (Vector UInt64 16)) (x_5 : (List api_Event)) (x_8 : (List (Vector UInt64 16))) (x_11 : (List (api_Dot × api_Event))) : Option (((List api_Event))) :=
 Option.bind (cast_Caster_there_p_svvvoomm k regions_1 own_2 v_3 x_5 x_8 x_11) fun _ =>
 Option.bind (cast_all k x_5) fun v_14 =>
 some v_14

def ref13_Before (k : Nat) (a_1 : api_Event) (b_2 : api_Event) : Option ((Bool)) :=
 Option.bind (
  lt1 (decide (a_1.ID.Region ≥ (1 : Int))) fun v_5 =>
  lt1 (decide (a_1.ID.Region ≤ (16 : Int))) fun v_6 =>
  lt1 (bif v_5 then v_6 else false) fun v_7 =>
  lt1 (w64 (a_1.ID.Region - (1 : Int))) fun v_8 =>
  if v_7 = true then
   Option.bind (inV 16 v_8) fun i_9 =>
   lt1 ((getV b_2.Past i_9)) fun v_10 =>
   lt1 (decide (a_1.ID.Count ≤ v_10)) fun v_11 =>
   some v_11
  else
   some false
 ) fun x_12 =>
  some x_12

def law13_CastOrder.b1 (k : Nat) (a_3 : (List law13_Act)) (t_1 : Int) (a_2 : Int) (v_8 : (Vector UInt64 16)) (log_9 : (List api_Event)) (behind_10 : (List (Vector UInt64 16))) (x_11 : (List (api_Dot × api_Event))) (x_12 : Int) : Option (((Vector UInt64 16) × (List api_Event) × (List (Vector UInt64 16)) × (List (api_Dot × api_Event)) × Int) ⊕ (((Vector UInt64 16) × (List api_Event) × (List (Vector UInt64 16)) × (List (api_Dot × api_Event))))) :=
 lt1 (decide (x_12 < (List.length a_3 : Int))) fun v_17 =>
 if v_17 = true then
  Option.bind (
   Option.bind (idxL a_3 x_12) fun v_18 =>
   Option.bind (idxL a_3 x_12) fun v_20 =>
   lt1 ((v_20.Kind == (1 : Int))) fun v_21 =>
   if v_21 = true then
    Option.bind (cast_Caster_Publish_pvvv_svvvoomm k v_18.Event.Topic v_18.Event.Payload v_18.Event.To t_1 a_2 v_8 log_9 behind_10 x_11) fun (v_22, v_23, x_24, x_25, x_26) =>
    some (x_24, x_25, x_26, x_11)
   else
    Option.bind (cast_Caster_Offer_pv_svvvoomm k v_18.Event t_1 a_2 v_8 log_9 behind_10 x_11) fun (v_31, v_32, x_33, x_34, x_35, x_36) =>
    some (x_33, x_34, x_35, (x_36))
  ) fun (v_43, log_44, behind_45, x_46) =>
   lt1 (w64 (x_12 + (1 : Int))) fun v_51 =>
   some (.inl (v_43, log_44, behind_45, x_46, v_51))
 else
  some (.inr (v_8, log_9, behind_10, x_11))

def law13_CastOrder.b3 (k : Nat) (x_65 : Int) (v_60 : (List api_Event)) (x_84 : Int) : Option ((Int) ⊕ ((Unit) ⊕ ((Bool)))) :=
 lt1 (decide (x_84 < x_65)) fun v_85 =>
 if v_85 = true then
  Option.bind (inO v_60 x_65) fun i_86 =>
  Option.bind (v_60[i_86]?) fun v_87 =>
  Option.bind (inO v_60 x_84) fun i_88 =>
  Option.bind (v_60[i_88]?) fun v_89 =>
  Option.bind (ref13_Before k v_87 v_89) fun v_90 =>
  if v_90 = true then
   some (.inr (.inr false))
  else
   lt1 (w64 (x_84 + (1 : Int))) fun v_91 =>
   some (.inl v_91)
 else
  some (.inr (.inl ()))

def law13_CastOrder.b2 (k : Nat) (v_60 : (List api_Event)) (x_64 : (Vector UInt64 17)) (x_65 : Int) : Option (((Vector UInt64 17) × Int) ⊕ ((Unit) ⊕ ((Bool)))) :=
 lt1 (decide (x_65 < (List.length v_60 : Int))) fun v_66 =>
 if v_66 = true then
  Option.bind (
   Option.bind (inO v_60 x_65) fun i_67 =>
   Option.bind (v_60[i_67]?) fun u_68 =>
   Option.bind (
    lt1 (decide (u_68.ID.Region < (1 : Int))) fun v_69 =>
    lt1 (decide (u_68.ID.Region > (16 : Int))) fun v_70 =>
    lt1 (bif v_69 then true else v_70) fun v_71 =>
    if v_71 = true then
     some true
    else
     Option.bind (inO v_60 x_65) fun i_72 =>
     Option.bind (v_60[i_72]?) fun u_73 =>
     Option.bind (inV 17 u_68.ID.Region) fun i_74 =>
     lt1 ((getV x_64 i_74)) fun v_75 =>
     lt1 ((v_75 + (1 : UInt64))) fun v_76 =>
     lt1 ((!(u_73.ID.Count == v_76))) fun v_77 =>
     some v_77
   ) fun x_78 =>
    if x_78 = true then
     some (.inr false)
    else
     Option.bind (inV 17 u_68.ID.Region) fun i_79 =>
     lt1 ((getV x_64 i_79)) fun v_80 =>
     lt1 ((v_80 + (1 : UInt64))) fun v_81 =>
     Option.bind (inV 17 u_68.ID.Region) fun i_82 =>
     lt1 ((putV x_64 i_82 v_81)) fun x_83 =>
     Option.bind (loopO (fun s => law13_CastOrder.b3 k x_65 v_60 s) k (0 : Int)) fun t => match t with
     | (.inl _) =>
      some (.inl x_83)
     | (.inr q) =>
      some (.inr q)
   : Option (((Vector UInt64 17)) ⊕ ((Bool)))) fun t => match t with
  | (.inl x_92) =>
   lt1 (w64 (x_65 + (1 : Int))) fun v_93 =>
   some (.inl (x_92, v_93))
  | (.inr q) =>
   some (.inr (.inr q))
 else
  some (.inr (.inl ()))

def law13_CastOrder (k : Nat) (t_1 : Int) (a_2 : Int) (a_3 : (List law13_Act)) : Option ((Bool)) :=
 Option.bind (law13_much k a_3) fun v_4 =>
 if v_4 = true then
  Option.bind (law13_known k) fun v_5 =>
  some v_5
 else
  Option.bind (cast_New k t_1 a_2) fun t => match t with
  | (.inl _) =>
   Option.bind (
    loopO (fun s => law13_CastOrder.b1 k a_3 t_1 a_2 s.1 s.2.1 s.2.2.1 s.2.2.2.1 s.2.2.2.2) k ((Vector.replicate 16 (0 : UInt64)), ([] : (List api_Event)), ([] : (List (Vector UInt64 16))), ([] : (List (api_Dot × api_Event))), (0 : Int))
   ) fun (v_52, log_53, behind_54, x_55) =>
    Option.bind (cast_Caster_Log_p_svvvoomm k t_1 a_2 v_52 log_53 behind_54 x_55) fun v_60 =>
    Option.bind (
     Option.bind (loopO (fun s => law13_CastOrder.b2 k v_60 s.1 s.2) k ((Vector.replicate 17 (0 : UInt64)), (0 : Int))) fun t => match t with
     | (.inl _) =>
      some (.inl ())
     | (.inr q) =>
      some (.inr q)
     : Option ((Unit) ⊕ ((Bool)))) fun t => match t with
    | (.inl _) =>
     Option.bind (law13_known k) fun v_94 =>
     some v_94
    | (.inr q) =>
     some q
  | (.inr _) =>
   Option.bind (law13_known k) fun v_95 =>
   some v_95

end
end Go.Proofs.Ytbmimaabgclhjaa
