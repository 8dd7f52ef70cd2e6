/- The functions as plain Lean functions: no program and no memory here. -/
import Derived.Test.YthoggbomakolkaaFp
namespace Go.Proofs.Ythoggbomakolkaa
open Fw
set_option linter.unusedVariables false
noncomputable section

structure api_Dot where
  Region : Int
  Count : UInt64
  deriving DecidableEq, Inhabited

def eq_api_Dot (x y : api_Dot) : Bool := ((x.Region == y.Region) && ((x.Count == y.Count) && true))
theorem eq_api_Dot_iff {x y : api_Dot} : eq_api_Dot x y = true ↔ x = y := by
  cases x; cases y; simp [eq_api_Dot]

structure api_Dest where
  Dot : api_Dot
  Device : (List UInt8)
  deriving DecidableEq, Inhabited

def eq_api_Dest (x y : api_Dest) : Bool := (eq_api_Dot x.Dot y.Dot && ((x.Device == y.Device) && true))
theorem eq_api_Dest_iff {x y : api_Dest} : eq_api_Dest x y = true ↔ x = y := by
  cases x; cases y; simp [eq_api_Dest, eq_api_Dot_iff]

structure api_Event where
  ID : api_Dot
  Topic : (List UInt8)
  Payload : (List UInt8)
  Past : (Vector UInt64 16)
  To : (List api_Dest)
  deriving DecidableEq, Inhabited

def cmp_isNaNint (k : Nat) (x_1 : Int) : Option ((Bool)) :=
  lt1 ((x_1 != x_1)) fun v_2 =>
  some v_2

def cmp_Compareint (k : Nat) (x_1 : Int) (y_2 : Int) : Option ((Int)) :=
  Option.bind (cmp_isNaNint k x_1) fun v_3 =>
  Option.bind (cmp_isNaNint k y_2) fun v_4 =>
  if v_3 = true then
    if v_4 = true then
      some (0 : Int)
    else
      some (-1 : Int)
  else
    if v_4 = true then
      some (1 : Int)
    else
      lt1 (decide (x_1 < y_2)) fun v_5 =>
      if v_5 = true then
        some (-1 : Int)
      else
        lt1 (decide (x_1 > y_2)) fun v_6 =>
        if v_6 = true then
          some (1 : Int)
        else
          some (0 : Int)

def cmp_isNaNuint64 (k : Nat) (x_1 : UInt64) : Option ((Bool)) :=
  lt1 ((!(x_1 == x_1))) fun v_2 =>
  some v_2

def cmp_Compareuint64 (k : Nat) (x_1 : UInt64) (y_2 : UInt64) : Option ((Int)) :=
  Option.bind (cmp_isNaNuint64 k x_1) fun v_3 =>
  Option.bind (cmp_isNaNuint64 k y_2) fun v_4 =>
  if v_3 = true then
    if v_4 = true then
      some (0 : Int)
    else
      some (-1 : Int)
  else
    if v_4 = true then
      some (1 : Int)
    else
      lt1 (decide (x_1 < y_2)) fun v_5 =>
      if v_5 = true then
        some (-1 : Int)
      else
        lt1 (decide (y_2 < x_1)) fun v_6 =>
        if v_6 = true then
          some (1 : Int)
        else
          some (0 : Int)

def cmp_Orint.b1 (k : Nat) (vals_1 : (List Int)) (x_2 : Int) : Option ((Int) ⊕ ((Unit) ⊕ ((Int)))) :=
  lt1 (decide (x_2 < (List.length vals_1 : Int))) fun v_3 =>
  if v_3 = true then
    Option.bind (idxL vals_1 x_2) fun v_4 =>
    lt1 ((v_4 != (0 : Int))) fun v_5 =>
    if v_5 = true then
      some (.inr (.inr v_4))
    else
      lt1 (w64 (x_2 + (1 : Int))) fun v_6 =>
      some (.inl v_6)
  else
    some (.inr (.inl ()))

def cmp_Orint (k : Nat) (vals_1 : (List Int)) : Option ((Int)) :=
  Option.bind (
    Option.bind (loopO (fun s => cmp_Orint.b1 k vals_1 s) k (0 : Int)) fun t => match t with
    | (.inl _) =>
      some (.inl ())
    | (.inr q) =>
      some (.inr q)
   : Option ((Unit) ⊕ ((Int)))) fun t => match t with
  | (.inl _) =>
    some (0 : Int)
  | (.inr q) =>
    some q

def event_Less (k : Nat) (a_1 : api_Dot) (b_2 : api_Dot) : Option ((Bool)) :=
  Option.bind (cmp_Compareint k a_1.Region b_2.Region) fun v_5 =>
  Option.bind (cmp_Compareuint64 k a_1.Count b_2.Count) fun v_6 =>
  Option.bind (cmp_Orint k ([v_5, v_6] : (List Int))) fun v_7 =>
  lt1 (decide (v_7 < (0 : Int))) fun v_8 =>
  some v_8

def event_Join.b1 (k : Nat) (b_2 : (Vector UInt64 16)) (a_6 : (Vector UInt64 16)) (x_7 : Int) : Option (((Vector UInt64 16) × Int) ⊕ (((Vector UInt64 16)))) :=
  lt1 (decide (x_7 < (16 : Int))) fun v_8 =>
  if v_8 = true then
    Option.bind (idxV b_2 x_7) fun v_9 =>
    Option.bind (inV 16 x_7) fun i_10 =>
    lt1 ((getV a_6 i_10)) fun v_11 =>
    lt1 (maxU v_11 v_9) fun v_12 =>
    Option.bind (inV 16 x_7) fun i_13 =>
    lt1 ((putV a_6 i_13 v_12)) fun a_14 =>
    lt1 (w64 (x_7 + (1 : Int))) fun v_15 =>
    some (.inl (a_14, v_15))
  else
    some (.inr a_6)

def event_Join (k : Nat) (a_1 : (Vector UInt64 16)) (b_2 : (Vector UInt64 16)) : Option (((Vector UInt64 16))) :=
  Option.bind (
    loopO (fun s => event_Join.b1 k b_2 s.1 s.2) k (a_1, (0 : Int))
  ) fun a_16 =>
    some a_16

def event_MayDot (k : Nat) (d_1 : api_Dot) : Option ((Bool)) :=
  Option.bind (
    lt1 (decide (d_1.Region ≥ (1 : Int))) fun v_3 =>
    if v_3 = true then
      lt1 (decide (d_1.Region ≤ (16 : Int))) fun v_4 =>
      if v_4 = true then
        lt1 (decide ((1 : UInt64) ≤ d_1.Count)) fun v_5 =>
        if v_5 = true then
          lt1 (decide (d_1.Count ≤ (4611686018427387904 : UInt64))) fun v_6 =>
          some v_6
        else
          some false
      else
        some false
    else
      some false
  ) fun x_7 =>
    some x_7

def event_Under (k : Nat) (v_1 : (Vector UInt64 16)) (d_2 : api_Dot) : Option ((Bool)) :=
  Option.bind (
    Option.bind (event_MayDot k d_2) fun v_5 =>
    if v_5 = true then
      lt1 (w64 (d_2.Region - (1 : Int))) fun v_6 =>
      Option.bind (inV 16 v_6) fun i_7 =>
      lt1 ((getV v_1 i_7)) fun v_8 =>
      lt1 (decide (d_2.Count ≤ v_8)) fun v_9 =>
      some v_9
    else
      some false
  ) fun x_10 =>
    some x_10

def event_mayVector_1 (k : Nat) (n_1 : UInt64) : Option ((Bool)) :=
  lt1 (decide ((4611686018427387904 : UInt64) < n_1)) fun v_2 =>
  some v_2

def slices_IndexFuncuint64_uint64.b1 (k : Nat) (s_1 : (List UInt64)) (x_2 : Int) : Option ((Int) ⊕ ((Unit) ⊕ ((Int)))) :=
  lt1 (decide (x_2 < (List.length s_1 : Int))) fun v_3 =>
  if v_3 = true then
    Option.bind (idxL s_1 x_2) fun v_4 =>
    Option.bind (event_mayVector_1 k v_4) fun v_5 =>
    if v_5 = true then
      some (.inr (.inr x_2))
    else
      lt1 (w64 (x_2 + (1 : Int))) fun v_6 =>
      some (.inl v_6)
  else
    some (.inr (.inl ()))

def slices_IndexFuncuint64_uint64 (k : Nat) (s_1 : (List UInt64)) : Option ((Int)) :=
  Option.bind (
    Option.bind (loopO (fun s => slices_IndexFuncuint64_uint64.b1 k s_1 s) k (0 : Int)) fun t => match t with
    | (.inl _) =>
      some (.inl ())
    | (.inr q) =>
      some (.inr q)
   : Option ((Unit) ⊕ ((Int)))) fun t => match t with
  | (.inl _) =>
    some (-1 : Int)
  | (.inr q) =>
    some q

def slices_ContainsFuncuint64_uint64 (k : Nat) (s_1 : (List UInt64)) : Option ((Bool)) :=
  Option.bind (slices_IndexFuncuint64_uint64 k s_1) fun v_2 =>
  lt1 (decide (v_2 ≥ (0 : Int))) fun v_3 =>
  some v_3

def event_mayVector (k : Nat) (v_1 : (Vector UInt64 16)) : Option ((Bool)) :=
  Option.bind (subL (Vector.toList v_1) (0 : Int) (16 : Int)) fun v_3 =>
  Option.bind (slices_ContainsFuncuint64_uint64 k v_3) fun v_4 =>
  lt1 ((!v_4)) fun v_5 =>
  some v_5

def event_MayName (k : Nat) (s_1 : (List UInt8)) : Option ((Bool)) :=
  Option.bind (
    lt1 (decide ((List.length s_1 : Int) ≥ (1 : Int))) fun v_2 =>
    lt1 (decide ((List.length s_1 : Int) ≤ (32 : Int))) fun v_3 =>
    lt1 (bif v_2 then v_3 else false) fun v_4 =>
    some v_4
  ) fun x_5 =>
    some x_5

def event_May.b1 (k : Nat) (t_1 : api_Event) (x_18 : Bool) (x_19 : Int) : Option ((Bool × Int) ⊕ ((Bool))) :=
  lt1 (decide (x_19 < (List.length t_1.To : Int))) fun v_20 =>
  if v_20 = true then
    Option.bind (idxL t_1.To x_19) fun v_21 =>
    Option.bind (
      Option.bind (event_MayDot k v_21.Dot) fun v_23 =>
      if v_23 = true then
        Option.bind (event_MayName k v_21.Device) fun v_24 =>
        lt1 ((x_19 == (0 : Int))) fun v_25 =>
        if v_24 = true then
          if v_25 = true then
            some true
          else
            lt1 (w64 (x_19 - (1 : Int))) fun v_26 =>
            Option.bind (idxL t_1.To v_26) fun v_27 =>
            Option.bind (event_Less k v_27.Dot v_21.Dot) fun v_28 =>
            some v_28
        else
          some false
      else
        some false
    ) fun x_29 =>
      lt1 ((!x_29)) fun v_30 =>
      if v_30 = true then
        some (.inr x_29)
      else
        lt1 (w64 (x_19 + (1 : Int))) fun v_31 =>
        some (.inl (x_29, v_31))
  else
    some (.inr x_18)

def event_May (k : Nat) (t_1 : api_Event) : Option ((Bool)) :=
  Option.bind (
    Option.bind (event_MayDot k t_1.ID) fun v_3 =>
    lt1 ((!v_3)) fun v_4 =>
    if v_4 = true then
      some true
    else
      Option.bind (event_mayVector k t_1.Past) fun v_5 =>
      lt1 ((!v_5)) fun v_6 =>
      if v_6 = true then
        some true
      else
        lt1 (w64 (t_1.ID.Region - (1 : Int))) fun v_7 =>
        Option.bind (inV 16 v_7) fun i_8 =>
        lt1 ((getV t_1.Past i_8)) fun v_9 =>
        lt1 ((t_1.ID.Count - (1 : UInt64))) fun v_10 =>
        lt1 ((!(v_9 == v_10))) fun v_11 =>
        some v_11
  ) fun x_12 =>
    if x_12 = true then
      some false
    else
      Option.bind (
        Option.bind (event_MayName k t_1.Topic) fun v_13 =>
        lt1 ((!v_13)) fun v_14 =>
        if v_14 = true then
          some true
        else
          lt1 (decide ((List.length t_1.Payload : Int) > (512 : Int))) fun v_15 =>
          if v_15 = true then
            some true
          else
            lt1 (decide ((List.length t_1.To : Int) > (1024 : Int))) fun v_16 =>
            some v_16
      ) fun x_17 =>
        if x_17 = true then
          some false
        else
          Option.bind (
            loopO (fun s => event_May.b1 k t_1 s.1 s.2) k (true, (0 : Int))
          ) fun x_32 =>
            some x_32

def event_Ready (k : Nat) (e_1 : api_Event) (had_2 : (Vector UInt64 16)) : Option ((Bool)) :=
  Option.bind (
    Option.bind (event_May k e_1) fun v_5 =>
    if v_5 = true then
      Option.bind (event_Join k had_2 e_1.Past) fun v_6 =>
      lt1 (((eqV (fun x y => x == y)) v_6 had_2)) fun v_7 =>
      if v_7 = true then
        lt1 (w64 (e_1.ID.Region - (1 : Int))) fun v_8 =>
        Option.bind (inV 16 v_8) fun i_9 =>
        lt1 ((getV had_2 i_9)) fun v_10 =>
        lt1 ((e_1.ID.Count - (1 : UInt64))) fun v_11 =>
        lt1 ((v_10 == v_11)) fun v_12 =>
        some v_12
      else
        some false
    else
      some false
  ) fun x_13 =>
    some x_13

def law09_known (k : Nat) : Option ((Bool)) :=
  Option.bind (
    Option.bind (event_Ready k (api_Event.mk (api_Dot.mk (2 : Int) (5 : UInt64)) ([116] : List UInt8) ([] : (List UInt8)) (Vector.set (Vector.set (Vector.replicate 16 (0 : UInt64)) 0 (7 : UInt64) (by decide)) 1 (4 : UInt64) (by decide)) ([] : (List api_Dest))) (Vector.set (Vector.set (Vector.replicate 16 (0 : UInt64)) 0 (7 : UInt64) (by decide)) 1 (4 : UInt64) (by decide))) fun v_4 =>
    Option.bind (if v_4 = true then event_Ready k (api_Event.mk (api_Dot.mk (2 : Int) (5 : UInt64)) ([116] : List UInt8) ([] : (List UInt8)) (Vector.set (Vector.set (Vector.replicate 16 (0 : UInt64)) 0 (7 : UInt64) (by decide)) 1 (4 : UInt64) (by decide)) ([] : (List api_Dest))) (Vector.set (Vector.set (Vector.replicate 16 (0 : UInt64)) 0 (6 : UInt64) (by decide)) 1 (4 : UInt64) (by decide)) else some default) fun v_5 =>
    lt1 ((!v_5)) fun v_6 =>
    lt1 (bif v_4 then v_6 else false) fun v_7 =>
    Option.bind (if v_7 = true then event_Ready k (api_Event.mk (api_Dot.mk (2 : Int) (5 : UInt64)) ([116] : List UInt8) ([] : (List UInt8)) (Vector.set (Vector.set (Vector.replicate 16 (0 : UInt64)) 0 (7 : UInt64) (by decide)) 1 (4 : UInt64) (by decide)) ([] : (List api_Dest))) (Vector.set (Vector.set (Vector.replicate 16 (0 : UInt64)) 0 (7 : UInt64) (by decide)) 1 (5 : UInt64) (by decide)) else some default) fun v_8 =>
    lt1 ((!v_8)) fun v_9 =>
    lt1 (bif v_7 then v_9 else false) fun v_10 =>
    Option.bind (if v_10 = true then event_Under k (Vector.set (Vector.set (Vector.replicate 16 (0 : UInt64)) 0 (3 : UInt64) (by decide)) 1 (4 : UInt64) (by decide)) (api_Dot.mk (2 : Int) (4 : UInt64)) else some default) fun v_11 =>
    lt1 (bif v_10 then v_11 else false) fun v_12 =>
    Option.bind (if v_12 = true then event_Under k (Vector.set (Vector.set (Vector.replicate 16 (0 : UInt64)) 0 (3 : UInt64) (by decide)) 1 (4 : UInt64) (by decide)) (api_Dot.mk (2 : Int) (5 : UInt64)) else some default) fun v_13 =>
    lt1 ((!v_13)) fun v_14 =>
    lt1 (bif v_12 then v_14 else false) fun v_15 =>
    Option.bind (if v_15 = true then event_May k (api_Event.mk (api_Dot.mk (0 : Int) (0 : UInt64)) ([] : (List UInt8)) ([] : (List UInt8)) (Vector.replicate 16 (0 : UInt64)) ([] : (List api_Dest))) else some default) fun v_16 =>
    lt1 ((!v_16)) fun v_17 =>
    lt1 (bif v_15 then v_17 else false) fun v_18 =>
    some v_18
  ) fun x_19 =>
    some x_19

def law09_EventDots (k : Nat) (t_1 : api_Dot) (a_2 : api_Dot) (a_3 : api_Dot) (a_4 : (Vector UInt64 16)) (a_5 : (Vector UInt64 16)) (a_6 : (Vector UInt64 16)) : Option ((Bool)) :=
  Option.bind (
    Option.bind (event_Less k t_1 a_2) fun v_13 =>
    Option.bind (if v_13 = true then event_Less k a_2 t_1 else some default) fun v_14 =>
    lt1 (bif v_13 then v_14 else false) fun v_15 =>
    Option.bind (if (!v_15) = true then event_Less k t_1 a_2 else some default) fun v_16 =>
    Option.bind (if ((!v_15) && (!v_16)) = true then event_Less k a_2 t_1 else some default) fun v_17 =>
    lt1 (bif v_16 then true else v_17) fun v_18 =>
    lt1 ((!(eq_api_Dot t_1 a_2))) fun v_19 =>
    lt1 ((v_18 != v_19)) fun v_20 =>
    lt1 (bif v_15 then true else v_20) fun v_21 =>
    Option.bind (if (!v_21) = true then event_Less k t_1 a_2 else some default) fun v_22 =>
    Option.bind (if ((!v_21) && v_22) = true then event_Less k a_2 a_3 else some default) fun v_23 =>
    lt1 (bif v_22 then v_23 else false) fun v_24 =>
    Option.bind (if ((!v_21) && v_24) = true then event_Less k t_1 a_3 else some default) fun v_25 =>
    lt1 ((!v_25)) fun v_26 =>
    lt1 (bif v_24 then v_26 else false) fun v_27 =>
    lt1 (bif v_21 then true else v_27) fun v_28 =>
    some v_28
  ) fun x_29 =>
    if x_29 = true then
      some false
    else
      Option.bind (event_Join k a_4 a_5) fun v_30 =>
      Option.bind (
        Option.bind (event_Join k a_5 a_4) fun v_32 =>
        lt1 ((!((eqV (fun x y => x == y)) v_30 v_32))) fun v_33 =>
        Option.bind (if (!v_33) = true then event_Join k v_30 a_4 else some default) fun v_34 =>
        lt1 ((!((eqV (fun x y => x == y)) v_34 v_30))) fun v_35 =>
        lt1 (bif v_33 then true else v_35) fun v_36 =>
        Option.bind (if (!v_36) = true then event_Join k a_4 a_5 else some default) fun v_37 =>
        Option.bind (if (!v_36) = true then event_Join k v_37 a_6 else some default) fun v_38 =>
        Option.bind (if (!v_36) = true then event_Join k a_5 a_6 else some default) fun v_39 =>
        Option.bind (if (!v_36) = true then event_Join k a_4 v_39 else some default) fun v_40 =>
        lt1 ((!((eqV (fun x y => x == y)) v_38 v_40))) fun v_41 =>
        lt1 (bif v_36 then true else v_41) fun v_42 =>
        some v_42
      ) fun x_43 =>
        if x_43 = true then
          some false
        else
          Option.bind (
            Option.bind (event_Under k v_30 t_1) fun v_44 =>
            Option.bind (event_Under k a_4 t_1) fun v_45 =>
            Option.bind (if (!v_45) = true then event_Under k a_5 t_1 else some default) fun v_46 =>
            lt1 (bif v_45 then true else v_46) fun v_47 =>
            lt1 ((v_44 == v_47)) fun v_48 =>
            Option.bind (if v_48 = true then law09_known k else some default) fun v_49 =>
            lt1 (bif v_48 then v_49 else false) fun v_50 =>
            some v_50
          ) fun x_51 =>
            some x_51

def ref09_MayName (k : Nat) (s_1 : (List UInt8)) : Option ((Bool)) :=
  Option.bind (
    lt1 (decide ((List.length s_1 : Int) > (0 : Int))) fun v_2 =>
    lt1 (decide ((List.length s_1 : Int) ≤ (32 : Int))) fun v_3 =>
    lt1 (bif v_2 then v_3 else false) fun v_4 =>
    some v_4
  ) fun x_5 =>
    some x_5

def ref09_MayVector.b1 (k : Nat) (v_1 : (Vector UInt64 16)) (i_3 : Int) : Option ((Int) ⊕ ((Unit) ⊕ ((Bool)))) :=
  lt1 (decide (i_3 < (16 : Int))) fun v_4 =>
  if v_4 = true then
    Option.bind (inV 16 i_3) fun i_5 =>
    lt1 ((getV v_1 i_5)) fun v_6 =>
    lt1 (decide ((4611686018427387904 : UInt64) < v_6)) fun v_7 =>
    if v_7 = true then
      some (.inr (.inr false))
    else
      lt1 (w64 (i_3 + (1 : Int))) fun v_8 =>
      some (.inl v_8)
  else
    some (.inr (.inl ()))

def ref09_MayVector (k : Nat) (v_1 : (Vector UInt64 16)) : Option ((Bool)) :=
  Option.bind (
    Option.bind (loopO (fun s => ref09_MayVector.b1 k v_1 s) k (0 : Int)) fun t => match t with
    | (.inl _) =>
      some (.inl ())
    | (.inr q) =>
      some (.inr q)
   : Option ((Unit) ⊕ ((Bool)))) fun t => match t with
  | (.inl _) =>
    some true
  | (.inr q) =>
    some q

def law09_EventNext.b1 (k : Nat) (a_2 : (List (List UInt8))) (x_15 : Int) : Option ((Int) ⊕ ((Unit) ⊕ ((Bool)))) :=
  lt1 (decide (x_15 < (List.length a_2 : Int))) fun v_16 =>
  if v_16 = true then
    Option.bind (idxL a_2 x_15) fun v_17 =>
    Option.bind (ref09_MayName k v_17) fun v_18 =>
    lt1 ((!v_18)) fun v_19 =>
    if v_19 = true then
      Option.bind (law09_known k) fun v_20 =>
      some (.inr (.inr v_20))
    else
      lt1 (w64 (x_15 + (1 : Int))) fun v_21 =>
      some (.inl v_21)
  else
    some (.inr (.inl ()))

def law09_EventNext.b3 (k : Nat) (a_2 : (List (List UInt8))) (t_1 : Int) (x_14 : (Vector UInt64 16)) (x_26 : (Vector UInt64 16)) (x_27 : Int) (x_29 : Int) : Option ((Int) ⊕ ((Unit) ⊕ ((Bool)))) :=
  lt1 (decide (x_29 < (List.length a_2 : Int))) fun v_30 =>
  if v_30 = true then
    lt1 (w64 (x_29 + (1 : Int))) fun v_31 =>
    lt1 ((UN.ofI v_31 : UInt64)) fun v_32 =>
    Option.bind (idxL a_2 x_29) fun v_33 =>
    lt1 (w64 (t_1 - (1 : Int))) fun v_35 =>
    lt1 ((UN.ofI x_29 : UInt64)) fun v_36 =>
    Option.bind (inV 16 v_35) fun i_37 =>
    Option.bind (
      Option.bind (event_Ready k (api_Event.mk (api_Dot.mk t_1 v_32) v_33 ([] : (List UInt8)) (putV x_14 i_37 v_36) ([] : (List api_Dest))) x_26) fun v_38 =>
      lt1 ((x_27 == x_29)) fun v_39 =>
      lt1 ((v_38 != v_39)) fun v_40 =>
      if v_40 = true then
        some true
      else
        Option.bind (event_Under k x_26 (api_Dot.mk t_1 v_32)) fun v_41 =>
        lt1 (decide (x_29 < x_27)) fun v_42 =>
        lt1 ((v_41 != v_42)) fun v_43 =>
        some v_43
    ) fun x_44 =>
      if x_44 = true then
        some (.inr (.inr false))
      else
        lt1 (w64 (x_29 + (1 : Int))) fun v_45 =>
        some (.inl v_45)
  else
    some (.inr (.inl ()))

def law09_EventNext.b2 (k : Nat) (a_2 : (List (List UInt8))) (t_1 : Int) (x_14 : (Vector UInt64 16)) (x_26 : (Vector UInt64 16)) (x_27 : Int) : Option (((Vector UInt64 16) × Int) ⊕ ((Unit) ⊕ ((Bool)))) :=
  lt1 (decide (x_27 < (List.length a_2 : Int))) fun v_28 =>
  if v_28 = true then
    Option.bind (
      Option.bind (
        Option.bind (loopO (fun s => law09_EventNext.b3 k a_2 t_1 x_14 x_26 x_27 s) k (0 : Int)) fun t => match t with
        | (.inl _) =>
          some (.inl ())
        | (.inr q) =>
          some (.inr q)
       : Option ((Unit) ⊕ ((Bool)))) fun t => match t with
      | (.inl _) =>
        lt1 (w64 (t_1 - (1 : Int))) fun v_46 =>
        Option.bind (inV 16 v_46) fun i_47 =>
        lt1 ((getV x_26 i_47)) fun v_48 =>
        lt1 ((v_48 + (1 : UInt64))) fun v_49 =>
        Option.bind (inV 16 v_46) fun i_50 =>
        lt1 ((putV x_26 i_50 v_49)) fun x_51 =>
        some (.inl x_51)
      | (.inr q) =>
        some (.inr q)
     : Option (((Vector UInt64 16)) ⊕ ((Bool)))) fun t => match t with
    | (.inl x_52) =>
      lt1 (w64 (x_27 + (1 : Int))) fun v_53 =>
      some (.inl (x_52, v_53))
    | (.inr q) =>
      some (.inr (.inr q))
  else
    some (.inr (.inl ()))

def law09_EventNext (k : Nat) (t_1 : Int) (a_2 : (List (List UInt8))) (a_3 : (Vector UInt64 16)) : Option ((Bool)) :=
  Option.bind (
    lt1 (decide (t_1 < (1 : Int))) fun v_5 =>
    lt1 (decide (t_1 > (16 : Int))) fun v_6 =>
    lt1 (bif v_5 then true else v_6) fun v_7 =>
    lt1 (decide ((List.length a_2 : Int) > (60 : Int))) fun v_8 =>
    lt1 (bif v_7 then true else v_8) fun v_9 =>
    some v_9
  ) fun x_10 =>
    if x_10 = true then
      Option.bind (law09_known k) fun v_11 =>
      some v_11
    else
      lt1 (w64 (t_1 - (1 : Int))) fun v_12 =>
      Option.bind (inV 16 v_12) fun i_13 =>
      lt1 ((putV a_3 i_13 (0 : UInt64))) fun x_14 =>
      Option.bind (
        Option.bind (loopO (fun s => law09_EventNext.b1 k a_2 s) k (0 : Int)) fun t => match t with
        | (.inl _) =>
          some (.inl ())
        | (.inr q) =>
          some (.inr q)
       : Option ((Unit) ⊕ ((Bool)))) fun t => match t with
      | (.inl _) =>
        Option.bind (ref09_MayVector k x_14) fun v_22 =>
        lt1 ((!v_22)) fun v_23 =>
        if v_23 = true then
          Option.bind (law09_known k) fun v_24 =>
          some v_24
        else
          Option.bind (
            Option.bind (loopO (fun s => law09_EventNext.b2 k a_2 t_1 x_14 s.1 s.2) k (x_14, (0 : Int))) fun t => match t with
            | (.inl _) =>
              some (.inl ())
            | (.inr q) =>
              some (.inr q)
           : Option ((Unit) ⊕ ((Bool)))) fun t => match t with
          | (.inl _) =>
            Option.bind (law09_known k) fun v_54 =>
            some v_54
          | (.inr q) =>
            some q
      | (.inr q) =>
        some q

def ref09_Much.b1 (k : Nat) (e_1 : api_Event) (n_7 : Int) (i_8 : Int) : Option ((Int × Int) ⊕ ((Unit) ⊕ ((Bool)))) :=
  lt1 (decide (i_8 < (List.length e_1.To : Int))) fun v_9 =>
  if v_9 = true then
    Option.bind (idxL e_1.To i_8) fun v_10 =>
    lt1 (minI (List.length v_10.Device : Int) (200001 : Int)) fun v_11 =>
    lt1 (w64 (n_7 + v_11)) fun v_12 =>
    lt1 (decide (v_12 > (200000 : Int))) fun v_13 =>
    if v_13 = true then
      some (.inr (.inr true))
    else
      lt1 (w64 (i_8 + (1 : Int))) fun v_14 =>
      some (.inl (v_12, v_14))
  else
    some (.inr (.inl ()))

def ref09_Much (k : Nat) (e_1 : api_Event) : Option ((Bool)) :=
  Option.bind (
    lt1 (decide ((List.length e_1.Topic : Int) > (300 : Int))) fun v_3 =>
    if v_3 = true then
      some true
    else
      lt1 (decide ((List.length e_1.Payload : Int) > (3000 : Int))) fun v_4 =>
      if v_4 = true then
        some true
      else
        lt1 (decide ((List.length e_1.To : Int) > (3000 : Int))) fun v_5 =>
        some v_5
  ) fun x_6 =>
    if x_6 = true then
      some true
    else
      Option.bind (
        Option.bind (loopO (fun s => ref09_Much.b1 k e_1 s.1 s.2) k ((0 : Int), (0 : Int))) fun t => match t with
        | (.inl _) =>
          some (.inl ())
        | (.inr q) =>
          some (.inr q)
       : Option ((Unit) ⊕ ((Bool)))) fun t => match t with
      | (.inl _) =>
        some false
      | (.inr q) =>
        some q

def event_Before (k : Nat) (a_1 : api_Event) (b_2 : api_Event) : Option ((Bool)) :=
  Option.bind (
    Option.bind (event_May k a_1) fun v_5 =>
    Option.bind (if v_5 = true then event_May k b_2 else some default) fun v_6 =>
    lt1 (bif v_5 then v_6 else false) fun v_7 =>
    if v_7 = true then
      Option.bind (event_Under k b_2.Past a_1.ID) fun v_8 =>
      some v_8
    else
      some false
  ) fun x_9 =>
    some x_9

def law09_EventOrder (k : Nat) (t_1 : api_Event) (a_2 : api_Event) (a_3 : api_Event) : Option ((Bool)) :=
  Option.bind (
    Option.bind (ref09_Much k t_1) fun v_7 =>
    Option.bind (if (!v_7) = true then ref09_Much k a_2 else some default) fun v_8 =>
    lt1 (bif v_7 then true else v_8) fun v_9 =>
    Option.bind (if (!v_9) = true then ref09_Much k a_3 else some default) fun v_10 =>
    lt1 (bif v_9 then true else v_10) fun v_11 =>
    some v_11
  ) fun x_12 =>
    if x_12 = true then
      Option.bind (law09_known k) fun v_13 =>
      some v_13
    else
      Option.bind (
        Option.bind (event_Before k t_1 a_2) fun v_14 =>
        Option.bind (if v_14 = true then event_Before k a_2 a_3 else some default) fun v_15 =>
        lt1 (bif v_14 then v_15 else false) fun v_16 =>
        if v_16 = true then
          Option.bind (event_Join k a_3.Past a_2.Past) fun v_17 =>
          lt1 (((eqV (fun x y => x == y)) v_17 a_3.Past)) fun v_18 =>
          Option.bind (if v_18 = true then event_Before k t_1 a_3 else some default) fun v_19 =>
          lt1 ((!v_19)) fun v_20 =>
          lt1 (bif v_18 then v_20 else false) fun v_21 =>
          some v_21
        else
          some false
      ) fun x_22 =>
        if x_22 = true then
          some false
        else
          Option.bind (
            Option.bind (event_Before k t_1 a_2) fun v_23 =>
            Option.bind (if v_23 = true then event_Before k a_2 t_1 else some default) fun v_24 =>
            lt1 (bif v_23 then v_24 else false) fun v_25 =>
            if v_25 = true then
              Option.bind (event_Join k t_1.Past a_2.Past) fun v_26 =>
              lt1 (((eqV (fun x y => x == y)) v_26 t_1.Past)) fun v_27 =>
              if v_27 = true then
                Option.bind (event_Join k a_2.Past t_1.Past) fun v_28 =>
                lt1 (((eqV (fun x y => x == y)) v_28 a_2.Past)) fun v_29 =>
                some v_29
              else
                some false
            else
              some false
          ) fun x_30 =>
            if x_30 = true then
              some false
            else
              Option.bind (law09_known k) fun v_31 =>
              some v_31

end
end Go.Proofs.Ythoggbomakolkaa
