/- The functions as plain Lean functions: no program and no memory here. -/
import Derived.Test.YtklnihlchhhhlaaGreatFp
namespace Go.Proofs.YtklnihlchhhhlaaGreat
open Fw
set_option linter.unusedVariables false
noncomputable section

structure api_Dot where
  Region : Int
  Count : UInt64
  deriving DecidableEq, Inhabited

def eq_api_Dot (x y : api_Dot) : Bool := ((x.Region == y.Region) && ((x.Count == y.Count) && true))
theorem eq_api_Dot_iff {x y : api_Dot} : eq_api_Dot x y = true ↔ x = y := by
  cases x; cases y; simp [eq_api_Dot]

structure api_Key where
  Topic : (List UInt8)
  Device : (List UInt8)
  deriving DecidableEq, Inhabited

def eq_api_Key (x y : api_Key) : Bool := ((x.Topic == y.Topic) && ((x.Device == y.Device) && true))
theorem eq_api_Key_iff {x y : api_Key} : eq_api_Key x y = true ↔ x = y := by
  cases x; cases y; simp [eq_api_Key]

structure api_Item where
  Dot : api_Dot
  Key : api_Key
  Gone : Bool
  deriving DecidableEq, Inhabited

def eq_api_Item (x y : api_Item) : Bool := (eq_api_Dot x.Dot y.Dot && (eq_api_Key x.Key y.Key && ((x.Gone == y.Gone) && true)))
theorem eq_api_Item_iff {x y : api_Item} : eq_api_Item x y = true ↔ x = y := by
  cases x; cases y; simp [eq_api_Item, eq_api_Dot_iff, eq_api_Key_iff]

structure api_Dest where
  Dot : api_Dot
  Device : (List UInt8)
  deriving DecidableEq, Inhabited

def eq_api_Dest (x y : api_Dest) : Bool := (eq_api_Dot x.Dot y.Dot && ((x.Device == y.Device) && true))
theorem eq_api_Dest_iff {x y : api_Dest} : eq_api_Dest x y = true ↔ x = y := by
  cases x; cases y; simp [eq_api_Dest, eq_api_Dot_iff]

structure api_Event where
  ID : api_Dot
  Topic : (List UInt8)
  Payload : (List UInt8)
  Past : (Vector UInt64 16)
  To : (List api_Dest)
  deriving DecidableEq, Inhabited

structure api_Frame where
  Kind : Int
  From : Int
  To : Int
  Items : (List api_Item)
  Event : api_Event
  Past : (Vector UInt64 16)
  Seen : (Vector UInt64 16)
  Extra : (List api_Dot)
  Live : (List api_Dot)
  Hash : (Vector UInt8 32)
  Leaves : (List (Vector UInt8 32))
  Buckets : (List Int)
  Reply : Bool
  deriving DecidableEq, Inhabited

structure frame_form where
  write : (Option Nat)
  read : (Option Nat)
  deriving DecidableEq, Inhabited

structure frame_writer where
  b : (List UInt8)
  deriving DecidableEq, Inhabited

structure wire_Reader where
  rest : (List UInt8)
  is : Bool
  made : Bool
  deriving DecidableEq, Inhabited

def ref11_Long.b1 (k : Nat) (l_1 : (List api_Item)) (n_2 : Int) (i_3 : Int) : Option ((Int × Int) ⊕ ((Unit) ⊕ ((Bool)))) :=
 Option.bind (
  lt1 (decide (i_3 < (List.length l_1 : Int))) fun v_4 =>
  lt1 (decide (i_3 ≤ (5000 : Int))) fun v_5 =>
  lt1 (bif v_4 then v_5 else false) fun v_6 =>
  some v_6
 ) fun x_7 =>
  if x_7 = true then
   Option.bind (idxL l_1 i_3) fun v_8 =>
   lt1 (minI (List.length v_8.Key.Topic : Int) (200001 : Int)) fun v_9 =>
   lt1 (w64 (n_2 + v_9)) fun v_10 =>
   Option.bind (idxL l_1 i_3) fun v_11 =>
   lt1 (minI (List.length v_11.Key.Device : Int) (200001 : Int)) fun v_12 =>
   lt1 (w64 (v_10 + v_12)) fun v_13 =>
   lt1 (decide (v_13 > (200000 : Int))) fun v_14 =>
   if v_14 = true then
    some (.inr (.inr true))
   else
    lt1 (w64 (i_3 + (1 : Int))) fun v_15 =>
    some (.inl (v_13, v_15))
  else
   some (.inr (.inl ()))

def ref11_Long (k : Nat) (l_1 : (List api_Item)) : Option ((Bool)) :=
 Option.bind (
  Option.bind (loopO (fun s => ref11_Long.b1 k l_1 s.1 s.2) k ((0 : Int), (0 : Int))) fun t => match t with
  | (.inl _) =>
   some (.inl ())
  | (.inr q) =>
   some (.inr q)
  : Option ((Unit) ⊕ ((Bool)))) fun t => match t with
 | (.inl _) =>
  lt1 (decide ((List.length l_1 : Int) > (5000 : Int))) fun v_16 =>
  some v_16
 | (.inr q) =>
  some q

def ref09_Much.b1 (k : Nat) (e_1 : api_Event) (n_7 : Int) (i_8 : Int) : Option ((Int × Int) ⊕ ((Unit) ⊕ ((Bool)))) :=
 lt1 (decide (i_8 < (List.length e_1.To : Int))) fun v_9 =>
 if v_9 = true then
  Option.bind (idxL e_1.To i_8) fun v_10 =>
  lt1 (minI (List.length v_10.Device : Int) (200001 : Int)) fun v_11 =>
  lt1 (w64 (n_7 + v_11)) fun v_12 =>
  lt1 (decide (v_12 > (200000 : Int))) fun v_13 =>
  if v_13 = true then
   some (.inr (.inr true))
  else
   lt1 (w64 (i_8 + (1 : Int))) fun v_14 =>
   some (.inl (v_12, v_14))
 else
  some (.inr (.inl ()))

def ref09_Much (k : Nat) (e_1 : api_Event) : Option ((Bool)) :=
 Option.bind (
  lt1 (decide ((List.length e_1.Topic : Int) > (300 : Int))) fun v_3 =>
  if v_3 = true then
   some true
  else
   lt1 (decide ((List.length e_1.Payload : Int) > (3000 : Int))) fun v_4 =>
   if v_4 = true then
    some true
   else
    lt1 (decide ((List.length e_1.To : Int) > (3000 : Int))) fun v_5 =>
    some v_5
 ) fun x_6 =>
  if x_6 = true then
   some true
  else
   Option.bind (
    Option.bind (loopO (fun s => ref09_Much.b1 k e_1 s.1 s.2) k ((0 : Int), (0 : Int))) fun t => match t with
    | (.inl _) =>
     some (.inl ())
    | (.inr q) =>
     some (.inr q)
    : Option ((Unit) ⊕ ((Bool)))) fun t => match t with
   | (.inl _) =>
    some false
   | (.inr q) =>
    some q

def ref11_Much (k : Nat) (f_1 : api_Frame) : Option ((Bool)) :=
 Option.bind (
  Option.bind (ref11_Long k f_1.Items) fun v_3 =>
  if v_3 = true then
   some true
  else
   Option.bind (ref09_Much k f_1.Event) fun v_4 =>
   if v_4 = true then
    some true
   else
    lt1 (decide ((List.length f_1.Extra : Int) > (5000 : Int))) fun v_5 =>
    if v_5 = true then
     some true
    else
     lt1 (decide ((List.length f_1.Live : Int) > (5000 : Int))) fun v_6 =>
     if v_6 = true then
      some true
     else
      lt1 (decide ((List.length f_1.Leaves : Int) > (300 : Int))) fun v_7 =>
      if v_7 = true then
       some true
      else
       lt1 (decide ((List.length f_1.Buckets : Int) > (300 : Int))) fun v_8 =>
       some v_8
 ) fun x_9 =>
  some x_9

def frame_bare (k : Nat) (t_1 : api_Frame) : Option ((api_Frame)) :=
 Option.bind (
  lt1 ((t_1.Kind == (1 : Int))) fun v_5 =>
  if v_5 = true then
   some (api_Frame.mk t_1.Kind t_1.From t_1.To t_1.Items (api_Event.mk (api_Dot.mk (0 : Int) (0 : UInt64)) ([] : (List UInt8)) ([] : (List UInt8)) (Vector.replicate 16 (0 : UInt64)) ([] : (List api_Dest))) (Vector.replicate 16 (0 : UInt64)) (Vector.replicate 16 (0 : UInt64)) ([] : (List api_Dot)) ([] : (List api_Dot)) (Vector.replicate 32 (0 : UInt8)) ([] : (List (Vector UInt8 32))) ([] : (List Int)) false)
  else
   lt1 ((t_1.Kind == (2 : Int))) fun v_6 =>
   if v_6 = true then
    some (api_Frame.mk t_1.Kind t_1.From t_1.To ([] : (List api_Item)) t_1.Event (Vector.replicate 16 (0 : UInt64)) (Vector.replicate 16 (0 : UInt64)) ([] : (List api_Dot)) ([] : (List api_Dot)) (Vector.replicate 32 (0 : UInt8)) ([] : (List (Vector UInt8 32))) ([] : (List Int)) false)
   else
    lt1 ((t_1.Kind == (3 : Int))) fun v_7 =>
    if v_7 = true then
     some (api_Frame.mk t_1.Kind t_1.From t_1.To ([] : (List api_Item)) (api_Event.mk (api_Dot.mk (0 : Int) (0 : UInt64)) ([] : (List UInt8)) ([] : (List UInt8)) (Vector.replicate 16 (0 : UInt64)) ([] : (List api_Dest))) t_1.Past (Vector.replicate 16 (0 : UInt64)) ([] : (List api_Dot)) ([] : (List api_Dot)) (Vector.replicate 32 (0 : UInt8)) ([] : (List (Vector UInt8 32))) ([] : (List Int)) false)
    else
     lt1 ((t_1.Kind == (4 : Int))) fun v_8 =>
     if v_8 = true then
      some (api_Frame.mk t_1.Kind t_1.From t_1.To ([] : (List api_Item)) (api_Event.mk (api_Dot.mk (0 : Int) (0 : UInt64)) ([] : (List UInt8)) ([] : (List UInt8)) (Vector.replicate 16 (0 : UInt64)) ([] : (List api_Dest))) (Vector.replicate 16 (0 : UInt64)) t_1.Seen t_1.Extra t_1.Live (Vector.replicate 32 (0 : UInt8)) ([] : (List (Vector UInt8 32))) ([] : (List Int)) false)
     else
      lt1 ((t_1.Kind == (5 : Int))) fun v_9 =>
      if v_9 = true then
       some (api_Frame.mk t_1.Kind t_1.From t_1.To ([] : (List api_Item)) (api_Event.mk (api_Dot.mk (0 : Int) (0 : UInt64)) ([] : (List UInt8)) ([] : (List UInt8)) (Vector.replicate 16 (0 : UInt64)) ([] : (List api_Dest))) (Vector.replicate 16 (0 : UInt64)) (Vector.replicate 16 (0 : UInt64)) ([] : (List api_Dot)) ([] : (List api_Dot)) t_1.Hash ([] : (List (Vector UInt8 32))) ([] : (List Int)) false)
      else
       lt1 ((t_1.Kind == (6 : Int))) fun v_10 =>
       if v_10 = true then
        some (api_Frame.mk t_1.Kind t_1.From t_1.To ([] : (List api_Item)) (api_Event.mk (api_Dot.mk (0 : Int) (0 : UInt64)) ([] : (List UInt8)) ([] : (List UInt8)) (Vector.replicate 16 (0 : UInt64)) ([] : (List api_Dest))) (Vector.replicate 16 (0 : UInt64)) (Vector.replicate 16 (0 : UInt64)) ([] : (List api_Dot)) ([] : (List api_Dot)) (Vector.replicate 32 (0 : UInt8)) t_1.Leaves ([] : (List Int)) false)
       else
        lt1 ((t_1.Kind == (7 : Int))) fun v_11 =>
        if v_11 = true then
         some (api_Frame.mk t_1.Kind t_1.From t_1.To t_1.Items (api_Event.mk (api_Dot.mk (0 : Int) (0 : UInt64)) ([] : (List UInt8)) ([] : (List UInt8)) (Vector.replicate 16 (0 : UInt64)) ([] : (List api_Dest))) (Vector.replicate 16 (0 : UInt64)) t_1.Seen t_1.Extra ([] : (List api_Dot)) (Vector.replicate 32 (0 : UInt8)) ([] : (List (Vector UInt8 32))) t_1.Buckets t_1.Reply)
        else
         some (api_Frame.mk t_1.Kind t_1.From t_1.To ([] : (List api_Item)) (api_Event.mk (api_Dot.mk (0 : Int) (0 : UInt64)) ([] : (List UInt8)) ([] : (List UInt8)) (Vector.replicate 16 (0 : UInt64)) ([] : (List api_Dest))) (Vector.replicate 16 (0 : UInt64)) (Vector.replicate 16 (0 : UInt64)) ([] : (List api_Dot)) ([] : (List api_Dot)) (Vector.replicate 32 (0 : UInt8)) ([] : (List (Vector UInt8 32))) ([] : (List Int)) false)
 ) fun x_12 =>
  some x_12

def slices_Equalapi_Item_api_Item.b1 (k : Nat) (s1_1 : (List api_Item)) (s2_2 : (List api_Item)) (x_4 : Int) : Option ((Int) ⊕ ((Unit) ⊕ ((Bool)))) :=
 lt1 (decide (x_4 < (List.length s1_1 : Int))) fun v_5 =>
 if v_5 = true then
  Option.bind (idxL s1_1 x_4) fun v_6 =>
  Option.bind (idxL s2_2 x_4) fun v_7 =>
  lt1 ((!(eq_api_Item v_6 v_7))) fun v_8 =>
  if v_8 = true then
   some (.inr (.inr false))
  else
   lt1 (w64 (x_4 + (1 : Int))) fun v_9 =>
   some (.inl v_9)
 else
  some (.inr (.inl ()))

def slices_Equalapi_Item_api_Item (k : Nat) (s1_1 : (List api_Item)) (s2_2 : (List api_Item)) : Option ((Bool)) :=
 lt1 (((List.length s1_1 : Int) != (List.length s2_2 : Int))) fun v_3 =>
 if v_3 = true then
  some false
 else
  Option.bind (
   Option.bind (loopO (fun s => slices_Equalapi_Item_api_Item.b1 k s1_1 s2_2 s) k (0 : Int)) fun t => match t with
   | (.inl _) =>
    some (.inl ())
   | (.inr q) =>
    some (.inr q)
   : Option ((Unit) ⊕ ((Bool)))) fun t => match t with
  | (.inl _) =>
   some true
  | (.inr q) =>
   some q

def slices_Equalapi_Dot_api_Dot.b1 (k : Nat) (s1_1 : (List api_Dot)) (s2_2 : (List api_Dot)) (x_4 : Int) : Option ((Int) ⊕ ((Unit) ⊕ ((Bool)))) :=
 lt1 (decide (x_4 < (List.length s1_1 : Int))) fun v_5 =>
 if v_5 = true then
  Option.bind (idxL s1_1 x_4) fun v_6 =>
  Option.bind (idxL s2_2 x_4) fun v_7 =>
  lt1 ((!(eq_api_Dot v_6 v_7))) fun v_8 =>
  if v_8 = true then
   some (.inr (.inr false))
  else
   lt1 (w64 (x_4 + (1 : Int))) fun v_9 =>
   some (.inl v_9)
 else
  some (.inr (.inl ()))

def slices_Equalapi_Dot_api_Dot (k : Nat) (s1_1 : (List api_Dot)) (s2_2 : (List api_Dot)) : Option ((Bool)) :=
 lt1 (((List.length s1_1 : Int) != (List.length s2_2 : Int))) fun v_3 =>
 if v_3 = true then
  some false
 else
  Option.bind (
   Option.bind (loopO (fun s => slices_Equalapi_Dot_api_Dot.b1 k s1_1 s2_2 s) k (0 : Int)) fun t => match t with
   | (.inl _) =>
    some (.inl ())
   | (.inr q) =>
    some (.inr q)
   : Option ((Unit) ⊕ ((Bool)))) fun t => match t with
  | (.inl _) =>
   some true
  | (.inr q) =>
   some q

def slices_Equalapi_Hash_api_Hash.b1 (k : Nat) (s1_1 : (List (Vector UInt8 32))) (s2_2 : (List (Vector UInt8 32))) (x_4 : Int) : Option ((Int) ⊕ ((Unit) ⊕ ((Bool)))) :=
 lt1 (decide (x_4 < (List.length s1_1 : Int))) fun v_5 =>
 if v_5 = true then
  Option.bind (idxL s1_1 x_4) fun v_6 =>
  Option.bind (idxL s2_2 x_4) fun v_7 =>
  lt1 ((!((eqV (fun x y => x == y)) v_6 v_7))) fun v_8 =>
  if v_8 = true then
   some (.inr (.inr false))
  else
   lt1 (w64 (x_4 + (1 : Int))) fun v_9 =>
   some (.inl v_9)
 else
  some (.inr (.inl ()))

def slices_Equalapi_Hash_api_Hash (k : Nat) (s1_1 : (List (Vector UInt8 32))) (s2_2 : (List (Vector UInt8 32))) : Option ((Bool)) :=
 lt1 (((List.length s1_1 : Int) != (List.length s2_2 : Int))) fun v_3 =>
 if v_3 = true then
  some false
 else
  Option.bind (
   Option.bind (loopO (fun s => slices_Equalapi_Hash_api_Hash.b1 k s1_1 s2_2 s) k (0 : Int)) fun t => match t with
   | (.inl _) =>
    some (.inl ())
   | (.inr q) =>
    some (.inr q)
   : Option ((Unit) ⊕ ((Bool)))) fun t => match t with
  | (.inl _) =>
   some true
  | (.inr q) =>
   some q

def slices_Equalint_int.b1 (k : Nat) (s1_1 : (List Int)) (s2_2 : (List Int)) (x_4 : Int) : Option ((Int) ⊕ ((Unit) ⊕ ((Bool)))) :=
 lt1 (decide (x_4 < (List.length s1_1 : Int))) fun v_5 =>
 if v_5 = true then
  Option.bind (idxL s1_1 x_4) fun v_6 =>
  Option.bind (idxL s2_2 x_4) fun v_7 =>
  lt1 ((v_6 != v_7)) fun v_8 =>
  if v_8 = true then
   some (.inr (.inr false))
  else
   lt1 (w64 (x_4 + (1 : Int))) fun v_9 =>
   some (.inl v_9)
 else
  some (.inr (.inl ()))

def slices_Equalint_int (k : Nat) (s1_1 : (List Int)) (s2_2 : (List Int)) : Option ((Bool)) :=
 lt1 (((List.length s1_1 : Int) != (List.length s2_2 : Int))) fun v_3 =>
 if v_3 = true then
  some false
 else
  Option.bind (
   Option.bind (loopO (fun s => slices_Equalint_int.b1 k s1_1 s2_2 s) k (0 : Int)) fun t => match t with
   | (.inl _) =>
    some (.inl ())
   | (.inr q) =>
    some (.inr q)
   : Option ((Unit) ⊕ ((Bool)))) fun t => match t with
  | (.inl _) =>
   some true
  | (.inr q) =>
   some q

def slices_Equalbyte_byte.b1 (k : Nat) (s1_1 : (List UInt8)) (s2_2 : (List UInt8)) (x_4 : Int) : Option ((Int) ⊕ ((Unit) ⊕ ((Bool)))) :=
 lt1 (decide (x_4 < (List.length s1_1 : Int))) fun v_5 =>
 if v_5 = true then
  Option.bind (idxL s1_1 x_4) fun v_6 =>
  Option.bind (idxL s2_2 x_4) fun v_7 =>
  lt1 ((!(v_6 == v_7))) fun v_8 =>
  if v_8 = true then
   some (.inr (.inr false))
  else
   lt1 (w64 (x_4 + (1 : Int))) fun v_9 =>
   some (.inl v_9)
 else
  some (.inr (.inl ()))

def slices_Equalbyte_byte (k : Nat) (s1_1 : (List UInt8)) (s2_2 : (List UInt8)) : Option ((Bool)) :=
 lt1 (((List.length s1_1 : Int) != (List.length s2_2 : Int))) fun v_3 =>
 if v_3 = true then
  some false
 else
  Option.bind (
   Option.bind (loopO (fun s => slices_Equalbyte_byte.b1 k s1_1 s2_2 s) k (0 : Int)) fun t => match t with
   | (.inl _) =>
    some (.inl ())
   | (.inr q) =>
    some (.inr q)
   : Option ((Unit) ⊕ ((Bool)))) fun t => match t with
  | (.inl _) =>
   some true
  | (.inr q) =>
   some q

def slices_Equalapi_Dest_api_Dest.b1 (k : Nat) (s1_1 : (List api_Dest)) (s2_2 : (List api_Dest)) (x_4 : Int) : Option ((Int) ⊕ ((Unit) ⊕ ((Bool)))) :=
 lt1 (decide (x_4 < (List.length s1_1 : Int))) fun v_5 =>
 if v_5 = true then
  Option.bind (idxL s1_1 x_4) fun v_6 =>
  Option.bind (idxL s2_2 x_4) fun v_7 =>
  lt1 ((!(eq_api_Dest v_6 v_7))) fun v_8 =>
  if v_8 = true then
   some (.inr (.inr false))
  else
   lt1 (w64 (x_4 + (1 : Int))) fun v_9 =>
   some (.inl v_9)
 else
  some (.inr (.inl ()))

def slices_Equalapi_Dest_api_Dest (k : Nat) (s1_1 : (List api_Dest)) (s2_2 : (List api_Dest)) : Option ((Bool)) :=
 lt1 (((List.length s1_1 : Int) != (List.length s2_2 : Int))) fun v_3 =>
 if v_3 = true then
  some false
 else
  Option.bind (
   Option.bind (loopO (fun s => slices_Equalapi_Dest_api_Dest.b1 k s1_1 s2_2 s) k (0 : Int)) fun t => match t with
   | (.inl _) =>
    some (.inl ())
   | (.inr q) =>
    some (.inr q)
   : Option ((Unit) ⊕ ((Bool)))) fun t => match t with
  | (.inl _) =>
   some true
  | (.inr q) =>
   some q

def event_Same (k : Nat) (a_1 : api_Event) (b_2 : api_Event) : Option ((Bool)) :=
 Option.bind (
  lt1 ((eq_api_Dot a_1.ID b_2.ID)) fun v_5 =>
  if v_5 = true then
   lt1 ((a_1.Topic == b_2.Topic)) fun v_6 =>
   if v_6 = true then
    Option.bind (slices_Equalbyte_byte k a_1.Payload b_2.Payload) fun v_7 =>
    if v_7 = true then
     lt1 (((eqV (fun x y => x == y)) a_1.Past b_2.Past)) fun v_8 =>
     if v_8 = true then
      Option.bind (slices_Equalapi_Dest_api_Dest k a_1.To b_2.To) fun v_9 =>
      some v_9
     else
      some false
    else
     some false
   else
    some false
  else
   some false
 ) fun x_10 =>
  some x_10

def frame_Same (k : Nat) (t_1 : api_Frame) (a_2 : api_Frame) : Option ((Bool)) :=
 Option.bind (
  lt1 ((t_1.Kind == a_2.Kind)) fun v_5 =>
  if v_5 = true then
   lt1 ((t_1.From == a_2.From)) fun v_6 =>
   if v_6 = true then
    lt1 ((t_1.To == a_2.To)) fun v_7 =>
    if v_7 = true then
     lt1 (((eqV (fun x y => x == y)) t_1.Past a_2.Past)) fun v_8 =>
     if v_8 = true then
      lt1 (((eqV (fun x y => x == y)) t_1.Seen a_2.Seen)) fun v_9 =>
      if v_9 = true then
       lt1 (((eqV (fun x y => x == y)) t_1.Hash a_2.Hash)) fun v_10 =>
       if v_10 = true then
        lt1 ((t_1.Reply == a_2.Reply)) fun v_11 =>
        some v_11
       else
        some false
      else
       some false
     else
      some false
    else
     some false
   else
    some false
  else
   some false
 ) fun x_12 =>
  Option.bind (
   Option.bind (slices_Equalapi_Item_api_Item k t_1.Items a_2.Items) fun v_13 =>
   if v_13 = true then
    Option.bind (slices_Equalapi_Dot_api_Dot k t_1.Extra a_2.Extra) fun v_14 =>
    if v_14 = true then
     Option.bind (slices_Equalapi_Dot_api_Dot k t_1.Live a_2.Live) fun v_15 =>
     if v_15 = true then
      Option.bind (slices_Equalapi_Hash_api_Hash k t_1.Leaves a_2.Leaves) fun v_16 =>
      if v_16 = true then
       Option.bind (slices_Equalint_int k t_1.Buckets a_2.Buckets) fun v_17 =>
       some v_17
      else
       some false
     else
      some false
    else
     some false
   else
    some false
  ) fun x_18 =>
   Option.bind (
    lt1 (bif x_12 then x_18 else false) fun v_19 =>
    if v_19 = true then
     Option.bind (event_Same k t_1.Event a_2.Event) fun v_20 =>
     some v_20
    else
     some false
   ) fun x_21 =>
    some x_21

def ctx_May (k : Nat) (d_1 : api_Dot) : Option ((Bool)) :=
 Option.bind (
  lt1 (decide (d_1.Region ≥ (1 : Int))) fun v_3 =>
  if v_3 = true then
   lt1 (decide (d_1.Region ≤ (16 : Int))) fun v_4 =>
   if v_4 = true then
    lt1 (decide ((1 : UInt64) ≤ d_1.Count)) fun v_5 =>
    if v_5 = true then
     lt1 (decide (d_1.Count ≤ (4611686018427387904 : UInt64))) fun v_6 =>
     some v_6
    else
     some false
   else
    some false
  else
   some false
 ) fun x_7 =>
  some x_7

def event_MayName (k : Nat) (s_1 : (List UInt8)) : Option ((Bool)) :=
 Option.bind (
  lt1 (decide ((List.length s_1 : Int) ≥ (1 : Int))) fun v_2 =>
  lt1 (decide ((List.length s_1 : Int) ≤ (32 : Int))) fun v_3 =>
  lt1 (bif v_2 then v_3 else false) fun v_4 =>
  some v_4
 ) fun x_5 =>
  some x_5

def frame_MayItem (k : Nat) (i_1 : api_Item) : Option ((Bool)) :=
 if i_1.Gone = true then
  Option.bind (
   Option.bind (ctx_May k i_1.Dot) fun v_3 =>
   if v_3 = true then
    lt1 ((eq_api_Key i_1.Key (api_Key.mk ([] : (List UInt8)) ([] : (List UInt8))))) fun v_4 =>
    some v_4
   else
    some false
  ) fun x_5 =>
   some x_5
 else
  Option.bind (
   Option.bind (ctx_May k i_1.Dot) fun v_6 =>
   if v_6 = true then
    Option.bind (event_MayName k i_1.Key.Topic) fun v_7 =>
    if v_7 = true then
     Option.bind (event_MayName k i_1.Key.Device) fun v_8 =>
     some v_8
    else
     some false
   else
    some false
  ) fun x_9 =>
   some x_9

def frame_items_1 (k : Nat) (i_1 : api_Item) : Option ((Bool)) :=
 Option.bind (frame_MayItem k i_1) fun v_3 =>
 lt1 ((!v_3)) fun v_4 =>
 some v_4

def slices_IndexFuncapi_Item_api_Item.b1 (k : Nat) (s_1 : (List api_Item)) (x_2 : Int) : Option ((Int) ⊕ ((Unit) ⊕ ((Int)))) :=
 lt1 (decide (x_2 < (List.length s_1 : Int))) fun v_3 =>
 if v_3 = true then
  Option.bind (idxL s_1 x_2) fun v_4 =>
  Option.bind (frame_items_1 k v_4) fun v_5 =>
  if v_5 = true then
   some (.inr (.inr x_2))
  else
   lt1 (w64 (x_2 + (1 : Int))) fun v_6 =>
   some (.inl v_6)
 else
  some (.inr (.inl ()))

def slices_IndexFuncapi_Item_api_Item (k : Nat) (s_1 : (List api_Item)) : Option ((Int)) :=
 Option.bind (
  Option.bind (loopO (fun s => slices_IndexFuncapi_Item_api_Item.b1 k s_1 s) k (0 : Int)) fun t => match t with
  | (.inl _) =>
   some (.inl ())
  | (.inr q) =>
   some (.inr q)
  : Option ((Unit) ⊕ ((Int)))) fun t => match t with
 | (.inl _) =>
  some (-1 : Int)
 | (.inr q) =>
  some q

def slices_ContainsFuncapi_Item_api_Item (k : Nat) (s_1 : (List api_Item)) : Option ((Bool)) :=
 Option.bind (slices_IndexFuncapi_Item_api_Item k s_1) fun v_2 =>
 lt1 (decide (v_2 ≥ (0 : Int))) fun v_3 =>
 some v_3

def frame_items (k : Nat) (f_1 : api_Frame) : Option ((Bool)) :=
 Option.bind (
  lt1 (decide ((List.length f_1.Items : Int) ≤ (4096 : Int))) fun v_3 =>
  if v_3 = true then
   Option.bind (slices_ContainsFuncapi_Item_api_Item k f_1.Items) fun v_4 =>
   lt1 ((!v_4)) fun v_5 =>
   some v_5
  else
   some false
 ) fun x_6 =>
  some x_6

def event_MayDot (k : Nat) (d_1 : api_Dot) : Option ((Bool)) :=
 Option.bind (
  lt1 (decide (d_1.Region ≥ (1 : Int))) fun v_3 =>
  if v_3 = true then
   lt1 (decide (d_1.Region ≤ (16 : Int))) fun v_4 =>
   if v_4 = true then
    lt1 (decide ((1 : UInt64) ≤ d_1.Count)) fun v_5 =>
    if v_5 = true then
     lt1 (decide (d_1.Count ≤ (4611686018427387904 : UInt64))) fun v_6 =>
     some v_6
    else
     some false
   else
    some false
  else
   some false
 ) fun x_7 =>
  some x_7

def event_mayVector_1 (k : Nat) (n_1 : UInt64) : Option ((Bool)) :=
 lt1 (decide ((4611686018427387904 : UInt64) < n_1)) fun v_2 =>
 some v_2

def slices_IndexFuncuint64_uint64.b1 (k : Nat) (s_1 : (List UInt64)) (x_2 : Int) : Option ((Int) ⊕ ((Unit) ⊕ ((Int)))) :=
 lt1 (decide (x_2 < (List.length s_1 : Int))) fun v_3 =>
 if v_3 = true then
  Option.bind (idxL s_1 x_2) fun v_4 =>
  Option.bind (event_mayVector_1 k v_4) fun v_5 =>
  if v_5 = true then
   some (.inr (.inr x_2))
  else
   lt1 (w64 (x_2 + (1 : Int))) fun v_6 =>
   some (.inl v_6)
 else
  some (.inr (.inl ()))

def slices_IndexFuncuint64_uint64 (k : Nat) (s_1 : (List UInt64)) : Option ((Int)) :=
 Option.bind (
  Option.bind (loopO (fun s => slices_IndexFuncuint64_uint64.b1 k s_1 s) k (0 : Int)) fun t => match t with
  | (.inl _) =>
   some (.inl ())
  | (.inr q) =>
   some (.inr q)
  : Option ((Unit) ⊕ ((Int)))) fun t => match t with
 | (.inl _) =>
  some (-1 : Int)
 | (.inr q) =>
  some q

def slices_ContainsFuncuint64_uint64 (k : Nat) (s_1 : (List UInt64)) : Option ((Bool)) :=
 Option.bind (slices_IndexFuncuint64_uint64 k s_1) fun v_2 =>
 lt1 (decide (v_2 ≥ (0 : Int))) fun v_3 =>
 some v_3

def event_mayVector (k : Nat) (v_1 : (Vector UInt64 16)) : Option ((Bool)) :=
 Option.bind (subL (Vector.toList v_1) (0 : Int) (16 : Int)) fun v_3 =>
 Option.bind (slices_ContainsFuncuint64_uint64 k v_3) fun v_4 =>
 lt1 ((!v_4)) fun v_5 =>
 some v_5

def cmp_isNaNint (k : Nat) (x_1 : Int) : Option ((Bool)) :=
 lt1 ((x_1 != x_1)) fun v_2 =>
 some v_2

def cmp_Compareint (k : Nat) (x_1 : Int) (y_2 : Int) : Option ((Int)) :=
 Option.bind (cmp_isNaNint k x_1) fun v_3 =>
 Option.bind (cmp_isNaNint k y_2) fun v_4 =>
 if v_3 = true then
  if v_4 = true then
   some (0 : Int)
  else
   some (-1 : Int)
 else
  if v_4 = true then
   some (1 : Int)
  else
   lt1 (decide (x_1 < y_2)) fun v_5 =>
   if v_5 = true then
    some (-1 : Int)
   else
    lt1 (decide (x_1 > y_2)) fun v_6 =>
    if v_6 = true then
     some (1 : Int)
    else
     some (0 : Int)

def cmp_isNaNuint64 (k : Nat) (x_1 : UInt64) : Option ((Bool)) :=
 lt1 ((!(x_1 == x_1))) fun v_2 =>
 some v_2

def cmp_Compareuint64 (k : Nat) (x_1 : UInt64) (y_2 : UInt64) : Option ((Int)) :=
 Option.bind (cmp_isNaNuint64 k x_1) fun v_3 =>
 Option.bind (cmp_isNaNuint64 k y_2) fun v_4 =>
 if v_3 = true then
  if v_4 = true then
   some (0 : Int)
  else
   some (-1 : Int)
 else
  if v_4 = true then
   some (1 : Int)
  else
   lt1 (decide (x_1 < y_2)) fun v_5 =>
   if v_5 = true then
    some (-1 : Int)
   else
    lt1 (decide (y_2 < x_1)) fun v_6 =>
    if v_6 = true then
     some (1 : Int)
    else
     some (0 : Int)

def cmp_Orint.b1 (k : Nat) (vals_1 : (List Int)) (x_2 : Int) : Option ((Int) ⊕ ((Unit) ⊕ ((Int)))) :=
 lt1 (decide (x_2 < (List.length vals_1 : Int))) fun v_3 =>
 if v_3 = true then
  Option.bind (idxL vals_1 x_2) fun v_4 =>
  lt1 ((v_4 != (0 : Int))) fun v_5 =>
  if v_5 = true then
   some (.inr (.inr v_4))
  else
   lt1 (w64 (x_2 + (1 : Int))) fun v_6 =>
   some (.inl v_6)
 else
  some (.inr (.inl ()))

def cmp_Orint (k : Nat) (vals_1 : (List Int)) : Option ((Int)) :=
 Option.bind (
  Option.bind (loopO (fun s => cmp_Orint.b1 k vals_1 s) k (0 : Int)) fun t => match t with
  | (.inl _) =>
   some (.inl ())
  | (.inr q) =>
   some (.inr q)
  : Option ((Unit) ⊕ ((Int)))) fun t => match t with
 | (.inl _) =>
  some (0 : Int)
 | (.inr q) =>
  some q

def event_Less (k : Nat) (a_1 : api_Dot) (b_2 : api_Dot) : Option ((Bool)) :=
 Option.bind (cmp_Compareint k a_1.Region b_2.Region) fun v_5 =>
 Option.bind (cmp_Compareuint64 k a_1.Count b_2.Count) fun v_6 =>
 Option.bind (cmp_Orint k ([v_5, v_6] : (List Int))) fun v_7 =>
 lt1 (decide (v_7 < (0 : Int))) fun v_8 =>
 some v_8

def event_May.b1 (k : Nat) (t_1 : api_Event) (x_18 : Bool) (x_19 : Int) : Option ((Bool × Int) ⊕ ((Bool))) :=
 lt1 (decide (x_19 < (List.length t_1.To : Int))) fun v_20 =>
 if v_20 = true then
  Option.bind (idxL t_1.To x_19) fun v_21 =>
  Option.bind (
   Option.bind (event_MayDot k v_21.Dot) fun v_23 =>
   if v_23 = true then
    Option.bind (event_MayName k v_21.Device) fun v_24 =>
    lt1 ((x_19 == (0 : Int))) fun v_25 =>
    if v_24 = true then
     if v_25 = true then
      some true
     else
      lt1 (w64 (x_19 - (1 : Int))) fun v_26 =>
      Option.bind (idxL t_1.To v_26) fun v_27 =>
      Option.bind (event_Less k v_27.Dot v_21.Dot) fun v_28 =>
      some v_28
    else
     some false
   else
    some false
  ) fun x_29 =>
   lt1 ((!x_29)) fun v_30 =>
   if v_30 = true then
    some (.inr x_29)
   else
    lt1 (w64 (x_19 + (1 : Int))) fun v_31 =>
    some (.inl (x_29, v_31))
 else
  some (.inr x_18)

def event_May (k : Nat) (t_1 : api_Event) : Option ((Bool)) :=
 Option.bind (
  Option.bind (event_MayDot k t_1.ID) fun v_3 =>
  lt1 ((!v_3)) fun v_4 =>
  if v_4 = true then
   some true
  else
   Option.bind (event_mayVector k t_1.Past) fun v_5 =>
   lt1 ((!v_5)) fun v_6 =>
   if v_6 = true then
    some true
   else
    lt1 (w64 (t_1.ID.Region - (1 : Int))) fun v_7 =>
    Option.bind (inV 16 v_7) fun i_8 =>
    lt1 ((getV t_1.Past i_8)) fun v_9 =>
    lt1 ((t_1.ID.Count - (1 : UInt64))) fun v_10 =>
    lt1 ((!(v_9 == v_10))) fun v_11 =>
    some v_11
 ) fun x_12 =>
  if x_12 = true then
   some false
  else
   Option.bind (
    Option.bind (event_MayName k t_1.Topic) fun v_13 =>
    lt1 ((!v_13)) fun v_14 =>
    if v_14 = true then
     some true
    else
     lt1 (decide ((List.length t_1.Payload : Int) > (512 : Int))) fun v_15 =>
     if v_15 = true then
      some true
     else
      lt1 (decide ((List.length t_1.To : Int) > (1024 : Int))) fun v_16 =>
      some v_16
   ) fun x_17 =>
    if x_17 = true then
     some false
    else
     Option.bind (
      loopO (fun s => event_May.b1 k t_1 s.1 s.2) k (true, (0 : Int))
     ) fun x_32 =>
      some x_32

def frame_May_2 (k : Nat) (n_1 : UInt64) : Option ((Bool)) :=
 lt1 (decide ((4611686018427387904 : UInt64) < n_1)) fun v_2 =>
 some v_2

def slices_IndexFuncuint64_uint64'2.b1 (k : Nat) (s_1 : (List UInt64)) (x_2 : Int) : Option ((Int) ⊕ ((Unit) ⊕ ((Int)))) :=
 lt1 (decide (x_2 < (List.length s_1 : Int))) fun v_3 =>
 if v_3 = true then
  Option.bind (idxL s_1 x_2) fun v_4 =>
  Option.bind (frame_May_2 k v_4) fun v_5 =>
  if v_5 = true then
   some (.inr (.inr x_2))
  else
   lt1 (w64 (x_2 + (1 : Int))) fun v_6 =>
   some (.inl v_6)
 else
  some (.inr (.inl ()))

def slices_IndexFuncuint64_uint64'2 (k : Nat) (s_1 : (List UInt64)) : Option ((Int)) :=
 Option.bind (
  Option.bind (loopO (fun s => slices_IndexFuncuint64_uint64'2.b1 k s_1 s) k (0 : Int)) fun t => match t with
  | (.inl _) =>
   some (.inl ())
  | (.inr q) =>
   some (.inr q)
  : Option ((Unit) ⊕ ((Int)))) fun t => match t with
 | (.inl _) =>
  some (-1 : Int)
 | (.inr q) =>
  some q

def slices_ContainsFuncuint64_uint64'2 (k : Nat) (s_1 : (List UInt64)) : Option ((Bool)) :=
 Option.bind (slices_IndexFuncuint64_uint64'2 k s_1) fun v_2 =>
 lt1 (decide (v_2 ≥ (0 : Int))) fun v_3 =>
 some v_3

def frame_May_1 (k : Nat) (i_1 : Int) (less_2 : Bool) : Option ((Bool)) :=
 Option.bind (
  lt1 ((i_1 == (0 : Int))) fun v_3 =>
  lt1 (bif v_3 then true else less_2) fun v_4 =>
  some v_4
 ) fun x_5 =>
  some x_5

def ctx_order (k : Nat) (a_1 : api_Dot) (b_2 : api_Dot) : Option ((Int)) :=
 Option.bind (cmp_Compareint k a_1.Region b_2.Region) fun v_5 =>
 Option.bind (cmp_Compareuint64 k a_1.Count b_2.Count) fun v_6 =>
 Option.bind (cmp_Orint k ([v_5, v_6] : (List Int))) fun v_7 =>
 some v_7

def ctx_Less (k : Nat) (a_1 : api_Dot) (b_2 : api_Dot) : Option ((Bool)) :=
 Option.bind (ctx_order k a_1 b_2) fun v_5 =>
 lt1 (decide (v_5 < (0 : Int))) fun v_6 =>
 some v_6

def slices_Cloneapi_Dot_api_Dot (k : Nat) (s_1 : (List api_Dot)) : Option (((List api_Dot))) :=
 Option.bind (apL 16 ([] : (List api_Dot)) s_1) fun x_3 =>
 some x_3

def ctx_Of.b1 (k : Nat) (v_1 : (Vector UInt64 16)) (x_4 : Int) : Option ((Int) ⊕ ((Unit) ⊕ (((List api_Dot)) ⊕ (Int)))) :=
 lt1 (decide (x_4 < (16 : Int))) fun v_5 =>
 if v_5 = true then
  Option.bind (idxV v_1 x_4) fun v_6 =>
  lt1 (decide ((4611686018427387904 : UInt64) < v_6)) fun v_7 =>
  if v_7 = true then
   some (.inr (.inr (.inr (2 : Int))))
  else
   lt1 (w64 (x_4 + (1 : Int))) fun v_8 =>
   some (.inl v_8)
 else
  some (.inr (.inl ()))

def ctx_Of.b2 (k : Nat) (extra_2 : (List api_Dot)) (v_1 : (Vector UInt64 16)) (x_9 : Int) : Option ((Int) ⊕ ((Unit) ⊕ (((List api_Dot)) ⊕ (Int)))) :=
 lt1 (decide (x_9 < (List.length extra_2 : Int))) fun v_10 =>
 if v_10 = true then
  Option.bind (idxL extra_2 x_9) fun v_11 =>
  Option.bind (
   Option.bind (ctx_May k v_11) fun v_13 =>
   lt1 ((!v_13)) fun v_14 =>
   lt1 (decide (x_9 > (0 : Int))) fun v_15 =>
   lt1 (w64 (x_9 - (1 : Int))) fun v_16 =>
   Option.bind (if ((!v_14) && v_15) = true then idxL extra_2 v_16 else some default) fun v_17 =>
   Option.bind (if ((!v_14) && v_15) = true then ctx_Less k v_17 v_11 else some default) fun v_18 =>
   lt1 ((!v_18)) fun v_19 =>
   lt1 (bif v_15 then v_19 else false) fun v_20 =>
   lt1 (bif v_14 then true else v_20) fun v_21 =>
   if v_21 = true then
    some true
   else
    lt1 (w64 (v_11.Region - (1 : Int))) fun v_22 =>
    Option.bind (inV 16 v_22) fun i_23 =>
    lt1 ((getV v_1 i_23)) fun v_24 =>
    lt1 ((v_24 + (1 : UInt64))) fun v_25 =>
    lt1 (decide (v_11.Count ≤ v_25)) fun v_26 =>
    some v_26
  ) fun x_27 =>
   if x_27 = true then
    some (.inr (.inr (.inr (2 : Int))))
   else
    lt1 (w64 (x_9 + (1 : Int))) fun v_28 =>
    some (.inl v_28)
 else
  some (.inr (.inl ()))

def ctx_Of (k : Nat) (v_1 : (Vector UInt64 16)) (extra_2 : (List api_Dot)) : Option (((List api_Dot)) ⊕ (Int)) :=
 Option.bind (
  Option.bind (loopO (fun s => ctx_Of.b1 k v_1 s) k (0 : Int)) fun t => match t with
  | (.inl _) =>
   some (.inl ())
  | (.inr q) =>
   some (.inr q)
  : Option ((Unit) ⊕ (((List api_Dot)) ⊕ (Int)))) fun t => match t with
 | (.inl _) =>
  Option.bind (
   Option.bind (loopO (fun s => ctx_Of.b2 k extra_2 v_1 s) k (0 : Int)) fun t => match t with
   | (.inl _) =>
    some (.inl ())
   | (.inr q) =>
    some (.inr q)
   : Option ((Unit) ⊕ (((List api_Dot)) ⊕ (Int)))) fun t => match t with
  | (.inl _) =>
   lt1 (decide ((List.length extra_2 : Int) > (4096 : Int))) fun v_29 =>
   if v_29 = true then
    some (.inr (5 : Int))
   else
    Option.bind (slices_Cloneapi_Dot_api_Dot k extra_2) fun v_30 =>
    some (.inl v_30)
  | (.inr q) =>
   some q
 | (.inr q) =>
  some q

def frame_seen (k : Nat) (f_1 : api_Frame) : Option ((Bool)) :=
 Option.bind (ctx_Of k f_1.Seen f_1.Extra) fun t => match t with
 | (.inl v_3) =>
  some true
 | (.inr v_7) =>
  lt1 ((v_7 == (0 : Int))) fun v_8 =>
  some v_8

def frame_May.b1 (k : Nat) (t_1 : api_Frame) (x_25 : Int) : Option ((Int) ⊕ ((Unit) ⊕ ((Bool)))) :=
 lt1 (decide (x_25 < (List.length t_1.Live : Int))) fun v_26 =>
 if v_26 = true then
  Option.bind (idxL t_1.Live x_25) fun v_27 =>
  Option.bind (
   Option.bind (ctx_May k v_27) fun v_29 =>
   lt1 ((!v_29)) fun v_30 =>
   lt1 (decide (x_25 > (0 : Int))) fun v_31 =>
   if v_30 = true then
    some true
   else
    if v_31 = true then
     lt1 (w64 (x_25 - (1 : Int))) fun v_32 =>
     Option.bind (idxL t_1.Live v_32) fun v_33 =>
     Option.bind (ctx_Less k v_33 v_27) fun v_34 =>
     Option.bind (frame_May_1 k x_25 v_34) fun v_35 =>
     lt1 ((!v_35)) fun v_36 =>
     some v_36
    else
     Option.bind (frame_May_1 k x_25 false) fun v_37 =>
     lt1 ((!v_37)) fun v_38 =>
     some v_38
  ) fun x_39 =>
   if x_39 = true then
    some (.inr (.inr false))
   else
    lt1 (w64 (x_25 + (1 : Int))) fun v_40 =>
    some (.inl v_40)
 else
  some (.inr (.inl ()))

def frame_May.b2 (k : Nat) (t_1 : api_Frame) (x_49 : Int) : Option ((Int) ⊕ ((Unit) ⊕ ((Bool)))) :=
 lt1 (decide (x_49 < (List.length t_1.Buckets : Int))) fun v_50 =>
 if v_50 = true then
  Option.bind (idxL t_1.Buckets x_49) fun v_51 =>
  Option.bind (
   lt1 (decide (v_51 < (0 : Int))) fun v_52 =>
   lt1 (decide (v_51 ≥ (64 : Int))) fun v_53 =>
   lt1 (bif v_52 then true else v_53) fun v_54 =>
   lt1 (decide (x_49 > (0 : Int))) fun v_55 =>
   if v_54 = true then
    some true
   else
    if v_55 = true then
     lt1 (w64 (x_49 - (1 : Int))) fun v_56 =>
     Option.bind (idxL t_1.Buckets v_56) fun v_57 =>
     lt1 (decide (v_57 < v_51)) fun v_58 =>
     Option.bind (frame_May_1 k x_49 v_58) fun v_59 =>
     lt1 ((!v_59)) fun v_60 =>
     some v_60
    else
     Option.bind (frame_May_1 k x_49 false) fun v_61 =>
     lt1 ((!v_61)) fun v_62 =>
     some v_62
  ) fun x_63 =>
   if x_63 = true then
    some (.inr (.inr false))
   else
    lt1 (w64 (x_49 + (1 : Int))) fun v_64 =>
    some (.inl v_64)
 else
  some (.inr (.inl ()))

def frame_May.b3 (k : Nat) (t_1 : api_Frame) (x_65 : Int) : Option ((Int) ⊕ ((Unit) ⊕ ((Bool)))) :=
 lt1 (decide (x_65 < (List.length t_1.Items : Int))) fun v_66 =>
 if v_66 = true then
  Option.bind (idxL t_1.Items x_65) fun v_67 =>
  Option.bind (
   lt1 (decide (x_65 > (0 : Int))) fun v_69 =>
   if v_69 = true then
    lt1 (w64 (x_65 - (1 : Int))) fun v_70 =>
    Option.bind (idxL t_1.Items v_70) fun v_71 =>
    Option.bind (ctx_Less k v_71.Dot v_67.Dot) fun v_72 =>
    Option.bind (frame_May_1 k x_65 v_72) fun v_73 =>
    lt1 ((!v_73)) fun v_74 =>
    some v_74
   else
    Option.bind (frame_May_1 k x_65 false) fun v_75 =>
    lt1 ((!v_75)) fun v_76 =>
    some v_76
  ) fun x_77 =>
   if x_77 = true then
    some (.inr (.inr false))
   else
    lt1 (w64 (x_65 + (1 : Int))) fun v_78 =>
    some (.inl v_78)
 else
  some (.inr (.inl ()))

def frame_May (k : Nat) (t_1 : api_Frame) : Option ((Bool)) :=
 Option.bind (
  lt1 (decide (t_1.From < (1 : Int))) fun v_3 =>
  if v_3 = true then
   some true
  else
   lt1 (decide (t_1.From > (16 : Int))) fun v_4 =>
   if v_4 = true then
    some true
   else
    lt1 (decide (t_1.To < (1 : Int))) fun v_5 =>
    if v_5 = true then
     some true
    else
     lt1 (decide (t_1.To > (16 : Int))) fun v_6 =>
     if v_6 = true then
      some true
     else
      lt1 ((t_1.From == t_1.To)) fun v_7 =>
      Option.bind (if (!v_7) = true then frame_bare k t_1 else some default) fun v_8 =>
      Option.bind (if (!v_7) = true then frame_Same k t_1 v_8 else some default) fun v_9 =>
      lt1 ((!v_9)) fun v_10 =>
      lt1 (bif v_7 then true else v_10) fun v_11 =>
      some v_11
 ) fun x_12 =>
  if x_12 = true then
   some false
  else
   Option.bind (
    lt1 ((t_1.Kind == (1 : Int))) fun v_13 =>
    if v_13 = true then
     Option.bind (
      lt1 (decide ((List.length t_1.Items : Int) > (0 : Int))) fun v_14 =>
      Option.bind (if v_14 = true then frame_items k t_1 else some default) fun v_15 =>
      lt1 (bif v_14 then v_15 else false) fun v_16 =>
      some v_16
     ) fun x_17 =>
      some (.inr x_17)
    else
     lt1 ((t_1.Kind == (2 : Int))) fun v_18 =>
     if v_18 = true then
      Option.bind (event_May k t_1.Event) fun v_19 =>
      some (.inr v_19)
     else
      lt1 ((t_1.Kind == (3 : Int))) fun v_20 =>
      if v_20 = true then
       Option.bind (subL (Vector.toList t_1.Past) (0 : Int) (16 : Int)) fun v_21 =>
       Option.bind (slices_ContainsFuncuint64_uint64'2 k v_21) fun v_22 =>
       lt1 ((!v_22)) fun v_23 =>
       some (.inr v_23)
      else
       lt1 ((t_1.Kind == (4 : Int))) fun v_24 =>
       if v_24 = true then
        Option.bind (
         Option.bind (loopO (fun s => frame_May.b1 k t_1 s) k (0 : Int)) fun t => match t with
         | (.inl _) =>
          some (.inl ())
         | (.inr q) =>
          some (.inr q)
         : Option ((Unit) ⊕ ((Bool)))) fun t => match t with
        | (.inl _) =>
         Option.bind (
          lt1 (decide ((List.length t_1.Live : Int) ≤ (1024 : Int))) fun v_41 =>
          Option.bind (if v_41 = true then frame_seen k t_1 else some default) fun v_42 =>
          lt1 (bif v_41 then v_42 else false) fun v_43 =>
          some v_43
         ) fun x_44 =>
          some (.inr x_44)
        | (.inr q) =>
         some (.inr q)
       else
        lt1 ((t_1.Kind == (5 : Int))) fun v_45 =>
        if v_45 = true then
         some (.inr true)
        else
         lt1 ((t_1.Kind == (6 : Int))) fun v_46 =>
         if v_46 = true then
          lt1 (((List.length t_1.Leaves : Int) == (64 : Int))) fun v_47 =>
          some (.inr v_47)
         else
          lt1 ((t_1.Kind == (7 : Int))) fun v_48 =>
          if v_48 = true then
           Option.bind (
            Option.bind (loopO (fun s => frame_May.b2 k t_1 s) k (0 : Int)) fun t => match t with
            | (.inl _) =>
             some (.inl ())
            | (.inr q) =>
             some (.inr q)
            : Option ((Unit) ⊕ ((Bool)))) fun t => match t with
           | (.inl _) =>
            Option.bind (
             Option.bind (loopO (fun s => frame_May.b3 k t_1 s) k (0 : Int)) fun t => match t with
             | (.inl _) =>
              some (.inl ())
             | (.inr q) =>
              some (.inr q)
             : Option ((Unit) ⊕ ((Bool)))) fun t => match t with
            | (.inl _) =>
             Option.bind (
              lt1 (decide ((List.length t_1.Buckets : Int) > (0 : Int))) fun v_79 =>
              Option.bind (if v_79 = true then frame_items k t_1 else some default) fun v_80 =>
              lt1 (bif v_79 then v_80 else false) fun v_81 =>
              Option.bind (if v_81 = true then frame_seen k t_1 else some default) fun v_82 =>
              lt1 (bif v_81 then v_82 else false) fun v_83 =>
              some v_83
             ) fun x_84 =>
              some (.inr x_84)
            | (.inr q) =>
             some (.inr q)
           | (.inr q) =>
            some (.inr q)
          else
           some (.inl ())
    : Option ((Unit) ⊕ ((Bool)))) fun t => match t with
   | (.inl _) =>
    some false
   | (.inr q) =>
    some q

def frame_forms (k : Nat) : Option (((List (Int × frame_form)))) :=
 lt1 (mput (1 : Int) (frame_form.mk (some 92 : Option Nat) (some 93 : Option Nat)) ([] : (List (Int × frame_form)))) fun x_2 =>
 lt1 (mput (2 : Int) (frame_form.mk (some 94 : Option Nat) (some 95 : Option Nat)) x_2) fun x_3 =>
 lt1 (mput (3 : Int) (frame_form.mk (some 96 : Option Nat) (some 97 : Option Nat)) x_3) fun x_4 =>
 lt1 (mput (4 : Int) (frame_form.mk (some 98 : Option Nat) (some 99 : Option Nat)) x_4) fun x_5 =>
 lt1 (mput (5 : Int) (frame_form.mk (some 100 : Option Nat) (some 101 : Option Nat)) x_5) fun x_6 =>
 lt1 (mput (6 : Int) (frame_form.mk (some 102 : Option Nat) (some 103 : Option Nat)) x_6) fun x_7 =>
 lt1 (mput (7 : Int) (frame_form.mk (some 104 : Option Nat) (some 105 : Option Nat)) x_7) fun x_8 =>
 some x_8

def wire_Put.b1 (k : Nat) (size_2 : Int) (n_1 : UInt64) (b_13 : (List UInt8)) (x_14 : Int) : Option (((List UInt8) × Int) ⊕ (((List UInt8)))) :=
 lt1 (decide (x_14 < size_2)) fun v_17 =>
 if v_17 = true then
  lt1 (w64 (size_2 - (1 : Int))) fun v_18 =>
  lt1 (w64 (v_18 - x_14)) fun v_19 =>
  lt1 (w64 ((8 : Int) * v_19)) fun v_20 =>
  Option.bind (shrU n_1 v_20) fun v_21 =>
  lt1 ((UN.to v_21 : UInt8)) fun v_22 =>
  Option.bind (apL 1 b_13 ([v_22] : (List UInt8))) fun b_23 =>
  lt1 (w64 (x_14 + (1 : Int))) fun v_26 =>
  some (.inl (b_23, v_26))
 else
  some (.inr b_13)

def wire_Put (k : Nat) (n_1 : UInt64) (size_2 : Int) : Option (((List UInt8) × Int)) :=
 Option.bind (
  lt1 (decide (size_2 < (1 : Int))) fun v_3 =>
  lt1 (decide (size_2 > (8 : Int))) fun v_4 =>
  lt1 (bif v_3 then true else v_4) fun v_5 =>
  lt1 (decide (size_2 < (8 : Int))) fun v_6 =>
  lt1 (w64 ((8 : Int) * size_2)) fun v_7 =>
  Option.bind (if ((!v_5) && v_6) = true then shrU n_1 v_7 else some default) fun v_8 =>
  lt1 ((!(v_8 == (0 : UInt64)))) fun v_9 =>
  lt1 (bif v_6 then v_9 else false) fun v_10 =>
  lt1 (bif v_5 then true else v_10) fun v_11 =>
  some v_11
 ) fun x_12 =>
  if x_12 = true then
   some (([] : (List UInt8)), (2 : Int))
  else
   Option.bind (
    loopO (fun s => wire_Put.b1 k size_2 n_1 s.1 s.2) k (([] : (List UInt8)), (0 : Int))
   ) fun b_27 =>
    some (b_27, (0 : Int))

def frame_writer_put'2 (k : Nat) (b_1 : (List UInt8)) (v_2 : Int) (x_4 : (List UInt8)) : Option (((List UInt8))) :=
 Option.bind (apL 1 x_4 b_1) fun x_7 =>
 some x_7

def wire_Dot (k : Nat) (d_1 : api_Dot) : Option (((List UInt8) × Int)) :=
 Option.bind (
  lt1 (decide (d_1.Region < (0 : Int))) fun v_3 =>
  if v_3 = true then
   some true
  else
   lt1 (decide (d_1.Region > (255 : Int))) fun v_4 =>
   some v_4
 ) fun x_5 =>
  if x_5 = true then
   some (([] : (List UInt8)), (2 : Int))
  else
   Option.bind (wire_Put k d_1.Count (8 : Int)) fun (v_6, v_7) =>
   lt1 ((UN.ofI d_1.Region : UInt8)) fun v_10 =>
   Option.bind (apL 1 ([v_10] : (List UInt8)) v_6) fun x_12 =>
   some (x_12, (0 : Int))

def frame_writer_flag (k : Nat) (is_1 : Bool) (x_3 : (List UInt8)) : Option (((List UInt8))) :=
 Option.bind (
  if is_1 = true then
   some (1 : UInt8)
  else
   some (0 : UInt8)
 ) fun b_6 =>
  Option.bind (apL 1 x_3 ([b_6] : (List UInt8))) fun x_7 =>
  some x_7

def wire_Blob (k : Nat) (b_1 : (List UInt8)) : Option (((List UInt8) × Int)) :=
 lt1 (decide ((List.length b_1 : Int) > (65535 : Int))) fun v_2 =>
 if v_2 = true then
  some (([] : (List UInt8)), (3 : Int))
 else
  lt1 ((UN.ofI (List.length b_1 : Int) : UInt64)) fun v_3 =>
  Option.bind (wire_Put k v_3 (2 : Int)) fun (v_4, v_5) =>
  Option.bind (apL 1 v_4 b_1) fun n_8 =>
  some (n_8, (0 : Int))

def frame_writer_items'3.b1 (k : Nat) (l_1 : (List api_Item)) (b_14 : (List UInt8)) (x_15 : Int) : Option (((List UInt8) × Int) ⊕ (((List UInt8)))) :=
 lt1 (decide (x_15 < (List.length l_1 : Int))) fun v_18 =>
 if v_18 = true then
  Option.bind (
   Option.bind (idxL l_1 x_15) fun v_19 =>
   Option.bind (wire_Dot k v_19.Dot) fun (v_21, v_22) =>
   Option.bind (frame_writer_put'2 k v_21 v_22 b_14) fun x_25 =>
   Option.bind (frame_writer_flag k v_19.Gone x_25) fun x_28 =>
   lt1 ((!v_19.Gone)) fun v_31 =>
   if v_31 = true then
    Option.bind (wire_Blob k v_19.Key.Topic) fun (v_32, v_33) =>
    Option.bind (frame_writer_put'2 k v_32 v_33 x_28) fun x_36 =>
    Option.bind (wire_Blob k v_19.Key.Device) fun (v_39, v_40) =>
    Option.bind (frame_writer_put'2 k v_39 v_40 x_36) fun x_43 =>
    some x_43
   else
    some x_28
  ) fun b_46 =>
   lt1 (w64 (x_15 + (1 : Int))) fun v_49 =>
   some (.inl (b_46, v_49))
 else
  some (.inr b_14)

def frame_writer_items'3 (k : Nat) (l_1 : (List api_Item)) (x_3 : (List UInt8)) : Option (((List UInt8))) :=
 lt1 ((UN.ofI (List.length l_1 : Int) : UInt64)) fun v_6 =>
 Option.bind (wire_Put k v_6 (2 : Int)) fun (v_7, v_8) =>
 Option.bind (frame_writer_put'2 k v_7 v_8 x_3) fun x_11 =>
 loopO (fun s => frame_writer_items'3.b1 k l_1 s.1 s.2) k (x_11, (0 : Int))

def frame_writer_delta'4 (k : Nat) (f_1 : api_Frame) (x_3 : (List UInt8)) : Option (((List UInt8))) :=
 Option.bind (frame_writer_items'3 k f_1.Items x_3) fun x_7 =>
 some x_7

def event_bytes_1 (k : Nat) (x_1 : (List UInt8)) (v_2 : Int) : Option (((List UInt8))) :=
 Option.bind (apL 1 ([] : (List UInt8)) x_1) fun v_4 =>
 some v_4

def event_bytes_1'2 (k : Nat) (x_1 : (List UInt8)) (v_2 : Int) (x_4 : (List UInt8)) : Option (((List UInt8))) :=
 Option.bind (apL 1 x_4 x_1) fun x_7 =>
 some x_7

def wire_Vector.b1 (k : Nat) (v_1 : (Vector UInt64 16)) (b_3 : (List UInt8)) (x_4 : Int) : Option (((List UInt8) × Int) ⊕ (((List UInt8)))) :=
 lt1 (decide (x_4 < (16 : Int))) fun v_7 =>
 if v_7 = true then
  Option.bind (idxV v_1 x_4) fun v_8 =>
  Option.bind (wire_Put k v_8 (8 : Int)) fun (v_9, v_10) =>
  Option.bind (apL 1 b_3 v_9) fun b_13 =>
  lt1 (w64 (x_4 + (1 : Int))) fun v_16 =>
  some (.inl (b_13, v_16))
 else
  some (.inr b_3)

def wire_Vector (k : Nat) (v_1 : (Vector UInt64 16)) : Option (((List UInt8))) :=
 Option.bind (
  loopO (fun s => wire_Vector.b1 k v_1 s.1 s.2) k (([] : (List UInt8)), (0 : Int))
 ) fun b_17 =>
  some b_17

def event_bytes.b1 (k : Nat) (t_1 : api_Event) (x_39 : (List UInt8)) (x_40 : Int) : Option (((List UInt8) × Int) ⊕ (((List UInt8)))) :=
 lt1 (decide (x_40 < (List.length t_1.To : Int))) fun v_43 =>
 if v_43 = true then
  Option.bind (idxL t_1.To x_40) fun v_44 =>
  Option.bind (wire_Dot k v_44.Dot) fun (v_46, v_47) =>
  Option.bind (event_bytes_1'2 k v_46 v_47 x_39) fun x_50 =>
  Option.bind (wire_Blob k v_44.Device) fun (v_53, v_54) =>
  Option.bind (event_bytes_1'2 k v_53 v_54 x_50) fun x_57 =>
  lt1 (w64 (x_40 + (1 : Int))) fun v_60 =>
  some (.inl (x_57, v_60))
 else
  some (.inr x_39)

def event_bytes (k : Nat) (t_1 : api_Event) : Option (((List UInt8))) :=
 Option.bind (wire_Dot k t_1.ID) fun (v_4, v_5) =>
 Option.bind (event_bytes_1 k v_4 v_5) fun x_8 =>
 Option.bind (wire_Blob k t_1.Topic) fun (v_11, v_12) =>
 Option.bind (event_bytes_1'2 k v_11 v_12 x_8) fun x_15 =>
 Option.bind (wire_Blob k t_1.Payload) fun (v_18, v_19) =>
 Option.bind (event_bytes_1'2 k v_18 v_19 x_15) fun x_22 =>
 Option.bind (wire_Vector k t_1.Past) fun v_25 =>
 Option.bind (event_bytes_1'2 k v_25 (0 : Int) x_22) fun x_28 =>
 lt1 ((UN.ofI (List.length t_1.To : Int) : UInt64)) fun v_31 =>
 Option.bind (wire_Put k v_31 (2 : Int)) fun (v_32, v_33) =>
 Option.bind (event_bytes_1'2 k v_32 v_33 x_28) fun x_36 =>
 Option.bind (
  loopO (fun s => event_bytes.b1 k t_1 s.1 s.2) k (x_36, (0 : Int))
 ) fun x_61 =>
  some x_61

def event_Bytes (k : Nat) (e_1 : api_Event) : Option (((List UInt8) × Int)) :=
 Option.bind (event_May k e_1) fun v_3 =>
 lt1 ((!v_3)) fun v_4 =>
 if v_4 = true then
  some (([] : (List UInt8)), (2 : Int))
 else
  Option.bind (event_bytes k e_1) fun v_5 =>
  some (v_5, (0 : Int))

def frame_writer_event (k : Nat) (f_1 : api_Frame) (x_3 : (List UInt8)) : Option (((List UInt8))) :=
 Option.bind (event_Bytes k f_1.Event) fun (v_7, v_8) =>
 lt1 ((UN.ofI (List.length v_7 : Int) : UInt64)) fun v_11 =>
 Option.bind (wire_Put k v_11 (4 : Int)) fun (v_12, v_13) =>
 Option.bind (frame_writer_put'2 k v_12 v_13 x_3) fun x_16 =>
 Option.bind (apL 1 x_16 v_7) fun x_19 =>
 some x_19

def frame_writer_have (k : Nat) (f_1 : api_Frame) (x_3 : (List UInt8)) : Option (((List UInt8))) :=
 Option.bind (wire_Vector k f_1.Past) fun v_7 =>
 Option.bind (frame_writer_put'2 k v_7 (0 : Int) x_3) fun x_10 =>
 some x_10

def frame_writer_dots.b1 (k : Nat) (l_1 : (List api_Dot)) (b_14 : (List UInt8)) (x_15 : Int) : Option (((List UInt8) × Int) ⊕ (((List UInt8)))) :=
 lt1 (decide (x_15 < (List.length l_1 : Int))) fun v_18 =>
 if v_18 = true then
  Option.bind (idxL l_1 x_15) fun v_19 =>
  Option.bind (wire_Dot k v_19) fun (v_21, v_22) =>
  Option.bind (frame_writer_put'2 k v_21 v_22 b_14) fun x_25 =>
  lt1 (w64 (x_15 + (1 : Int))) fun v_28 =>
  some (.inl (x_25, v_28))
 else
  some (.inr b_14)

def frame_writer_dots (k : Nat) (l_1 : (List api_Dot)) (x_3 : (List UInt8)) : Option (((List UInt8))) :=
 lt1 ((UN.ofI (List.length l_1 : Int) : UInt64)) fun v_6 =>
 Option.bind (wire_Put k v_6 (2 : Int)) fun (v_7, v_8) =>
 Option.bind (frame_writer_put'2 k v_7 v_8 x_3) fun x_11 =>
 loopO (fun s => frame_writer_dots.b1 k l_1 s.1 s.2) k (x_11, (0 : Int))

def frame_writer_seen (k : Nat) (f_1 : api_Frame) (x_3 : (List UInt8)) : Option (((List UInt8))) :=
 Option.bind (wire_Vector k f_1.Seen) fun v_7 =>
 Option.bind (frame_writer_put'2 k v_7 (0 : Int) x_3) fun x_10 =>
 Option.bind (frame_writer_dots k f_1.Extra x_10) fun x_13 =>
 some x_13

def frame_writer_known (k : Nat) (f_1 : api_Frame) (x_3 : (List UInt8)) : Option (((List UInt8))) :=
 Option.bind (frame_writer_seen k f_1 x_3) fun x_7 =>
 Option.bind (frame_writer_dots k f_1.Live x_7) fun x_10 =>
 some x_10

def frame_writer_root (k : Nat) (f_1 : api_Frame) (x_3 : (List UInt8)) : Option (((List UInt8))) :=
 Option.bind (subL (Vector.toList f_1.Hash) (0 : Int) (32 : Int)) fun v_7 =>
 Option.bind (apL 1 x_3 v_7) fun x_8 =>
 some x_8

def frame_writer_leaves.b1 (k : Nat) (f_1 : api_Frame) (b_7 : (List UInt8)) (x_8 : Int) : Option (((List UInt8) × Int) ⊕ (((List UInt8)))) :=
 lt1 (decide (x_8 < (List.length f_1.Leaves : Int))) fun v_11 =>
 if v_11 = true then
  Option.bind (idxL f_1.Leaves x_8) fun v_12 =>
  Option.bind (subL (Vector.toList v_12) (0 : Int) (32 : Int)) fun v_14 =>
  Option.bind (apL 1 b_7 v_14) fun x_15 =>
  lt1 (w64 (x_8 + (1 : Int))) fun v_18 =>
  some (.inl (x_15, v_18))
 else
  some (.inr b_7)

def frame_writer_leaves (k : Nat) (f_1 : api_Frame) (x_3 : (List UInt8)) : Option (((List UInt8))) :=
 loopO (fun s => frame_writer_leaves.b1 k f_1 s.1 s.2) k (x_3, (0 : Int))

def frame_writer_buckets.b1 (k : Nat) (f_1 : api_Frame) (b_11 : (List UInt8)) (x_12 : Int) : Option (((List UInt8) × Int) ⊕ (((List UInt8)))) :=
 lt1 (decide (x_12 < (List.length f_1.Buckets : Int))) fun v_15 =>
 if v_15 = true then
  Option.bind (idxL f_1.Buckets x_12) fun v_16 =>
  lt1 ((UN.ofI v_16 : UInt8)) fun v_17 =>
  Option.bind (apL 1 b_11 ([v_17] : (List UInt8))) fun x_18 =>
  lt1 (w64 (x_12 + (1 : Int))) fun v_21 =>
  some (.inl (x_18, v_21))
 else
  some (.inr b_11)

def frame_writer_buckets (k : Nat) (f_1 : api_Frame) (x_3 : (List UInt8)) : Option (((List UInt8))) :=
 lt1 ((UN.ofI (List.length f_1.Buckets : Int) : UInt8)) fun v_7 =>
 Option.bind (apL 1 x_3 ([v_7] : (List UInt8))) fun x_8 =>
 Option.bind (
  loopO (fun s => frame_writer_buckets.b1 k f_1 s.1 s.2) k (x_8, (0 : Int))
 ) fun b_22 =>
  Option.bind (frame_writer_items'3 k f_1.Items b_22) fun x_25 =>
  Option.bind (frame_writer_seen k f_1 x_25) fun x_28 =>
  Option.bind (frame_writer_flag k f_1.Reply x_28) fun x_31 =>
  some x_31

def crc_fours.b2 (k : Nat) (x_5 : UInt32) (x_6 : Int) : Option ((UInt32 × Int) ⊕ ((UInt32))) :=
 lt1 (decide (x_6 < (4 : Int))) fun v_7 =>
 if v_7 = true then
  Option.bind (
   lt1 ((x_5 &&& (1 : UInt32))) fun v_8 =>
   lt1 ((v_8 == (1 : UInt32))) fun v_9 =>
   if v_9 = true then
    lt1 (UN.shr x_5 (UN.toN (1 : UInt64))) fun v_10 =>
    lt1 ((v_10 ^^^ (2197175160 : UInt32))) fun v_11 =>
    some v_11
   else
    lt1 (UN.shr x_5 (UN.toN (1 : UInt64))) fun v_12 =>
    some v_12
  ) fun x_13 =>
   lt1 (w64 (x_6 + (1 : Int))) fun v_14 =>
   some (.inl (x_13, v_14))
 else
  some (.inr x_5)

def crc_fours.b1 (k : Nat) (f_2 : (Vector UInt32 16)) (x_3 : UInt32) : Option (((Vector UInt32 16) × UInt32) ⊕ (((Vector UInt32 16)))) :=
 lt1 (decide (x_3 < (16 : UInt32))) fun v_4 =>
 if v_4 = true then
  Option.bind (
   Option.bind (
    loopO (fun s => crc_fours.b2 k s.1 s.2) k (x_3, (0 : Int))
   ) fun x_15 =>
    Option.bind (inN 16 (UN.toN x_3)) fun i_16 =>
    lt1 ((putV f_2 i_16 x_15)) fun f_17 =>
    some f_17
  ) fun f_18 =>
   lt1 ((x_3 + (1 : UInt32))) fun v_19 =>
   some (.inl (f_18, v_19))
 else
  some (.inr f_2)

def crc_fours (k : Nat) : Option (((Vector UInt32 16))) :=
 Option.bind (
  loopO (fun s => crc_fours.b1 k s.1 s.2) k ((Vector.replicate 16 (0 : UInt32)), (0 : UInt32))
 ) fun f_20 =>
  some f_20

def crc_sum.b1 (k : Nat) (b_2 : (List UInt8)) (v_3 : (Vector UInt32 16)) (x_6 : UInt32) (x_7 : Int) : Option ((UInt32 × Int) ⊕ ((UInt32))) :=
 lt1 (decide (x_7 < (List.length b_2 : Int))) fun v_8 =>
 if v_8 = true then
  Option.bind (idxL b_2 x_7) fun v_9 =>
  lt1 ((UN.to v_9 : UInt32)) fun v_10 =>
  lt1 ((x_6 ^^^ v_10)) fun v_11 =>
  lt1 ((v_11 &&& (15 : UInt32))) fun v_12 =>
  Option.bind (inN 16 (UN.toN v_12)) fun i_13 =>
  lt1 ((getV v_3 i_13)) fun v_14 =>
  lt1 (UN.shr v_11 (UN.toN (4 : UInt64))) fun v_15 =>
  lt1 ((v_14 ^^^ v_15)) fun v_16 =>
  lt1 ((v_16 &&& (15 : UInt32))) fun v_17 =>
  Option.bind (inN 16 (UN.toN v_17)) fun i_18 =>
  lt1 ((getV v_3 i_18)) fun v_19 =>
  lt1 (UN.shr v_16 (UN.toN (4 : UInt64))) fun v_20 =>
  lt1 ((v_19 ^^^ v_20)) fun v_21 =>
  lt1 (w64 (x_7 + (1 : Int))) fun v_22 =>
  some (.inl (v_21, v_22))
 else
  some (.inr x_6)

def crc_sum (k : Nat) (was_1 : UInt32) (b_2 : (List UInt8)) : Option ((UInt32)) :=
 Option.bind (crc_fours k) fun v_3 =>
 lt1 ((UN.not was_1)) fun v_4 =>
 Option.bind (
  loopO (fun s => crc_sum.b1 k b_2 v_3 s.1 s.2) k (v_4, (0 : Int))
 ) fun x_23 =>
  lt1 ((UN.not x_23)) fun v_24 =>
  some v_24

def crc_Sum.b1 (k : Nat) (l_1 : (List (List UInt8))) (s_2 : UInt32) (x_3 : Int) : Option ((UInt32 × Int) ⊕ ((UInt32))) :=
 lt1 (decide (x_3 < (List.length l_1 : Int))) fun v_4 =>
 if v_4 = true then
  Option.bind (idxL l_1 x_3) fun v_5 =>
  Option.bind (crc_sum k s_2 v_5) fun v_6 =>
  lt1 (w64 (x_3 + (1 : Int))) fun v_7 =>
  some (.inl (v_6, v_7))
 else
  some (.inr s_2)

def crc_Sum (k : Nat) (l_1 : (List (List UInt8))) : Option ((UInt32)) :=
 Option.bind (
  loopO (fun s => crc_Sum.b1 k l_1 s.1 s.2) k ((0 : UInt32), (0 : Int))
 ) fun s_8 =>
  some s_8

def frame_writer_put'3 (k : Nat) (b_1 : (List UInt8)) (v_2 : Int) (x_4 : (List UInt8)) : Option (((List UInt8))) :=
 Option.bind (apL 1 x_4 b_1) fun x_7 =>
 some x_7

def frame_bytes'4 (k : Nat) (f_1 : api_Frame) : Option (((List UInt8))) :=
 lt1 ((UN.ofI f_1.Kind : UInt8)) fun v_3 =>
 lt1 ((UN.ofI f_1.From : UInt8)) fun v_4 =>
 lt1 ((UN.ofI f_1.To : UInt8)) fun v_5 =>
 Option.bind (
  Option.bind (frame_forms k) fun v_8 =>
  lt1 (Option.getD (mgetO (some (v_8)) f_1.Kind) (frame_form.mk (none : Option Nat) (none : Option Nat))) fun v_10 =>
  Option.bind (if v_10.write = some 92 then frame_writer_delta'4 k f_1 ([v_3, v_4, v_5] : (List UInt8)) else if v_10.write = some 94 then frame_writer_event k f_1 ([v_3, v_4, v_5] : (List UInt8)) else if v_10.write = some 96 then frame_writer_have k f_1 ([v_3, v_4, v_5] : (List UInt8)) else if v_10.write = some 98 then frame_writer_known k f_1 ([v_3, v_4, v_5] : (List UInt8)) else if v_10.write = some 100 then frame_writer_root k f_1 ([v_3, v_4, v_5] : (List UInt8)) else if v_10.write = some 102 then frame_writer_leaves k f_1 ([v_3, v_4, v_5] : (List UInt8)) else if v_10.write = some 104 then frame_writer_buckets k f_1 ([v_3, v_4, v_5] : (List UInt8)) else none) fun x_11 =>
  some x_11
 ) fun b_14 =>
  Option.bind (crc_Sum k ([b_14] : (List (List UInt8)))) fun v_17 =>
  lt1 ((UN.to v_17 : UInt64)) fun v_18 =>
  Option.bind (wire_Put k v_18 (4 : Int)) fun (v_19, v_20) =>
  Option.bind (frame_writer_put'3 k v_19 v_20 b_14) fun x_23 =>
  some x_23

def frame_Bytes'4 (k : Nat) (f_1 : api_Frame) : Option (((List UInt8) × Int)) :=
 Option.bind (frame_May k f_1) fun v_3 =>
 lt1 ((!v_3)) fun v_4 =>
 if v_4 = true then
  some (([] : (List UInt8)), (2 : Int))
 else
  Option.bind (frame_bytes'4 k f_1) fun v_5 =>
  some (v_5, (0 : Int))

def slices_Clonebyte_byte (k : Nat) (s_1 : (List UInt8)) : Option (((List UInt8))) :=
 Option.bind (apL 1 ([] : (List UInt8)) s_1) fun x_3 =>
 some x_3

def wire_Read (k : Nat) (b_1 : (List UInt8)) : Option (((List UInt8))) :=
 Option.bind (slices_Clonebyte_byte k b_1) fun v_2 =>
 some v_2

def wire_Reader_Failed (k : Nat) (is_1 : Bool) (made_2 : Bool) (x_4 : (List UInt8)) : Option ((Bool)) :=
 Option.bind (
  lt1 ((!is_1)) fun v_7 =>
  some v_7
 ) fun x_8 =>
  some x_8

def wire_Reader_take (k : Nat) (n_1 : Int) (is_2 : Bool) (made_3 : Bool) (x_5 : (List UInt8)) : Option (((List UInt8) × Bool × (List UInt8) × Bool × Bool)) :=
 Option.bind (wire_Reader_Failed k is_2 made_3 x_5) fun v_8 =>
 if v_8 = true then
  some (([] : (List UInt8)), false, x_5, is_2, made_3)
 else
  Option.bind (
   lt1 (decide (n_1 < (0 : Int))) fun v_9 =>
   if v_9 = true then
    some true
   else
    lt1 (decide (n_1 > (List.length x_5 : Int))) fun v_10 =>
    some v_10
  ) fun x_11 =>
   if x_11 = true then
    some (([] : (List UInt8)), false, ([] : (List UInt8)), false, true)
   else
    Option.bind (subL x_5 (0) n_1) fun v_12 =>
    Option.bind (subL x_5 n_1 (List.length x_5 : Int)) fun v_13 =>
    some (v_12, true, v_13, is_2, made_3)

def wire_Get.b1 (k : Nat) (b_1 : (List UInt8)) (n_6 : UInt64) (x_7 : Int) : Option ((UInt64 × Int) ⊕ ((UInt64))) :=
 lt1 (decide (x_7 < (List.length b_1 : Int))) fun v_8 =>
 if v_8 = true then
  Option.bind (idxL b_1 x_7) fun v_9 =>
  lt1 (UN.shl n_6 (UN.toN (8 : UInt64))) fun v_10 =>
  lt1 ((UN.to v_9 : UInt64)) fun v_11 =>
  lt1 ((v_10 ||| v_11)) fun v_12 =>
  lt1 (w64 (x_7 + (1 : Int))) fun v_13 =>
  some (.inl (v_12, v_13))
 else
  some (.inr n_6)

def wire_Get (k : Nat) (b_1 : (List UInt8)) : Option ((UInt64 × Int)) :=
 Option.bind (
  lt1 (decide ((List.length b_1 : Int) < (1 : Int))) fun v_2 =>
  lt1 (decide ((List.length b_1 : Int) > (8 : Int))) fun v_3 =>
  lt1 (bif v_2 then true else v_3) fun v_4 =>
  some v_4
 ) fun x_5 =>
  if x_5 = true then
   some ((0 : UInt64), (2 : Int))
  else
   Option.bind (
    loopO (fun s => wire_Get.b1 k b_1 s.1 s.2) k ((0 : UInt64), (0 : Int))
   ) fun n_14 =>
    some (n_14, (0 : Int))

def wire_Reader_Number (k : Nat) (size_1 : Int) (is_2 : Bool) (made_3 : Bool) (x_5 : (List UInt8)) : Option ((UInt64 × wire_Reader)) :=
 Option.bind (
  Option.bind (
   lt1 (decide (size_1 < (1 : Int))) fun v_8 =>
   lt1 (decide (size_1 > (8 : Int))) fun v_9 =>
   lt1 (bif v_8 then true else v_9) fun v_10 =>
   some v_10
  ) fun x_11 =>
   if x_11 = true then
    some (-1 : Int)
   else
    some size_1
 ) fun size_12 =>
  Option.bind (wire_Reader_take k size_12 is_2 made_3 x_5) fun (v_13, v_14, x_15, x_16, x_17) =>
  Option.bind (wire_Get k v_13) fun (v_18, v_19) =>
  some (v_18, (wire_Reader.mk x_15 x_16 x_17))

def wire_Reader_Failed'2 (k : Nat) (r_1 : wire_Reader) : Option ((Bool)) :=
 Option.bind (
  lt1 ((!r_1.is)) fun v_3 =>
  some v_3
 ) fun x_4 =>
  some x_4

def wire_Reader_take'2 (k : Nat) (n_1 : Int) (r_2 : wire_Reader) : Option (((List UInt8) × Bool × wire_Reader)) :=
 Option.bind (wire_Reader_Failed'2 k r_2) fun v_4 =>
 if v_4 = true then
  some (([] : (List UInt8)), false, r_2)
 else
  Option.bind (
   lt1 (decide (n_1 < (0 : Int))) fun v_5 =>
   if v_5 = true then
    some true
   else
    lt1 (decide (n_1 > (List.length r_2.rest : Int))) fun v_6 =>
    some v_6
  ) fun x_7 =>
   if x_7 = true then
    some (([] : (List UInt8)), false, (wire_Reader.mk ([] : (List UInt8)) false true))
   else
    Option.bind (subL r_2.rest (0) n_1) fun v_8 =>
    Option.bind (subL r_2.rest n_1 (List.length r_2.rest : Int)) fun v_9 =>
    lt1 ({ r_2 with rest := v_9 }) fun x_10 =>
    some (v_8, true, x_10)

def wire_Reader_Number'2 (k : Nat) (size_1 : Int) (r_2 : wire_Reader) : Option ((UInt64 × wire_Reader)) :=
 Option.bind (
  Option.bind (
   lt1 (decide (size_1 < (1 : Int))) fun v_4 =>
   lt1 (decide (size_1 > (8 : Int))) fun v_5 =>
   lt1 (bif v_4 then true else v_5) fun v_6 =>
   some v_6
  ) fun x_7 =>
   if x_7 = true then
    some (-1 : Int)
   else
    some size_1
 ) fun size_8 =>
  Option.bind (wire_Reader_take'2 k size_8 r_2) fun (v_9, v_10, x_11) =>
  Option.bind (wire_Get k v_9) fun (v_12, v_13) =>
  some (v_12, x_11)

def frame_Of (k : Nat) : Option ((Unit)) :=
 Option.bind (wire_Read k ([] : (List UInt8))) fun v_2 =>
 Option.bind (wire_Reader_Number k (1 : Int) true true ([] : (List UInt8))) fun (v_7, x_8) =>
 lt1 (w64 (UN.toN (0 : UInt64) : Int)) fun v_9 =>
 Option.bind (wire_Reader_Number'2 k (1 : Int) (wire_Reader.mk ([] : (List UInt8)) false true)) fun (v_10, x_11) =>
 lt1 (w64 (UN.toN (0 : UInt64) : Int)) fun v_12 =>
 Option.bind (wire_Reader_Number'2 k (1 : Int) (wire_Reader.mk ([] : (List UInt8)) false true)) fun (v_13, x_14) =>
 lt1 (w64 (UN.toN (0 : UInt64) : Int)) fun v_15 =>
 Option.bind (
  Option.bind (frame_forms k) fun v_16 =>
  Option.bind (mgetC (some (([((1 : Int), (frame_form.mk (some 92 : Option Nat) (some 93 : Option Nat))), ((2 : Int), (frame_form.mk (some 94 : Option Nat) (some 95 : Option Nat))), ((3 : Int), (frame_form.mk (some 96 : Option Nat) (some 97 : Option Nat))), ((4 : Int), (frame_form.mk (some 98 : Option Nat) (some 99 : Option Nat))), ((5 : Int), (frame_form.mk (some 100 : Option Nat) (some 101 : Option Nat))), ((6 : Int), (frame_form.mk (some 102 : Option Nat) (some 103 : Option Nat))), ((7 : Int), (frame_form.mk (some 104 : Option Nat) (some 105 : Option Nat)))] : (List (Int × frame_form))))) (0 : Int) (frame_form.mk (none : Option Nat) (none : Option Nat))) fun (v_18, is_19) =>
  some ()
 ) fun _ =>
  Option.bind (
   Option.bind (frame_May k (api_Frame.mk (0 : Int) (0 : Int) (0 : Int) ([] : (List api_Item)) (api_Event.mk (api_Dot.mk (0 : Int) (0 : UInt64)) ([] : (List UInt8)) ([] : (List UInt8)) (Vector.replicate 16 (0 : UInt64)) ([] : (List api_Dest))) (Vector.replicate 16 (0 : UInt64)) (Vector.replicate 16 (0 : UInt64)) ([] : (List api_Dot)) ([] : (List api_Dot)) (Vector.replicate 32 (0 : UInt8)) ([] : (List (Vector UInt8 32))) ([] : (List Int)) false)) fun v_21 =>
   some ()
  ) fun _ =>
   some ()

def law11_num (k : Nat) (e_1 : Int) : Option ((Unit)) :=
 some ()

def frame_Name (k : Nat) (k_1 : Int) : Option (((List UInt8))) :=
 Option.bind (
  lt1 (decide (k_1 < (1 : Int))) fun v_2 =>
  lt1 (decide (k_1 ≥ (List.length ([([] : List UInt8), ([100, 101, 108, 116, 97] : List UInt8), ([101, 118, 101, 110, 116] : List UInt8), ([104, 97, 118, 101] : List UInt8), ([107, 110, 111, 119, 110] : List UInt8), ([114, 111, 111, 116] : List UInt8), ([108, 101, 97, 118, 101, 115] : List UInt8), ([105, 116, 101, 109, 115] : List UInt8)] : (List (List UInt8))) : Int))) fun v_3 =>
  lt1 (bif v_2 then true else v_3) fun v_4 =>
  some v_4
 ) fun x_5 =>
  if x_5 = true then
   some ([] : List UInt8)
  else
   Option.bind (idxL ([([] : List UInt8), ([100, 101, 108, 116, 97] : List UInt8), ([101, 118, 101, 110, 116] : List UInt8), ([104, 97, 118, 101] : List UInt8), ([107, 110, 111, 119, 110] : List UInt8), ([114, 111, 111, 116] : List UInt8), ([108, 101, 97, 118, 101, 115] : List UInt8), ([105, 116, 101, 109, 115] : List UInt8)] : (List (List UInt8))) k_1) fun v_6 =>
   some v_6

def law11_known'4 (k : Nat) : Option ((Bool)) :=
 Option.bind (frame_Bytes'4 k (api_Frame.mk (3 : Int) (1 : Int) (2 : Int) ([] : (List api_Item)) (api_Event.mk (api_Dot.mk (0 : Int) (0 : UInt64)) ([] : (List UInt8)) ([] : (List UInt8)) (Vector.replicate 16 (0 : UInt64)) ([] : (List api_Dest))) (Vector.replicate 16 (0 : UInt64)) (Vector.replicate 16 (0 : UInt64)) ([] : (List api_Dot)) ([] : (List api_Dot)) (Vector.replicate 32 (0 : UInt8)) ([] : (List (Vector UInt8 32))) ([] : (List Int)) false)) fun (v_1, v_2) =>
 Option.bind (frame_Of k) fun _ =>
 Option.bind (
  Option.bind (law11_num k v_2) fun _ =>
  lt1 ((v_2 == (0 : Int))) fun v_8 =>
  if v_8 = true then
   lt1 (((List.length v_1 : Int) == (135 : Int))) fun v_9 =>
   if v_9 = true then
    Option.bind (inO v_1 (0 : Int)) fun i_10 =>
    Option.bind (v_1[i_10]?) fun v_11 =>
    lt1 ((v_11 == (3 : UInt8))) fun v_12 =>
    if v_12 = true then
     Option.bind (inO v_1 (1 : Int)) fun i_13 =>
     Option.bind (v_1[i_13]?) fun v_14 =>
     lt1 ((v_14 == (1 : UInt8))) fun v_15 =>
     if v_15 = true then
      Option.bind (inO v_1 (2 : Int)) fun i_16 =>
      Option.bind (v_1[i_16]?) fun v_17 =>
      lt1 ((v_17 == (2 : UInt8))) fun v_18 =>
      Option.bind (if v_18 = true then frame_May k (api_Frame.mk (5 : Int) (1 : Int) (1 : Int) ([] : (List api_Item)) (api_Event.mk (api_Dot.mk (0 : Int) (0 : UInt64)) ([] : (List UInt8)) ([] : (List UInt8)) (Vector.replicate 16 (0 : UInt64)) ([] : (List api_Dest))) (Vector.replicate 16 (0 : UInt64)) (Vector.replicate 16 (0 : UInt64)) ([] : (List api_Dot)) ([] : (List api_Dot)) (Vector.replicate 32 (0 : UInt8)) ([] : (List (Vector UInt8 32))) ([] : (List Int)) false) else some default) fun v_19 =>
      lt1 ((!v_19)) fun v_20 =>
      lt1 (bif v_18 then v_20 else false) fun v_21 =>
      Option.bind (if v_21 = true then law11_num k (4 : Int) else some default) fun _ =>
      lt1 (bif v_21 then true else false) fun v_23 =>
      Option.bind (if v_23 = true then frame_Name k (7 : Int) else some default) fun v_24 =>
      lt1 ((v_24 == ([105, 116, 101, 109, 115] : List UInt8))) fun v_25 =>
      lt1 (bif v_23 then v_25 else false) fun v_26 =>
      some v_26
     else
      some false
    else
     some false
   else
    some false
  else
   some false
 ) fun x_27 =>
  some x_27

def ref09_MayDot (k : Nat) (d_1 : api_Dot) : Option ((Bool)) :=
 Option.bind (
  lt1 (decide (d_1.Region ≥ (1 : Int))) fun v_3 =>
  if v_3 = true then
   lt1 (decide (d_1.Region ≤ (16 : Int))) fun v_4 =>
   if v_4 = true then
    lt1 (decide ((1 : UInt64) ≤ d_1.Count)) fun v_5 =>
    if v_5 = true then
     lt1 (decide (d_1.Count ≤ (4611686018427387904 : UInt64))) fun v_6 =>
     some v_6
    else
     some false
   else
    some false
  else
   some false
 ) fun x_7 =>
  some x_7

def ref09_MayName (k : Nat) (s_1 : (List UInt8)) : Option ((Bool)) :=
 Option.bind (
  lt1 (decide ((List.length s_1 : Int) > (0 : Int))) fun v_2 =>
  lt1 (decide ((List.length s_1 : Int) ≤ (32 : Int))) fun v_3 =>
  lt1 (bif v_2 then v_3 else false) fun v_4 =>
  some v_4
 ) fun x_5 =>
  some x_5

def ref11_MayItem (k : Nat) (i_1 : api_Item) : Option ((Bool)) :=
 Option.bind (ref09_MayDot k i_1.Dot) fun v_3 =>
 lt1 ((!v_3)) fun v_4 =>
 if v_4 = true then
  some false
 else
  if i_1.Gone = true then
   Option.bind (
    lt1 ((i_1.Key.Topic == ([] : List UInt8))) fun v_5 =>
    if v_5 = true then
     lt1 ((i_1.Key.Device == ([] : List UInt8))) fun v_6 =>
     some v_6
    else
     some false
   ) fun x_7 =>
    some x_7
  else
   Option.bind (
    Option.bind (ref09_MayName k i_1.Key.Topic) fun v_8 =>
    if v_8 = true then
     Option.bind (ref09_MayName k i_1.Key.Device) fun v_9 =>
     some v_9
    else
     some false
   ) fun x_10 =>
    some x_10

def frame_ItemBytes_1 (k : Nat) (i_1 : api_Item) : Option ((Bool)) :=
 Option.bind (frame_MayItem k i_1) fun v_3 =>
 lt1 ((!v_3)) fun v_4 =>
 some v_4

def slices_IndexFuncapi_Item_api_Item'2.b1 (k : Nat) (s_1 : (List api_Item)) (x_2 : Int) : Option ((Int) ⊕ ((Unit) ⊕ ((Int)))) :=
 lt1 (decide (x_2 < (List.length s_1 : Int))) fun v_3 =>
 if v_3 = true then
  Option.bind (idxL s_1 x_2) fun v_4 =>
  Option.bind (frame_ItemBytes_1 k v_4) fun v_5 =>
  if v_5 = true then
   some (.inr (.inr x_2))
  else
   lt1 (w64 (x_2 + (1 : Int))) fun v_6 =>
   some (.inl v_6)
 else
  some (.inr (.inl ()))

def slices_IndexFuncapi_Item_api_Item'2 (k : Nat) (s_1 : (List api_Item)) : Option ((Int)) :=
 Option.bind (
  Option.bind (loopO (fun s => slices_IndexFuncapi_Item_api_Item'2.b1 k s_1 s) k (0 : Int)) fun t => match t with
  | (.inl _) =>
   some (.inl ())
  | (.inr q) =>
   some (.inr q)
  : Option ((Unit) ⊕ ((Int)))) fun t => match t with
 | (.inl _) =>
  some (-1 : Int)
 | (.inr q) =>
  some q

def slices_ContainsFuncapi_Item_api_Item'2 (k : Nat) (s_1 : (List api_Item)) : Option ((Bool)) :=
 Option.bind (slices_IndexFuncapi_Item_api_Item'2 k s_1) fun v_2 =>
 lt1 (decide (v_2 ≥ (0 : Int))) fun v_3 =>
 some v_3

def frame_writer_put'4 (k : Nat) (b_1 : (List UInt8)) (v_2 : Int) : Option (((List UInt8))) :=
 Option.bind (apL 1 ([] : (List UInt8)) b_1) fun v_4 =>
 some v_4

def frame_writer_items'4.b1 (k : Nat) (l_1 : (List api_Item)) (b_11 : (List UInt8)) (x_12 : Int) : Option (((List UInt8) × Int) ⊕ (((List UInt8)))) :=
 lt1 (decide (x_12 < (List.length l_1 : Int))) fun v_15 =>
 if v_15 = true then
  Option.bind (
   Option.bind (idxL l_1 x_12) fun v_16 =>
   Option.bind (wire_Dot k v_16.Dot) fun (v_18, v_19) =>
   Option.bind (frame_writer_put'2 k v_18 v_19 b_11) fun x_22 =>
   Option.bind (frame_writer_flag k v_16.Gone x_22) fun x_25 =>
   lt1 ((!v_16.Gone)) fun v_28 =>
   if v_28 = true then
    Option.bind (wire_Blob k v_16.Key.Topic) fun (v_29, v_30) =>
    Option.bind (frame_writer_put'2 k v_29 v_30 x_25) fun x_33 =>
    Option.bind (wire_Blob k v_16.Key.Device) fun (v_36, v_37) =>
    Option.bind (frame_writer_put'2 k v_36 v_37 x_33) fun x_40 =>
    some x_40
   else
    some x_25
  ) fun b_43 =>
   lt1 (w64 (x_12 + (1 : Int))) fun v_46 =>
   some (.inl (b_43, v_46))
 else
  some (.inr b_11)

def frame_writer_items'4 (k : Nat) (l_1 : (List api_Item)) : Option (((List UInt8))) :=
 lt1 ((UN.ofI (List.length l_1 : Int) : UInt64)) fun v_3 =>
 Option.bind (wire_Put k v_3 (2 : Int)) fun (v_4, v_5) =>
 Option.bind (frame_writer_put'4 k v_4 v_5) fun x_8 =>
 loopO (fun s => frame_writer_items'4.b1 k l_1 s.1 s.2) k (x_8, (0 : Int))

def frame_ItemBytes (k : Nat) (l_1 : (List api_Item)) : Option (((List UInt8))) :=
 Option.bind (
  lt1 (decide ((List.length l_1 : Int) > (65535 : Int))) fun v_2 =>
  Option.bind (if (!v_2) = true then slices_ContainsFuncapi_Item_api_Item'2 k l_1 else some default) fun v_3 =>
  lt1 (bif v_2 then true else v_3) fun v_4 =>
  some v_4
 ) fun x_5 =>
  if x_5 = true then
   some ([] : (List UInt8))
  else
   Option.bind (frame_writer_items'4 k l_1) fun x_7 =>
   some x_7

def ref01_Put.b1 (k : Nat) (n_6 : UInt64) (b_7 : (List UInt8)) (i_8 : Int) : Option ((UInt64 × (List UInt8) × Int) ⊕ (((List UInt8)))) :=
 lt1 (decide (i_8 ≥ (0 : Int))) fun v_9 =>
 if v_9 = true then
  Option.bind (modU n_6 (256 : UInt64)) fun v_10 =>
  lt1 ((UN.to v_10 : UInt8)) fun v_11 =>
  Option.bind (inO b_7 i_8) fun i_12 =>
  Option.bind (setO' b_7 i_12 v_11) fun b_13 =>
  Option.bind (divU n_6 (256 : UInt64)) fun v_14 =>
  lt1 (w64 (i_8 - (1 : Int))) fun v_15 =>
  some (.inl (v_14, b_13, v_15))
 else
  some (.inr b_7)

def ref01_Put (k : Nat) (n_1 : UInt64) (size_2 : Int) : Option (((List UInt8))) :=
 Option.bind (mkL 1 size_2 (0 : UInt8)) fun v_3 =>
 Option.bind (
  lt1 (w64 (size_2 - (1 : Int))) fun v_5 =>
  loopO (fun s => ref01_Put.b1 k s.1 s.2.1 s.2.2) k (n_1, v_3, v_5)
 ) fun b_16 =>
  some b_16

def ref01_Dot (k : Nat) (d_1 : api_Dot) : Option (((List UInt8))) :=
 lt1 ((UN.ofI d_1.Region : UInt64)) fun v_3 =>
 Option.bind (ref01_Put k v_3 (1 : Int)) fun v_4 =>
 Option.bind (ref01_Put k d_1.Count (8 : Int)) fun v_6 =>
 Option.bind (apL 1 v_4 v_6) fun x_8 =>
 some x_8

def ref11_flag (k : Nat) (is_1 : Bool) : Option (((List UInt8))) :=
 if is_1 = true then
  some ([(1 : UInt8)] : (List UInt8))
 else
  some ([(0 : UInt8)] : (List UInt8))

def ref01_Blob (k : Nat) (b_1 : (List UInt8)) : Option (((List UInt8))) :=
 lt1 ((UN.ofI (List.length b_1 : Int) : UInt64)) fun v_2 =>
 Option.bind (ref01_Put k v_2 (2 : Int)) fun v_3 =>
 Option.bind (apL 1 v_3 b_1) fun x_5 =>
 some x_5

def ref01_Join.b1 (k : Nat) (l_1 : (List (List UInt8))) (o_2 : (List UInt8)) (i_3 : Int) : Option (((List UInt8) × Int) ⊕ (((List UInt8)))) :=
 lt1 (decide (i_3 < (List.length l_1 : Int))) fun v_6 =>
 if v_6 = true then
  Option.bind (idxL l_1 i_3) fun v_7 =>
  Option.bind (apL 1 o_2 v_7) fun o_8 =>
  lt1 (w64 (i_3 + (1 : Int))) fun v_11 =>
  some (.inl (o_8, v_11))
 else
  some (.inr o_2)

def ref01_Join (k : Nat) (l_1 : (List (List UInt8))) : Option (((List UInt8))) :=
 Option.bind (
  loopO (fun s => ref01_Join.b1 k l_1 s.1 s.2) k (([] : (List UInt8)), (0 : Int))
 ) fun o_12 =>
  some o_12

def ref11_Items.b1 (k : Nat) (l_1 : (List api_Item)) (o_6 : (List (List UInt8))) (i_7 : Int) : Option (((List (List UInt8)) × Int) ⊕ (((List (List UInt8))))) :=
 lt1 (decide (i_7 < (List.length l_1 : Int))) fun v_10 =>
 if v_10 = true then
  Option.bind (
   Option.bind (idxL l_1 i_7) fun v_11 =>
   Option.bind (ref01_Dot k v_11.Dot) fun v_12 =>
   Option.bind (idxL l_1 i_7) fun v_15 =>
   Option.bind (ref11_flag k v_15.Gone) fun v_16 =>
   Option.bind (apL 24 o_6 ([v_12, v_16] : (List (List UInt8)))) fun o_17 =>
   Option.bind (idxL l_1 i_7) fun v_20 =>
   lt1 ((!v_20.Gone)) fun v_21 =>
   if v_21 = true then
    Option.bind (idxL l_1 i_7) fun v_22 =>
    Option.bind (ref01_Blob k v_22.Key.Topic) fun v_23 =>
    Option.bind (idxL l_1 i_7) fun v_26 =>
    Option.bind (ref01_Blob k v_26.Key.Device) fun v_27 =>
    Option.bind (apL 24 o_17 ([v_23, v_27] : (List (List UInt8)))) fun o_30 =>
    some o_30
   else
    some o_17
  ) fun o_33 =>
   lt1 (w64 (i_7 + (1 : Int))) fun v_36 =>
   some (.inl (o_33, v_36))
 else
  some (.inr o_6)

def ref11_Items (k : Nat) (l_1 : (List api_Item)) : Option (((List UInt8))) :=
 lt1 ((UN.ofI (List.length l_1 : Int) : UInt64)) fun v_2 =>
 Option.bind (ref01_Put k v_2 (2 : Int)) fun v_3 =>
 Option.bind (
  loopO (fun s => ref11_Items.b1 k l_1 s.1 s.2) k (([v_3] : (List (List UInt8))), (0 : Int))
 ) fun o_37 =>
  Option.bind (ref01_Join k o_37) fun v_40 =>
  some v_40

def ref11_sameItems.b1 (k : Nat) (a_1 : (List api_Item)) (b_2 : (List api_Item)) (i_4 : Int) : Option ((Int) ⊕ ((Unit) ⊕ ((Bool)))) :=
 lt1 (decide (i_4 < (List.length a_1 : Int))) fun v_5 =>
 if v_5 = true then
  Option.bind (idxL a_1 i_4) fun v_6 =>
  Option.bind (idxL b_2 i_4) fun v_7 =>
  lt1 ((!(eq_api_Item v_6 v_7))) fun v_8 =>
  if v_8 = true then
   some (.inr (.inr false))
  else
   lt1 (w64 (i_4 + (1 : Int))) fun v_9 =>
   some (.inl v_9)
 else
  some (.inr (.inl ()))

def ref11_sameItems (k : Nat) (a_1 : (List api_Item)) (b_2 : (List api_Item)) : Option ((Bool)) :=
 lt1 (((List.length a_1 : Int) != (List.length b_2 : Int))) fun v_3 =>
 if v_3 = true then
  some false
 else
  Option.bind (
   Option.bind (loopO (fun s => ref11_sameItems.b1 k a_1 b_2 s) k (0 : Int)) fun t => match t with
   | (.inl _) =>
    some (.inl ())
   | (.inr q) =>
    some (.inr q)
   : Option ((Unit) ⊕ ((Bool)))) fun t => match t with
  | (.inl _) =>
   some true
  | (.inr q) =>
   some q

def ref11_sameDots.b1 (k : Nat) (a_1 : (List api_Dot)) (b_2 : (List api_Dot)) (i_4 : Int) : Option ((Int) ⊕ ((Unit) ⊕ ((Bool)))) :=
 lt1 (decide (i_4 < (List.length a_1 : Int))) fun v_5 =>
 if v_5 = true then
  Option.bind (idxL a_1 i_4) fun v_6 =>
  Option.bind (idxL b_2 i_4) fun v_7 =>
  lt1 ((!(eq_api_Dot v_6 v_7))) fun v_8 =>
  if v_8 = true then
   some (.inr (.inr false))
  else
   lt1 (w64 (i_4 + (1 : Int))) fun v_9 =>
   some (.inl v_9)
 else
  some (.inr (.inl ()))

def ref11_sameDots (k : Nat) (a_1 : (List api_Dot)) (b_2 : (List api_Dot)) : Option ((Bool)) :=
 lt1 (((List.length a_1 : Int) != (List.length b_2 : Int))) fun v_3 =>
 if v_3 = true then
  some false
 else
  Option.bind (
   Option.bind (loopO (fun s => ref11_sameDots.b1 k a_1 b_2 s) k (0 : Int)) fun t => match t with
   | (.inl _) =>
    some (.inl ())
   | (.inr q) =>
    some (.inr q)
   : Option ((Unit) ⊕ ((Bool)))) fun t => match t with
  | (.inl _) =>
   some true
  | (.inr q) =>
   some q

def ref09_Same.b1 (k : Nat) (a_1 : api_Event) (b_2 : api_Event) (i_11 : Int) : Option ((Int) ⊕ ((Unit) ⊕ ((Bool)))) :=
 lt1 (decide (i_11 < (List.length a_1.To : Int))) fun v_12 =>
 if v_12 = true then
  Option.bind (idxL a_1.To i_11) fun v_13 =>
  Option.bind (idxL b_2.To i_11) fun v_14 =>
  lt1 ((!(eq_api_Dest v_13 v_14))) fun v_15 =>
  if v_15 = true then
   some (.inr (.inr false))
  else
   lt1 (w64 (i_11 + (1 : Int))) fun v_16 =>
   some (.inl v_16)
 else
  some (.inr (.inl ()))

def ref09_Same (k : Nat) (a_1 : api_Event) (b_2 : api_Event) : Option ((Bool)) :=
 Option.bind (
  lt1 ((!(eq_api_Dot a_1.ID b_2.ID))) fun v_5 =>
  if v_5 = true then
   some true
  else
   lt1 ((a_1.Topic != b_2.Topic)) fun v_6 =>
   if v_6 = true then
    some true
   else
    lt1 ((a_1.Payload != b_2.Payload)) fun v_7 =>
    if v_7 = true then
     some true
    else
     lt1 ((!((eqV (fun x y => x == y)) a_1.Past b_2.Past))) fun v_8 =>
     if v_8 = true then
      some true
     else
      lt1 (((List.length a_1.To : Int) != (List.length b_2.To : Int))) fun v_9 =>
      some v_9
 ) fun x_10 =>
  if x_10 = true then
   some false
  else
   Option.bind (
    Option.bind (loopO (fun s => ref09_Same.b1 k a_1 b_2 s) k (0 : Int)) fun t => match t with
    | (.inl _) =>
     some (.inl ())
    | (.inr q) =>
     some (.inr q)
    : Option ((Unit) ⊕ ((Bool)))) fun t => match t with
   | (.inl _) =>
    some true
   | (.inr q) =>
    some q

def ref11_Same.b1 (k : Nat) (t_1 : api_Frame) (a_2 : api_Frame) (x_8 : Int) : Option ((Int) ⊕ ((Unit) ⊕ ((Bool)))) :=
 lt1 (decide (x_8 < (List.length t_1.Leaves : Int))) fun v_9 =>
 if v_9 = true then
  Option.bind (idxL t_1.Leaves x_8) fun v_10 =>
  Option.bind (idxL a_2.Leaves x_8) fun v_11 =>
  lt1 ((!((eqV (fun x y => x == y)) v_10 v_11))) fun v_12 =>
  if v_12 = true then
   some (.inr (.inr false))
  else
   lt1 (w64 (x_8 + (1 : Int))) fun v_13 =>
   some (.inl v_13)
 else
  some (.inr (.inl ()))

def ref11_Same.b2 (k : Nat) (t_1 : api_Frame) (a_2 : api_Frame) (x_14 : Int) : Option ((Int) ⊕ ((Unit) ⊕ ((Bool)))) :=
 lt1 (decide (x_14 < (List.length t_1.Buckets : Int))) fun v_15 =>
 if v_15 = true then
  Option.bind (idxL t_1.Buckets x_14) fun v_16 =>
  Option.bind (idxL a_2.Buckets x_14) fun v_17 =>
  lt1 ((v_16 != v_17)) fun v_18 =>
  if v_18 = true then
   some (.inr (.inr false))
  else
   lt1 (w64 (x_14 + (1 : Int))) fun v_19 =>
   some (.inl v_19)
 else
  some (.inr (.inl ()))

def ref11_Same (k : Nat) (t_1 : api_Frame) (a_2 : api_Frame) : Option ((Bool)) :=
 Option.bind (
  lt1 (((List.length t_1.Leaves : Int) != (List.length a_2.Leaves : Int))) fun v_5 =>
  if v_5 = true then
   some true
  else
   lt1 (((List.length t_1.Buckets : Int) != (List.length a_2.Buckets : Int))) fun v_6 =>
   some v_6
 ) fun x_7 =>
  if x_7 = true then
   some false
  else
   Option.bind (
    Option.bind (loopO (fun s => ref11_Same.b1 k t_1 a_2 s) k (0 : Int)) fun t => match t with
    | (.inl _) =>
     some (.inl ())
    | (.inr q) =>
     some (.inr q)
    : Option ((Unit) ⊕ ((Bool)))) fun t => match t with
   | (.inl _) =>
    Option.bind (
     Option.bind (loopO (fun s => ref11_Same.b2 k t_1 a_2 s) k (0 : Int)) fun t => match t with
     | (.inl _) =>
      some (.inl ())
     | (.inr q) =>
      some (.inr q)
     : Option ((Unit) ⊕ ((Bool)))) fun t => match t with
    | (.inl _) =>
     Option.bind (
      lt1 ((t_1.Kind == a_2.Kind)) fun v_20 =>
      if v_20 = true then
       lt1 ((t_1.From == a_2.From)) fun v_21 =>
       if v_21 = true then
        lt1 ((t_1.To == a_2.To)) fun v_22 =>
        if v_22 = true then
         lt1 (((eqV (fun x y => x == y)) t_1.Past a_2.Past)) fun v_23 =>
         if v_23 = true then
          lt1 (((eqV (fun x y => x == y)) t_1.Seen a_2.Seen)) fun v_24 =>
          if v_24 = true then
           lt1 (((eqV (fun x y => x == y)) t_1.Hash a_2.Hash)) fun v_25 =>
           if v_25 = true then
            lt1 ((t_1.Reply == a_2.Reply)) fun v_26 =>
            if v_26 = true then
             Option.bind (ref11_sameItems k t_1.Items a_2.Items) fun v_27 =>
             if v_27 = true then
              Option.bind (ref11_sameDots k t_1.Extra a_2.Extra) fun v_28 =>
              if v_28 = true then
               Option.bind (ref11_sameDots k t_1.Live a_2.Live) fun v_29 =>
               if v_29 = true then
                Option.bind (ref09_Same k t_1.Event a_2.Event) fun v_30 =>
                some v_30
               else
                some false
              else
               some false
             else
              some false
            else
             some false
           else
            some false
          else
           some false
         else
          some false
        else
         some false
       else
        some false
      else
       some false
     ) fun x_31 =>
      some x_31
    | (.inr q) =>
     some q
   | (.inr q) =>
    some q

def ref11_Name (k : Nat) (k_1 : Int) : Option (((List UInt8))) :=
 Option.bind (
  lt1 (decide (k_1 < (1 : Int))) fun v_2 =>
  lt1 (decide (k_1 > (7 : Int))) fun v_3 =>
  lt1 (bif v_2 then true else v_3) fun v_4 =>
  some v_4
 ) fun x_5 =>
  if x_5 = true then
   some ([] : List UInt8)
  else
   Option.bind (idxL ([([] : List UInt8), ([100, 101, 108, 116, 97] : List UInt8), ([101, 118, 101, 110, 116] : List UInt8), ([104, 97, 118, 101] : List UInt8), ([107, 110, 111, 119, 110] : List UInt8), ([114, 111, 111, 116] : List UInt8), ([108, 101, 97, 118, 101, 115] : List UInt8), ([105, 116, 101, 109, 115] : List UInt8)] : (List (List UInt8))) k_1) fun v_6 =>
   some v_6

def law11_FrameLooks'4.b1 (k : Nat) (a_3 : (List api_Item)) (x_13 : Bool) (x_14 : Int) : Option ((Bool × Int) ⊕ ((Bool) ⊕ ((Bool)))) :=
 lt1 (decide (x_14 < (List.length a_3 : Int))) fun v_15 =>
 if v_15 = true then
  Option.bind (
   Option.bind (idxL a_3 x_14) fun v_16 =>
   Option.bind (frame_MayItem k v_16) fun v_17 =>
   Option.bind (idxL a_3 x_14) fun v_18 =>
   Option.bind (ref11_MayItem k v_18) fun v_19 =>
   lt1 ((v_17 != v_19)) fun v_20 =>
   if v_20 = true then
    some (.inr false)
   else
    Option.bind (if x_13 = true then idxL a_3 x_14 else some default) fun v_21 =>
    Option.bind (if x_13 = true then ref11_MayItem k v_21 else some default) fun v_22 =>
    lt1 (bif x_13 then v_22 else false) fun v_23 =>
    some (.inl v_23)
   : Option ((Bool) ⊕ ((Bool)))) fun t => match t with
  | (.inl x_24) =>
   lt1 (w64 (x_14 + (1 : Int))) fun v_25 =>
   some (.inl (x_24, v_25))
  | (.inr q) =>
   some (.inr (.inr q))
 else
  some (.inr (.inl x_13))

def law11_FrameLooks'4 (k : Nat) (t_1 : api_Frame) (a_2 : api_Frame) (a_3 : (List api_Item)) : Option ((Bool)) :=
 Option.bind (
  Option.bind (ref11_Much k t_1) fun v_6 =>
  Option.bind (if (!v_6) = true then ref11_Much k a_2 else some default) fun v_7 =>
  lt1 (bif v_6 then true else v_7) fun v_8 =>
  Option.bind (if (!v_8) = true then ref11_Long k a_3 else some default) fun v_9 =>
  lt1 (bif v_8 then true else v_9) fun v_10 =>
  some v_10
 ) fun x_11 =>
  if x_11 = true then
   Option.bind (law11_known'4 k) fun v_12 =>
   some v_12
  else
   Option.bind (
    Option.bind (loopO (fun s => law11_FrameLooks'4.b1 k a_3 s.1 s.2) k (true, (0 : Int))) fun t => match t with
    | (.inl x_26) =>
     some (.inl x_26)
    | (.inr q) =>
     some (.inr q)
    : Option ((Bool) ⊕ ((Bool)))) fun t => match t with
   | (.inl x_27) =>
    Option.bind (frame_ItemBytes k a_3) fun v_28 =>
    Option.bind (
     if x_27 = true then
      Option.bind (ref11_Items k a_3) fun v_31 =>
      lt1 ((v_28 != v_31)) fun v_34 =>
      lt1 ((!x_27)) fun v_35 =>
      if v_34 = true then
       some true
      else
       if v_35 = true then
        lt1 (((List.length v_28 : Int) != (0 : Int))) fun v_36 =>
        some v_36
       else
        some false
     else
      lt1 ((!x_27)) fun v_37 =>
      if v_37 = true then
       lt1 (((List.length v_28 : Int) != (0 : Int))) fun v_38 =>
       some v_38
      else
       some false
    ) fun x_39 =>
     if x_39 = true then
      some false
     else
      Option.bind (
       Option.bind (frame_Same k t_1 a_2) fun v_40 =>
       Option.bind (ref11_Same k t_1 a_2) fun v_41 =>
       lt1 ((v_40 == v_41)) fun v_42 =>
       Option.bind (if v_42 = true then frame_Same k t_1 t_1 else some default) fun v_43 =>
       lt1 (bif v_42 then v_43 else false) fun v_44 =>
       if v_44 = true then
        Option.bind (frame_Name k t_1.Kind) fun v_45 =>
        Option.bind (ref11_Name k t_1.Kind) fun v_46 =>
        lt1 ((v_45 == v_46)) fun v_47 =>
        Option.bind (if v_47 = true then law11_known'4 k else some default) fun v_48 =>
        lt1 (bif v_47 then v_48 else false) fun v_49 =>
        some v_49
       else
        some false
      ) fun x_50 =>
       some x_50
   | (.inr q) =>
    some q

end
end Go.Proofs.YtklnihlchhhhlaaGreat
