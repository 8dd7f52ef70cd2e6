/- The functions as plain Lean functions: no program and no memory here. -/
import Derived.Test.YtnadeehdnmgebaaFp
namespace Go.Proofs.Ytnadeehdnmgebaa
open Fw
set_option linter.unusedVariables false
noncomputable section

structure law12_Act where
  Kind : Int
  A : Int
  B : Int
  Bytes : (List UInt8)
  deriving DecidableEq, Inhabited

structure net_pair where
  from_ : Int
  to : Int
  deriving DecidableEq, Inhabited

def eq_net_pair (x y : net_pair) : Bool := ((x.from_ == y.from_) && ((x.to == y.to) && true))
theorem eq_net_pair_iff {x y : net_pair} : eq_net_pair x y = true ↔ x = y := by
  cases x; cases y; simp [eq_net_pair]

structure api_Flight where
  From : Int
  To : Int
  Bytes : (List UInt8)
  deriving DecidableEq, Inhabited

def net_New (k : Nat) (ends_1 : Int) : Option ((Unit) ⊕ (Unit)) :=
 Option.bind (
  lt1 (decide (ends_1 < (1 : Int))) fun v_2 =>
  lt1 (decide (ends_1 > (16 : Int))) fun v_3 =>
  lt1 (bif v_2 then true else v_3) fun v_4 =>
  some v_4
 ) fun x_5 =>
  if x_5 = true then
   some (.inr ())
  else
   some (.inl ())

def law12_much.b1 (k : Nat) (l_1 : (List law12_Act)) (n_2 : Int) (many_3 : Int) (i_4 : Int) : Option ((Int × Int × Int) ⊕ ((Int × Int) ⊕ ((Bool)))) :=
 Option.bind (
  lt1 (decide (i_4 < (List.length l_1 : Int))) fun v_5 =>
  lt1 (decide (i_4 ≤ (60 : Int))) fun v_6 =>
  lt1 (bif v_5 then v_6 else false) fun v_7 =>
  some v_7
 ) fun x_8 =>
  if x_8 = true then
   Option.bind (idxL l_1 i_4) fun v_9 =>
   lt1 (minI (List.length v_9.Bytes : Int) (20001 : Int)) fun v_10 =>
   lt1 (w64 (n_2 + v_10)) fun v_11 =>
   Option.bind (
    Option.bind (idxL l_1 i_4) fun v_12 =>
    lt1 ((v_12.Kind == (6 : Int))) fun v_13 =>
    if v_13 = true then
     lt1 (w64 (many_3 + (1 : Int))) fun v_14 =>
     some v_14
    else
     some many_3
   ) fun many_15 =>
    Option.bind (
     Option.bind (idxL l_1 i_4) fun v_16 =>
     lt1 ((v_16.Kind == (6 : Int))) fun v_17 =>
     Option.bind (if v_17 = true then idxL l_1 i_4 else some default) fun v_18 =>
     lt1 (decide ((List.length v_18.Bytes : Int) > (100 : Int))) fun v_19 =>
     lt1 (bif v_17 then v_19 else false) fun v_20 =>
     some v_20
    ) fun x_21 =>
     if x_21 = true then
      some (.inr (.inr true))
     else
      lt1 (w64 (i_4 + (1 : Int))) fun v_22 =>
      some (.inl (v_11, many_15, v_22))
  else
   some (.inr (.inl (n_2, many_3)))

def law12_much (k : Nat) (l_1 : (List law12_Act)) : Option ((Bool)) :=
 Option.bind (
  Option.bind (loopO (fun s => law12_much.b1 k l_1 s.1 s.2.1 s.2.2) k ((0 : Int), (0 : Int), (0 : Int))) fun t => match t with
  | (.inl (n_23, many_24)) =>
   some (.inl (n_23, many_24))
  | (.inr q) =>
   some (.inr q)
  : Option ((Int × Int) ⊕ ((Bool)))) fun t => match t with
 | (.inl (n_25, many_26)) =>
  Option.bind (
   lt1 (decide (n_25 > (20000 : Int))) fun v_27 =>
   lt1 (decide (many_26 > (3 : Int))) fun v_28 =>
   lt1 (bif v_27 then true else v_28) fun v_29 =>
   lt1 (decide ((List.length l_1 : Int) > (60 : Int))) fun v_30 =>
   lt1 (bif v_29 then true else v_30) fun v_31 =>
   some v_31
  ) fun x_32 =>
   some x_32
 | (.inr q) =>
  some q

def law12_num (k : Nat) (e_1 : Int) : Option ((Unit)) :=
 some ()

def net_Net_there (k : Nat) (ends_1 : Int) (lost_2 : Int) (x_4 : (List (net_pair × (List (List UInt8))))) : Option ((Unit)) :=
 Option.bind (
  some ()
 ) fun _ =>
  some ()

def slices_Clonebyte_byte (k : Nat) (s_1 : (List UInt8)) : Option (((List UInt8))) :=
 Option.bind (apL 1 ([] : (List UInt8)) s_1) fun x_3 =>
 some x_3

def net_Net_lay (k : Nat) (p_1 : net_pair) (b_2 : (List UInt8)) (ends_3 : Int) (lost_4 : Int) (x_6 : (List (net_pair × (List (List UInt8))))) : Option (((List (net_pair × (List (List UInt8)))))) :=
 lt1 (Option.getD (mgetO (some x_6) p_1) ([] : (List (List UInt8)))) fun v_9 =>
 Option.bind (subL v_9 (0) (List.length v_9 : Int)) fun v_10 =>
 Option.bind (slices_Clonebyte_byte k b_2) fun v_11 =>
 Option.bind (apL 24 v_10 ([v_11] : (List (List UInt8)))) fun v_14 =>
 lt1 (mput p_1 v_14 x_6) fun x_15 =>
 some x_15

def net_Net_Send (k : Nat) (a_1 : Int) (a_2 : Int) (a_3 : (List UInt8)) (ends_4 : Int) (lost_5 : Int) (x_7 : (List (net_pair × (List (List UInt8))))) : Option ((Int × (List (net_pair × (List (List UInt8)))) × Int)) :=
 Option.bind (net_Net_there k ends_4 lost_5 x_7) fun _ =>
 Option.bind (
  lt1 (decide (a_1 < (1 : Int))) fun v_10 =>
  if v_10 = true then
   some true
  else
   lt1 (decide (a_1 > ends_4)) fun v_11 =>
   lt1 (decide (a_2 < (1 : Int))) fun v_12 =>
   lt1 (bif v_11 then true else v_12) fun v_13 =>
   if v_13 = true then
    some true
   else
    lt1 (decide (a_2 > ends_4)) fun v_14 =>
    lt1 ((a_1 == a_2)) fun v_15 =>
    lt1 (bif v_14 then true else v_15) fun v_16 =>
    lt1 (decide ((List.length a_3 : Int) > (1048576 : Int))) fun v_17 =>
    lt1 (bif v_16 then true else v_17) fun v_18 =>
    some v_18
 ) fun x_19 =>
  if x_19 = true then
   some ((2 : Int), x_7, lost_5)
  else
   lt1 (Option.getD (mgetO (some x_7) (net_pair.mk a_1 a_2)) ([] : (List (List UInt8)))) fun v_20 =>
   lt1 (decide ((List.length v_20 : Int) ≥ (64 : Int))) fun v_21 =>
   if v_21 = true then
    lt1 (w64 (lost_5 + (1 : Int))) fun v_22 =>
    some ((5 : Int), x_7, v_22)
   else
    Option.bind (net_Net_lay k (net_pair.mk a_1 a_2) a_3 ends_4 lost_5 x_7) fun x_23 =>
    some ((0 : Int), (x_23), lost_5)

def net_Net_All.b3 (k : Nat) (v_18 : (List (List UInt8))) (from_9 : Int) (to_14 : Int) (l_19 : (List api_Flight)) (x_20 : Int) : Option (((List api_Flight) × Int) ⊕ (((List api_Flight)))) :=
 lt1 (decide (x_20 < (List.length v_18 : Int))) fun v_23 =>
 if v_23 = true then
  Option.bind (idxL v_18 x_20) fun v_24 =>
  Option.bind (apL 40 l_19 ([(api_Flight.mk from_9 to_14 v_24)] : (List api_Flight))) fun x_25 =>
  lt1 (w64 (x_20 + (1 : Int))) fun v_28 =>
  some (.inl (x_25, v_28))
 else
  some (.inr l_19)

def net_Net_All.b2 (k : Nat) (ends_1 : Int) (x_4 : (List (net_pair × (List (List UInt8))))) (from_9 : Int) (l_13 : (List api_Flight)) (to_14 : Int) : Option (((List api_Flight) × Int) ⊕ (((List api_Flight)))) :=
 lt1 (decide (to_14 ≤ ends_1)) fun v_17 =>
 if v_17 = true then
  Option.bind (
   lt1 (Option.getD (mgetO (some x_4) (net_pair.mk from_9 to_14)) ([] : (List (List UInt8)))) fun v_18 =>
   loopO (fun s => net_Net_All.b3 k v_18 from_9 to_14 s.1 s.2) k (l_13, (0 : Int))
  ) fun l_29 =>
   lt1 (w64 (to_14 + (1 : Int))) fun v_32 =>
   some (.inl (l_29, v_32))
 else
  some (.inr l_13)

def net_Net_All.b1 (k : Nat) (ends_1 : Int) (x_4 : (List (net_pair × (List (List UInt8))))) (l_8 : (List api_Flight)) (from_9 : Int) : Option (((List api_Flight) × Int) ⊕ (((List api_Flight)))) :=
 lt1 (decide (from_9 ≤ ends_1)) fun v_12 =>
 if v_12 = true then
  Option.bind (
   loopO (fun s => net_Net_All.b2 k ends_1 x_4 from_9 s.1 s.2) k (l_8, (1 : Int))
  ) fun l_33 =>
   lt1 (w64 (from_9 + (1 : Int))) fun v_36 =>
   some (.inl (l_33, v_36))
 else
  some (.inr l_8)

def net_Net_All (k : Nat) (ends_1 : Int) (lost_2 : Int) (x_4 : (List (net_pair × (List (List UInt8))))) : Option (((List api_Flight))) :=
 Option.bind (
  Option.bind (net_Net_there k ends_1 lost_2 x_4) fun _ =>
  loopO (fun s => net_Net_All.b1 k ends_1 x_4 s.1 s.2) k (([] : (List api_Flight)), (1 : Int))
 ) fun l_37 =>
  some l_37

def net_Net_All_1.b1 {σ τ : Type} (k : Nat) (x_5 : (List api_Flight)) (Y_1 : (σ → (Int × api_Flight) → Option (σ ⊕ τ))) (x_8 : (σ ⊕ τ)) (x_9 : Int) : Option (((σ ⊕ τ) × Int) ⊕ (((σ ⊕ τ)) ⊕ (((σ ⊕ τ))))) :=
 lt1 (decide (x_9 < (List.length x_5 : Int))) fun v_11 =>
 if v_11 = true then
  Option.bind (inO x_5 x_9) fun i_12 =>
  Option.bind (x_5[i_12]?) fun v_13 =>
  Option.bind (slices_Clonebyte_byte k v_13.Bytes) fun v_15 =>
  Option.bind (yldO Y_1 x_8 (x_9, (api_Flight.mk v_13.From v_13.To v_15))) fun y_18 =>
  lt1 ((!(Sum.isLeft y_18))) fun v_20 =>
  if v_20 = true then
   some (.inr (.inr y_18))
  else
   lt1 (w64 (x_9 + (1 : Int))) fun v_21 =>
   some (.inl (y_18, v_21))
 else
  some (.inr (.inl x_8))

def net_Net_All_1 {σ τ : Type} (k : Nat) (Y_1 : (σ → (Int × api_Flight) → Option (σ ⊕ τ))) (x_2 : (σ ⊕ τ)) (x_5 : (List api_Flight)) : Option (((σ ⊕ τ))) :=
 Option.bind (loopO (fun s => net_Net_All_1.b1 k x_5 Y_1 s.1 s.2) k (x_2, (0 : Int))) fun t => match t with
 | (.inl x_22) =>
  some x_22
 | (.inr q) =>
  some q

def net_Net_At.y1 (k : Nat) (place_1 : Int) (a_16 : Int) (a_17 : api_Flight) : Option ((Unit) ⊕ ((api_Flight))) :=
 lt1 ((a_16 == place_1)) fun v_19 =>
 if v_19 = true then
  some (.inr a_17)
 else
  some (.inl ())

def net_Net_At (k : Nat) (place_1 : Int) (ends_2 : Int) (lost_3 : Int) (x_5 : (List (net_pair × (List (List UInt8))))) : Option ((api_Flight × Int)) :=
 Option.bind (net_Net_there k ends_2 lost_3 x_5) fun _ =>
 lt1 (decide (place_1 < (0 : Int))) fun v_11 =>
 if v_11 = true then
  some ((api_Flight.mk (0 : Int) (0 : Int) ([] : (List UInt8))), (2 : Int))
 else
  Option.bind (
   Option.bind (net_Net_All k ends_2 lost_3 x_5) fun v_12 =>
   Option.bind (net_Net_All_1 k (fun (s : Unit) (u : Int × api_Flight) => net_Net_At.y1 k place_1 u.1 u.2) (Sum.inl ()) v_12) fun tv3 => match tv3 with
   | (.inl _) =>
    some ((api_Flight.mk (0 : Int) (0 : Int) ([] : (List UInt8))), (6 : Int))
   | (.inr f_21) =>
    some (f_21, (0 : Int))
  ) fun (f_22, e_23) =>
   some (f_22, e_23)

def slices_Clonebyte_byte'2 (k : Nat) (s_1 : (List (List UInt8))) : Option (((List (List UInt8)))) :=
 Option.bind (apL 24 ([] : (List (List UInt8))) s_1) fun x_3 =>
 some x_3

def slices_Deletebyte_byte'2 (k : Nat) (i_1 : Int) (j_2 : Int) (s_3 : (List (List UInt8))) : Option (((List (List UInt8)))) :=
 Option.bind (viewN 0 (List.length s_3) i_1 j_2) fun (o_6, n_7) =>
 lt1 ((i_1 == j_2)) fun v_8 =>
 if v_8 = true then
  some s_3
 else
  Option.bind (viewN 0 (List.length s_3) (0 : Int) i_1) fun (o_9, n_10) =>
  Option.bind (viewN 0 (List.length s_3) j_2 (List.length s_3 : Int)) fun (o_11, n_12) =>
  Option.bind (apP s_3 n_10 o_11 n_12) fun s_13 =>
  Option.bind (viewN 0 (List.length s_3) (List.length s_13 : Int) (List.length s_3 : Int)) fun (o_14, n_15) =>
  some s_13

def net_Net_Take'2.y1 (k : Nat) (v_10 : api_Flight) (place_1 : Int) (x_5 : (List (net_pair × (List (List UInt8))))) (a_19 : Int) (a_20 : api_Flight) : Option ((Unit) ⊕ (((List (net_pair × (List (List UInt8))))))) :=
 Option.bind (
  lt1 ((a_20.From == v_10.From)) fun v_22 =>
  if v_22 = true then
   lt1 ((a_20.To == v_10.To)) fun v_23 =>
   some v_23
  else
   some false
 ) fun x_24 =>
  if x_24 = true then
   lt1 (w64 (place_1 - a_19)) fun v_25 =>
   lt1 (Option.getD (mgetO (some x_5) (net_pair.mk v_10.From v_10.To)) ([] : (List (List UInt8)))) fun v_26 =>
   Option.bind (slices_Clonebyte_byte'2 k v_26) fun v_27 =>
   lt1 (w64 (v_25 + (1 : Int))) fun v_30 =>
   Option.bind (slices_Deletebyte_byte'2 k v_25 v_30 v_27) fun v_31 =>
   lt1 (mput (net_pair.mk v_10.From v_10.To) v_31 x_5) fun x_32 =>
   some (.inr x_32)
  else
   some (.inl ())

def net_Net_Take'2 (k : Nat) (place_1 : Int) (ends_2 : Int) (lost_3 : Int) (x_5 : (List (net_pair × (List (List UInt8))))) : Option ((api_Flight × Int × (List (net_pair × (List (List UInt8)))))) :=
 Option.bind (net_Net_At k place_1 ends_2 lost_3 x_5) fun (v_10, v_11) =>
 lt1 ((v_11 != (0 : Int))) fun v_13 =>
 if v_13 = true then
  some (v_10, v_11, x_5)
 else
  Option.bind (
   Option.bind (net_Net_All k ends_2 lost_3 x_5) fun v_15 =>
   Option.bind (net_Net_All_1 k (fun (s : Unit) (u : Int × api_Flight) => net_Net_Take'2.y1 k v_10 place_1 x_5 u.1 u.2) (Sum.inl ()) v_15) fun tv3 => match tv3 with
   | (.inl _) =>
    some x_5
   | (.inr x_34) =>
    some x_34
  ) fun x_35 =>
   some (v_10, v_11, x_35)

def ref12_Same (k : Nat) (a_1 : api_Flight) (b_2 : api_Flight) : Option ((Bool)) :=
 Option.bind (
  lt1 ((a_1.From == b_2.From)) fun v_5 =>
  if v_5 = true then
   lt1 ((a_1.To == b_2.To)) fun v_6 =>
   if v_6 = true then
    lt1 ((a_1.Bytes == b_2.Bytes)) fun v_7 =>
    some v_7
   else
    some false
  else
   some false
 ) fun x_8 =>
  some x_8

def net_Net_Len.b1 (k : Nat) (c_9 : Int) (e_10 : (net_pair × (List (List UInt8)))) : Option ((Int) ⊕ ((Int))) :=
 lt1 (w64 (c_9 + (List.length e_10.2 : Int))) fun v_12 =>
 some (.inl v_12)

def net_Net_Len.f1 (k : Nat) (c_9 : Int) : Option ((Int)) :=
 some c_9

def net_Net_Len (k : Nat) (ends_1 : Int) (lost_2 : Int) (x_4 : (List (net_pair × (List (List UInt8))))) : Option ((Int)) :=
 Option.bind (
  Option.bind (net_Net_there k ends_1 lost_2 x_4) fun _ =>
  rangeM (Option.getD (some x_4) []) (fun s e => net_Net_Len.b1 k s e) (fun s => net_Net_Len.f1 k s) (0 : Int)
 ) fun c_13 =>
  some c_13

def net_Net_Line (k : Nat) (from_1 : Int) (to_2 : Int) (ends_3 : Int) (lost_4 : Int) (x_6 : (List (net_pair × (List (List UInt8))))) : Option ((Int)) :=
 Option.bind (net_Net_there k ends_3 lost_4 x_6) fun _ =>
 lt1 (Option.getD (mgetO (some x_6) (net_pair.mk from_1 to_2)) ([] : (List (List UInt8)))) fun v_9 =>
 some (List.length v_9 : Int)

def net_Net_Double (k : Nat) (place_1 : Int) (ends_2 : Int) (lost_3 : Int) (x_5 : (List (net_pair × (List (List UInt8))))) : Option ((Int × (List (net_pair × (List (List UInt8)))))) :=
 Option.bind (net_Net_At k place_1 ends_2 lost_3 x_5) fun (v_7, v_8) =>
 lt1 ((v_8 != (0 : Int))) fun v_10 =>
 if v_10 = true then
  some (v_8, x_5)
 else
  Option.bind (net_Net_Line k v_7.From v_7.To ends_2 lost_3 x_5) fun v_11 =>
  lt1 (decide (v_11 ≥ (64 : Int))) fun v_12 =>
  if v_12 = true then
   some ((5 : Int), x_5)
  else
   Option.bind (net_Net_lay k (net_pair.mk v_7.From v_7.To) v_7.Bytes ends_2 lost_3 x_5) fun x_13 =>
   some ((0 : Int), (x_13))

def net_Net_Drop (k : Nat) (place_1 : Int) (ends_2 : Int) (lost_3 : Int) (x_5 : (List (net_pair × (List (List UInt8))))) : Option ((Int × (List (net_pair × (List (List UInt8)))))) :=
 Option.bind (net_Net_Take'2 k place_1 ends_2 lost_3 x_5) fun (v_7, v_8, x_9) =>
 some (v_8, (x_9))

def law12_known'2 (k : Nat) : Option ((Bool)) :=
 Option.bind (net_New k (3 : Int)) fun t => match t with
 | (.inl _) =>
  Option.bind (
   Option.bind (law12_num k (0 : Int)) fun _ =>
   Option.bind (net_Net_Send k (2 : Int) (1 : Int) ([(97 : UInt8)] : (List UInt8)) (3 : Int) (0 : Int) ([] : (List (net_pair × (List (List UInt8)))))) fun (v_5, x_6, x_7) =>
   Option.bind (law12_num k v_5) fun _ =>
   lt1 (w64 ((0 : Int) + v_5)) fun v_9 =>
   Option.bind (net_Net_Send k (1 : Int) (2 : Int) ([(98 : UInt8)] : (List UInt8)) (3 : Int) x_7 (x_6)) fun (v_11, x_12, x_13) =>
   Option.bind (law12_num k v_11) fun _ =>
   lt1 (w64 (v_9 + v_11)) fun v_15 =>
   Option.bind (net_Net_Send k (1 : Int) (3 : Int) ([(99 : UInt8)] : (List UInt8)) (3 : Int) x_13 (x_12)) fun (v_17, x_18, x_19) =>
   Option.bind (law12_num k v_17) fun _ =>
   lt1 (w64 (v_15 + v_17)) fun v_21 =>
   lt1 ((v_21 != (0 : Int))) fun v_22 =>
   some ((x_18), x_19, v_22)
  ) fun (x_23, lost_24, x_25) =>
   if x_25 = true then
    some false
   else
    Option.bind (net_Net_At k (0 : Int) (3 : Int) lost_24 x_23) fun (v_26, v_27) =>
    Option.bind (net_Net_Take'2 k (2 : Int) (3 : Int) lost_24 x_23) fun (v_29, v_30, x_31) =>
    Option.bind (
     Option.bind (ref12_Same k v_26 (api_Flight.mk (1 : Int) (2 : Int) ([(98 : UInt8)] : (List UInt8)))) fun v_34 =>
     lt1 ((!v_34)) fun v_35 =>
     if v_35 = true then
      some true
     else
      Option.bind (ref12_Same k v_29 (api_Flight.mk (2 : Int) (1 : Int) ([(97 : UInt8)] : (List UInt8)))) fun v_37 =>
      lt1 ((!v_37)) fun v_38 =>
      Option.bind (if (!v_38) = true then law12_num k v_27 else some default) fun _ =>
      Option.bind (if (!v_38) = true then law12_num k v_30 else some default) fun _ =>
      lt1 (w64 (v_27 + v_30)) fun v_41 =>
      lt1 ((v_41 != (0 : Int))) fun v_42 =>
      lt1 (bif v_38 then true else v_42) fun v_43 =>
      if v_43 = true then
       some true
      else
       Option.bind (net_Net_Len k (3 : Int) lost_24 (x_31)) fun v_44 =>
       lt1 ((v_44 != (2 : Int))) fun v_45 =>
       some v_45
    ) fun x_46 =>
     if x_46 = true then
      some false
     else
      Option.bind (net_Net_Double k (0 : Int) (3 : Int) lost_24 (x_31)) fun (v_47, x_48) =>
      Option.bind (net_Net_Take'2 k (1 : Int) (3 : Int) lost_24 (x_48)) fun (v_49, v_50, x_51) =>
      Option.bind (
       Option.bind (law12_num k v_47) fun _ =>
       Option.bind (law12_num k v_50) fun _ =>
       lt1 (w64 (v_47 + v_50)) fun v_55 =>
       lt1 ((v_55 == (0 : Int))) fun v_56 =>
       Option.bind (if v_56 = true then ref12_Same k v_49 v_26 else some default) fun v_57 =>
       lt1 (bif v_56 then v_57 else false) fun v_58 =>
       if v_58 = true then
        Option.bind (net_Net_Drop k (9 : Int) (3 : Int) lost_24 (x_51)) fun (v_59, x_60) =>
        Option.bind (law12_num k v_59) fun _ =>
        lt1 ((v_59 == (6 : Int))) fun v_62 =>
        if v_62 = true then
         Option.bind (net_Net_Send k (1 : Int) (1 : Int) ([(120 : UInt8)] : (List UInt8)) (3 : Int) lost_24 (x_60)) fun (v_64, x_65, x_66) =>
         Option.bind (law12_num k v_64) fun _ =>
         lt1 ((v_64 == (2 : Int))) fun v_68 =>
         some v_68
        else
         some false
       else
        some false
      ) fun t_69 =>
       some t_69
 | (.inr _) =>
  Option.bind (
   some ()
  ) fun _ =>
   some false

def net_Net_Copy.b1 (k : Nat) (x_11 : (List (net_pair × (List (List UInt8))))) (e_12 : (net_pair × (List (List UInt8)))) : Option (((List (net_pair × (List (List UInt8))))) ⊕ (((List (net_pair × (List (List UInt8))))))) :=
 Option.bind (slices_Clonebyte_byte'2 k e_12.2) fun v_16 =>
 lt1 (mput e_12.1 v_16 x_11) fun x_19 =>
 some (.inl x_19)

def net_Net_Copy.f1 (k : Nat) (x_11 : (List (net_pair × (List (List UInt8))))) : Option (((List (net_pair × (List (List UInt8)))))) :=
 lt1 (canon x_11) fun x_14 =>
 some x_14

def net_Net_Copy (k : Nat) (ends_1 : Int) (lost_2 : Int) (x_4 : (List (net_pair × (List (List UInt8))))) : Option (((List (net_pair × (List (List UInt8)))))) :=
 Option.bind (net_Net_there k ends_1 lost_2 x_4) fun _ =>
 Option.bind (
  rangeM (Option.getD (some x_4) []) (fun s e => net_Net_Copy.b1 k s e) (fun s => net_Net_Copy.f1 k s) ([] : (List (net_pair × (List (List UInt8)))))
 ) fun x_20 =>
  some x_20

def ref12_Net_Copy (k : Nat) (Ends_1 : Int) (Lost_2 : Int) : Option (((List api_Flight))) :=
 Option.bind (apL 40 ([] : (List api_Flight)) ([] : (List api_Flight))) fun v_4 =>
 some v_4

def slices_Clonebyte_byte'3 (k : Nat) (o_1 : Nat) (n_2 : Nat) (x_3 : (List UInt8)) : Option (((List UInt8))) :=
 Option.bind (apV 1 ([] : (List UInt8)) x_3 o_1 n_2) fun v_7 =>
 some v_7

def net_Net_lay'2 (k : Nat) (p_1 : net_pair) (o_2 : Nat) (n_3 : Nat) (ends_4 : Int) (lost_5 : Int) (x_7 : (List (net_pair × (List (List UInt8))))) (x_9 : (List UInt8)) : Option (((List (net_pair × (List (List UInt8)))))) :=
 lt1 (Option.getD (mgetO (some x_7) p_1) ([] : (List (List UInt8)))) fun v_13 =>
 Option.bind (subL v_13 (0) (List.length v_13 : Int)) fun v_14 =>
 Option.bind (slices_Clonebyte_byte'3 k o_2 n_3 x_9) fun v_15 =>
 Option.bind (apL 24 v_14 ([v_15] : (List (List UInt8)))) fun v_18 =>
 lt1 (mput p_1 v_18 x_7) fun x_19 =>
 some x_19

def net_Net_Send'2 (k : Nat) (a_1 : Int) (a_2 : Int) (o_3 : Nat) (n_4 : Nat) (ends_5 : Int) (lost_6 : Int) (x_8 : (List (net_pair × (List (List UInt8))))) (x_10 : (List UInt8)) : Option ((Int × (List (net_pair × (List (List UInt8)))) × Int)) :=
 Option.bind (net_Net_there k ends_5 lost_6 x_8) fun _ =>
 Option.bind (
  lt1 (decide (a_1 < (1 : Int))) fun v_14 =>
  if v_14 = true then
   some true
  else
   lt1 (decide (a_1 > ends_5)) fun v_15 =>
   lt1 (decide (a_2 < (1 : Int))) fun v_16 =>
   lt1 (bif v_15 then true else v_16) fun v_17 =>
   if v_17 = true then
    some true
   else
    lt1 (decide (a_2 > ends_5)) fun v_18 =>
    lt1 ((a_1 == a_2)) fun v_19 =>
    lt1 (bif v_18 then true else v_19) fun v_20 =>
    if v_20 = true then
     some true
    else
     lt1 (decide (((n_4 : Nat) : Int) > (1048576 : Int))) fun v_21 =>
     some v_21
 ) fun x_22 =>
  if x_22 = true then
   some ((2 : Int), x_8, lost_6)
  else
   lt1 (Option.getD (mgetO (some x_8) (net_pair.mk a_1 a_2)) ([] : (List (List UInt8)))) fun v_23 =>
   lt1 (decide ((List.length v_23 : Int) ≥ (64 : Int))) fun v_24 =>
   if v_24 = true then
    lt1 (w64 (lost_6 + (1 : Int))) fun v_25 =>
    some ((5 : Int), x_8, v_25)
   else
    Option.bind (net_Net_lay'2 k (net_pair.mk a_1 a_2) o_3 n_4 ends_5 lost_6 x_8 x_10) fun x_26 =>
    some ((0 : Int), (x_26), lost_6)

def net_Net_Clear.b1 (k : Nat) (end_1 : Int) (x_10 : (List (net_pair × (List (List UInt8))))) (c_11 : Int) (e_12 : (net_pair × (List (List UInt8)))) : Option (((List (net_pair × (List (List UInt8)))) × Int) ⊕ ((Int × (List (net_pair × (List (List UInt8))))))) :=
 lt1 ((e_12.1.to == end_1)) fun v_15 =>
 if v_15 = true then
  lt1 (w64 (c_11 + (List.length e_12.2 : Int))) fun v_16 =>
  lt1 (mdel e_12.1 x_10) fun x_17 =>
  some (.inl (x_17, v_16))
 else
  some (.inl (x_10, c_11))

def net_Net_Clear.f1 (k : Nat) (x_10 : (List (net_pair × (List (List UInt8))))) (c_11 : Int) : Option ((Int × (List (net_pair × (List (List UInt8)))))) :=
 some (c_11, x_10)

def net_Net_Clear (k : Nat) (end_1 : Int) (ends_2 : Int) (lost_3 : Int) (x_5 : (List (net_pair × (List (List UInt8))))) : Option ((Int × (List (net_pair × (List (List UInt8)))))) :=
 Option.bind (
  Option.bind (net_Net_there k ends_2 lost_3 x_5) fun _ =>
  rangeM (Option.getD (some x_5) []) (fun s e => net_Net_Clear.b1 k end_1 s.1 s.2 e) (fun s => net_Net_Clear.f1 k s.1 s.2) (x_5, (0 : Int))
 ) fun (c_18, x_19) =>
  some (c_18, x_19)

def ref12_Net_Line'2.b1 (k : Nat) (x_6 : (List api_Flight)) (from_1 : Int) (to_2 : Int) (c_9 : Int) (i_10 : Int) : Option ((Int × Int) ⊕ ((Int))) :=
 lt1 (decide (i_10 < (List.length x_6 : Int))) fun v_11 =>
 if v_11 = true then
  Option.bind (
   Option.bind (
    Option.bind (inO x_6 i_10) fun i_12 =>
    Option.bind (x_6[i_12]?) fun u_13 =>
    lt1 ((u_13.From == from_1)) fun v_14 =>
    if v_14 = true then
     Option.bind (inO x_6 i_10) fun i_15 =>
     Option.bind (x_6[i_15]?) fun u_16 =>
     lt1 ((u_16.To == to_2)) fun v_17 =>
     some v_17
    else
     some false
   ) fun x_18 =>
    if x_18 = true then
     lt1 (w64 (c_9 + (1 : Int))) fun v_19 =>
     some v_19
    else
     some c_9
  ) fun c_20 =>
   lt1 (w64 (i_10 + (1 : Int))) fun v_21 =>
   some (.inl (c_20, v_21))
 else
  some (.inr c_9)

def ref12_Net_Line'2 (k : Nat) (from_1 : Int) (to_2 : Int) (Ends_3 : Int) (Lost_4 : Int) (x_6 : (List api_Flight)) : Option ((Int)) :=
 Option.bind (
  loopO (fun s => ref12_Net_Line'2.b1 k x_6 from_1 to_2 s.1 s.2) k ((0 : Int), (0 : Int))
 ) fun c_22 =>
  some c_22

def ref12_Net_lay'2.b1 (k : Nat) (x_5 : (List api_Flight)) (a_1 : api_Flight) (x_9 : Int) : Option ((Int) ⊕ ((Int))) :=
 Option.bind (
  lt1 (decide (x_9 < (List.length x_5 : Int))) fun v_10 =>
  if v_10 = true then
   Option.bind (inO x_5 x_9) fun i_11 =>
   Option.bind (x_5[i_11]?) fun u_12 =>
   lt1 (decide (u_12.From < a_1.From)) fun v_13 =>
   if v_13 = true then
    some true
   else
    Option.bind (inO x_5 x_9) fun i_14 =>
    Option.bind (x_5[i_14]?) fun u_15 =>
    lt1 ((u_15.From == a_1.From)) fun v_16 =>
    if v_16 = true then
     Option.bind (inO x_5 x_9) fun i_17 =>
     Option.bind (x_5[i_17]?) fun u_18 =>
     lt1 (decide (u_18.To ≤ a_1.To)) fun v_19 =>
     some v_19
    else
     some false
  else
   some false
 ) fun x_20 =>
  if x_20 = true then
   lt1 (w64 (x_9 + (1 : Int))) fun v_21 =>
   some (.inl v_21)
  else
   some (.inr x_9)

def ref12_Net_lay'2 (k : Nat) (a_1 : api_Flight) (Ends_2 : Int) (Lost_3 : Int) (x_5 : (List api_Flight)) : Option (((List api_Flight))) :=
 Option.bind (
  loopO (fun s => ref12_Net_lay'2.b1 k x_5 a_1 s) k (0 : Int)
 ) fun x_22 =>
  Option.bind (subL x_5 (0) x_22) fun v_23 =>
  Option.bind (apL 40 ([] : (List api_Flight)) v_23) fun v_24 =>
  Option.bind (apL 40 v_24 ([a_1] : (List api_Flight))) fun x_27 =>
  Option.bind (subL x_5 x_22 (List.length x_5 : Int)) fun v_30 =>
  Option.bind (apL 40 x_27 v_30) fun x_31 =>
  some x_31

def ref12_Net_Send'2 (k : Nat) (from_1 : Int) (to_2 : Int) (b_3 : (List UInt8)) (Ends_4 : Int) (Lost_5 : Int) (x_7 : (List api_Flight)) : Option ((Int × (List api_Flight) × Int)) :=
 Option.bind (
  lt1 (decide (from_1 < (1 : Int))) fun v_10 =>
  lt1 (decide (to_2 < (1 : Int))) fun v_11 =>
  lt1 (bif v_10 then true else v_11) fun v_12 =>
  if v_12 = true then
   some true
  else
   lt1 (decide (from_1 > Ends_4)) fun v_13 =>
   if v_13 = true then
    some true
   else
    lt1 (decide (to_2 > Ends_4)) fun v_14 =>
    lt1 ((from_1 == to_2)) fun v_15 =>
    lt1 (bif v_14 then true else v_15) fun v_16 =>
    lt1 (decide ((List.length b_3 : Int) > (1048576 : Int))) fun v_17 =>
    lt1 (bif v_16 then true else v_17) fun v_18 =>
    some v_18
 ) fun x_19 =>
  if x_19 = true then
   some ((2 : Int), x_7, Lost_5)
  else
   Option.bind (ref12_Net_Line'2 k from_1 to_2 Ends_4 Lost_5 x_7) fun v_20 =>
   lt1 (decide (v_20 ≥ (64 : Int))) fun v_21 =>
   if v_21 = true then
    lt1 (w64 (Lost_5 + (1 : Int))) fun v_22 =>
    some ((5 : Int), x_7, v_22)
   else
    Option.bind (apL 1 ([] : (List UInt8)) b_3) fun v_23 =>
    Option.bind (ref12_Net_lay'2 k (api_Flight.mk from_1 to_2 v_23) Ends_4 Lost_5 x_7) fun x_26 =>
    some ((0 : Int), x_26, Lost_5)

def ref12_Net_At'2 (k : Nat) (place_1 : Int) (Ends_2 : Int) (Lost_3 : Int) (x_5 : (List api_Flight)) : Option ((api_Flight × Int)) :=
 lt1 (decide (place_1 < (0 : Int))) fun v_9 =>
 if v_9 = true then
  some ((api_Flight.mk (0 : Int) (0 : Int) ([] : (List UInt8))), (2 : Int))
 else
  lt1 (decide (place_1 ≥ (List.length x_5 : Int))) fun v_10 =>
  if v_10 = true then
   some ((api_Flight.mk (0 : Int) (0 : Int) ([] : (List UInt8))), (6 : Int))
  else
   Option.bind (inO x_5 place_1) fun i_11 =>
   Option.bind (x_5[i_11]?) fun v_12 =>
   some (v_12, (0 : Int))

def net_Net_Lost (k : Nat) (ends_1 : Int) (lost_2 : Int) (x_4 : (List (net_pair × (List (List UInt8))))) : Option ((Unit)) :=
 Option.bind (net_Net_there k ends_1 lost_2 x_4) fun _ =>
 some ()

def ref12_Same'2 (k : Nat) (From_1 : Int) (To_2 : Int) (o_3 : Nat) (n_4 : Nat) (b_5 : api_Flight) (x_6 : (List UInt8)) : Option ((Bool)) :=
 Option.bind (
  lt1 ((From_1 == b_5.From)) fun v_11 =>
  if v_11 = true then
   lt1 ((To_2 == b_5.To)) fun v_12 =>
   if v_12 = true then
    Option.bind (viewL x_6 o_3 n_4) fun v_13 =>
    lt1 ((v_13 == b_5.Bytes)) fun v_14 =>
    some v_14
   else
    some false
  else
   some false
 ) fun x_15 =>
  some x_15

def net_Net_All_1'2.b1 {σ τ : Type} (k : Nat) (x_5 : (List api_Flight)) (Y_1 : (σ → (Int × Int × Int × (List UInt8) × Nat × Nat) → Option (σ ⊕ τ))) (x_8 : (σ ⊕ τ)) (x_9 : Int) : Option (((σ ⊕ τ) × Int) ⊕ (((σ ⊕ τ)) ⊕ (((σ ⊕ τ))))) :=
 lt1 (decide (x_9 < (List.length x_5 : Int))) fun v_11 =>
 if v_11 = true then
  Option.bind (inO x_5 x_9) fun i_12 =>
  Option.bind (x_5[i_12]?) fun v_13 =>
  Option.bind (slices_Clonebyte_byte k v_13.Bytes) fun v_15 =>
  Option.bind (yldO Y_1 x_8 (x_9, v_13.From, v_13.To, v_15, 0, (List.length v_15))) fun y_18 =>
  lt1 ((!(Sum.isLeft y_18))) fun v_20 =>
  if v_20 = true then
   some (.inr (.inr y_18))
  else
   lt1 (w64 (x_9 + (1 : Int))) fun v_21 =>
   some (.inl (y_18, v_21))
 else
  some (.inr (.inl x_8))

def net_Net_All_1'2 {σ τ : Type} (k : Nat) (Y_1 : (σ → (Int × Int × Int × (List UInt8) × Nat × Nat) → Option (σ ⊕ τ))) (x_2 : (σ ⊕ τ)) (x_5 : (List api_Flight)) : Option (((σ ⊕ τ))) :=
 Option.bind (loopO (fun s => net_Net_All_1'2.b1 k x_5 Y_1 s.1 s.2) k (x_2, (0 : Int))) fun t => match t with
 | (.inl x_22) =>
  some x_22
 | (.inr q) =>
  some q

def law12_once.b2 (k : Nat) (a_27 : Nat) (a_26 : Nat) (x_38 : (List UInt8)) (x_39 : Int) : Option (((List UInt8) × Int) ⊕ ((Unit))) :=
 lt1 (decide (x_39 < ((a_27 : Nat) : Int))) fun v_40 =>
 if v_40 = true then
  Option.bind (inX a_26 a_27 x_39) fun i_41 =>
  Option.bind (x_38[i_41]?) fun v_42 =>
  lt1 ((v_42 + (1 : UInt8))) fun v_43 =>
  Option.bind (inX a_26 a_27 x_39) fun i_44 =>
  Option.bind (setO' x_38 i_44 v_43) fun x_45 =>
  lt1 (w64 (x_39 + (1 : Int))) fun v_46 =>
  some (.inl (x_45, v_46))
 else
  some (.inr ())

def law12_once.y1 (k : Nat) (x_10 : (List api_Flight)) (a_1 : Int) (x_21 : Int) (a_22 : Int) (a_23 : Int) (a_24 : Int) (a_25 : (List UInt8)) (a_26 : Nat) (a_27 : Nat) : Option ((Int) ⊕ ((Bool × Int))) :=
 Option.bind (
  lt1 ((a_22 != x_21)) fun v_31 =>
  if v_31 = true then
   some true
  else
   lt1 (decide (x_21 ≥ (List.length x_10 : Int))) fun v_32 =>
   if v_32 = true then
    some true
   else
    Option.bind (inO x_10 x_21) fun i_33 =>
    Option.bind (x_10[i_33]?) fun v_34 =>
    Option.bind (ref12_Same'2 k a_23 a_24 a_26 a_27 v_34 a_25) fun v_35 =>
    lt1 ((!v_35)) fun v_36 =>
    some v_36
 ) fun x_37 =>
  if x_37 = true then
   some (.inr (false, x_21))
  else
   Option.bind (
    loopO (fun s => law12_once.b2 k a_27 a_26 s.1 s.2) k (a_25, (0 : Int))
   ) fun _ =>
    lt1 (w64 (x_21 + (1 : Int))) fun v_47 =>
    lt1 ((v_47 == a_1)) fun v_48 =>
    if v_48 = true then
     some (.inr (true, v_47))
    else
     some (.inl v_47)

def law12_once (k : Nat) (a_1 : Int) (ends_2 : Int) (lost_3 : Int) (x_5 : (List (net_pair × (List (List UInt8))))) (Ends_7 : Int) (Lost_8 : Int) (x_10 : (List api_Flight)) : Option ((Bool)) :=
 Option.bind (net_Net_All k ends_2 lost_3 x_5) fun v_17 =>
 Option.bind (
  Option.bind (net_Net_All_1'2 k (fun (s : Int) (u : Int × Int × Int × (List UInt8) × Nat × Nat) => law12_once.y1 k x_10 a_1 s u.1 u.2.1 u.2.2.1 u.2.2.2.1 u.2.2.2.2.1 u.2.2.2.2.2) (Sum.inl (0 : Int)) v_17) fun tv2 => match tv2 with
  | (.inl x_50) =>
   some (.inl x_50)
  | (.inr (x_51, x_52)) =>
   some (.inr x_51)
  : Option ((Int) ⊕ ((Bool)))) fun t => match t with
 | (.inl x_53) =>
  lt1 ((x_53 == (List.length x_10 : Int))) fun v_55 =>
  some v_55
 | (.inr q) =>
  some q

def law12_looks (k : Nat) (a_1 : law12_Act) (a_2 : Int) (ends_3 : Int) (lost_4 : Int) (x_6 : (List (net_pair × (List (List UInt8))))) (Ends_8 : Int) (Lost_9 : Int) (x_11 : (List api_Flight)) : Option ((Bool)) :=
 Option.bind (net_Net_At k a_1.A ends_3 lost_4 x_6) fun (v_15, v_16) =>
 Option.bind (ref12_Net_At'2 k a_1.A Ends_8 Lost_9 x_11) fun (v_18, v_19) =>
 Option.bind (
  Option.bind (ref12_Same k v_15 v_18) fun v_21 =>
  Option.bind (if v_21 = true then law12_num k v_16 else some default) fun _ =>
  lt1 ((v_16 == v_19)) fun v_23 =>
  lt1 (bif v_21 then v_23 else false) fun v_24 =>
  if v_24 = true then
   Option.bind (net_Net_Len k ends_3 lost_4 x_6) fun v_25 =>
   lt1 ((v_25 == (List.length x_11 : Int))) fun v_26 =>
   if v_26 = true then
    Option.bind (net_Net_Line k a_1.A a_1.B ends_3 lost_4 x_6) fun v_27 =>
    Option.bind (ref12_Net_Line'2 k a_1.A a_1.B Ends_8 Lost_9 x_11) fun v_28 =>
    lt1 ((v_27 == v_28)) fun v_29 =>
    if v_29 = true then
     Option.bind (net_Net_Lost k ends_3 lost_4 x_6) fun _ =>
     lt1 ((lost_4 == Lost_9)) fun v_31 =>
     if v_31 = true then
      Option.bind (law12_once k a_2 ends_3 lost_4 x_6 Ends_8 Lost_9 x_11) fun v_32 =>
      if v_32 = true then
       Option.bind (law12_once k (0 : Int) ends_3 lost_4 x_6 Ends_8 Lost_9 x_11) fun v_33 =>
       some v_33
      else
       some false
     else
      some false
    else
     some false
   else
    some false
  else
   some false
 ) fun x_34 =>
  some x_34

def ref12_Net_Copy'2 (k : Nat) (Ends_1 : Int) (Lost_2 : Int) (x_4 : (List api_Flight)) : Option (((List api_Flight))) :=
 Option.bind (apL 40 ([] : (List api_Flight)) x_4) fun v_7 =>
 some v_7

def ref12_Net_Take'2 (k : Nat) (place_1 : Int) (Ends_2 : Int) (Lost_3 : Int) (x_5 : (List api_Flight)) : Option ((api_Flight × Int × (List api_Flight))) :=
 Option.bind (ref12_Net_At'2 k place_1 Ends_2 Lost_3 x_5) fun (v_9, v_10) =>
 Option.bind (
  lt1 ((v_10 == (0 : Int))) fun v_12 =>
  if v_12 = true then
   Option.bind (subL x_5 (0) place_1) fun v_13 =>
   Option.bind (apL 40 ([] : (List api_Flight)) v_13) fun v_14 =>
   lt1 (w64 (place_1 + (1 : Int))) fun v_17 =>
   Option.bind (subL x_5 v_17 (List.length x_5 : Int)) fun v_18 =>
   Option.bind (apL 40 v_14 v_18) fun x_19 =>
   some x_19
  else
   some x_5
 ) fun x_22 =>
  some (v_9, v_10, x_22)

def ref12_Net_Double'2 (k : Nat) (place_1 : Int) (Ends_2 : Int) (Lost_3 : Int) (x_5 : (List api_Flight)) : Option ((Int × (List api_Flight))) :=
 Option.bind (ref12_Net_At'2 k place_1 Ends_2 Lost_3 x_5) fun (v_8, v_9) =>
 lt1 ((v_9 != (0 : Int))) fun v_11 =>
 if v_11 = true then
  some (v_9, x_5)
 else
  Option.bind (ref12_Net_Line'2 k v_8.From v_8.To Ends_2 Lost_3 x_5) fun v_12 =>
  lt1 (decide (v_12 ≥ (64 : Int))) fun v_13 =>
  if v_13 = true then
   some ((5 : Int), x_5)
  else
   Option.bind (ref12_Net_lay'2 k v_8 Ends_2 Lost_3 x_5) fun x_14 =>
   some ((0 : Int), x_14)

def ref12_Net_Clear'2.b1 (k : Nat) (x_5 : (List api_Flight)) (end_1 : Int) (l_8 : (List api_Flight)) (i_9 : Int) : Option (((List api_Flight) × Int) ⊕ (((List api_Flight)))) :=
 lt1 (decide (i_9 < (List.length x_5 : Int))) fun v_12 =>
 if v_12 = true then
  Option.bind (
   Option.bind (inO x_5 i_9) fun i_13 =>
   Option.bind (x_5[i_13]?) fun u_14 =>
   lt1 ((u_14.To != end_1)) fun v_15 =>
   if v_15 = true then
    Option.bind (inO x_5 i_9) fun i_16 =>
    Option.bind (x_5[i_16]?) fun v_17 =>
    Option.bind (apL 40 l_8 ([v_17] : (List api_Flight))) fun l_18 =>
    some l_18
   else
    some l_8
  ) fun l_21 =>
   lt1 (w64 (i_9 + (1 : Int))) fun v_24 =>
   some (.inl (l_21, v_24))
 else
  some (.inr l_8)

def ref12_Net_Clear'2 (k : Nat) (end_1 : Int) (Ends_2 : Int) (Lost_3 : Int) (x_5 : (List api_Flight)) : Option ((Int × (List api_Flight))) :=
 Option.bind (
  loopO (fun s => ref12_Net_Clear'2.b1 k x_5 end_1 s.1 s.2) k (([] : (List api_Flight)), (0 : Int))
 ) fun l_25 =>
  lt1 (w64 ((List.length x_5 : Int) - (List.length l_25 : Int))) fun v_28 =>
  some (v_28, l_25)

def law12_do'2.b1 (k : Nat) (x_26 : (List UInt8)) (x_27 : Int) : Option (((List UInt8) × Int) ⊕ ((Unit))) :=
 lt1 (decide (x_27 < (List.length x_26 : Int))) fun v_28 =>
 if v_28 = true then
  Option.bind (inO x_26 x_27) fun i_29 =>
  Option.bind (setO' x_26 i_29 (9 : UInt8)) fun x_30 =>
  lt1 (w64 (x_27 + (1 : Int))) fun v_31 =>
  some (.inl (x_30, v_31))
 else
  some (.inr ())

def law12_do'2.b2 (k : Nat) (a_1 : law12_Act) (ends_2 : Int) (Ends_7 : Int) (x_84 : (List (net_pair × (List (List UInt8))))) (lost_85 : Int) (L_86 : (List api_Flight)) (Lost_87 : Int) (x_88 : Int) : Option (((List (net_pair × (List (List UInt8)))) × Int × (List api_Flight) × Int × Int) ⊕ (((List (net_pair × (List (List UInt8)))) × Int × (List api_Flight) × Int) ⊕ ((Bool × (List (net_pair × (List (List UInt8)))) × Int × (List api_Flight) × Int)))) :=
 lt1 (decide (x_88 < (70 : Int))) fun v_91 =>
 if v_91 = true then
  Option.bind (net_Net_Send k a_1.A a_1.B a_1.Bytes ends_2 lost_85 x_84) fun (v_92, x_93, x_94) =>
  Option.bind (law12_num k v_92) fun _ =>
  Option.bind (ref12_Net_Send'2 k a_1.A a_1.B a_1.Bytes Ends_7 Lost_87 L_86) fun (v_96, x_97, x_98) =>
  lt1 ((v_92 != v_96)) fun v_101 =>
  if v_101 = true then
   some (.inr (.inr (false, (x_93), x_94, x_97, x_98)))
  else
   lt1 (w64 (x_88 + (1 : Int))) fun v_102 =>
   some (.inl ((x_93), x_94, x_97, x_98, v_102))
 else
  some (.inr (.inl (x_84, lost_85, L_86, Lost_87)))

def law12_do'2 (k : Nat) (a_1 : law12_Act) (ends_2 : Int) (lost_3 : Int) (x_5 : (List (net_pair × (List (List UInt8))))) (Ends_7 : Int) (Lost_8 : Int) (x_10 : (List api_Flight)) : Option ((Bool × (List (net_pair × (List (List UInt8)))) × Int × (List api_Flight) × Int)) :=
 Option.bind (
  lt1 ((a_1.Kind == (1 : Int))) fun v_14 =>
  if v_14 = true then
   Option.bind (apL 1 ([] : (List UInt8)) a_1.Bytes) fun v_15 =>
   Option.bind (apL 1 v_15 ([(7 : UInt8)] : (List UInt8))) fun x_18 =>
   Option.bind (viewN 0 (List.length x_18) (0 : Int) (List.length a_1.Bytes : Int)) fun (o_21, n_22) =>
   Option.bind (net_Net_Send'2 k a_1.A a_1.B o_21 n_22 ends_2 lost_3 x_5 x_18) fun (v_23, x_24, x_25) =>
   Option.bind (
    loopO (fun s => law12_do'2.b1 k s.1 s.2) k (x_18, (0 : Int))
   ) fun _ =>
    Option.bind (law12_num k v_23) fun _ =>
    Option.bind (ref12_Net_Send'2 k a_1.A a_1.B a_1.Bytes Ends_7 Lost_8 x_10) fun (v_33, x_34, x_35) =>
    lt1 ((v_23 == v_33)) fun v_38 =>
    some (.inr (v_38, (x_24), x_25, x_34, x_35))
  else
   lt1 ((a_1.Kind == (2 : Int))) fun v_39 =>
   if v_39 = true then
    Option.bind (net_Net_Take'2 k a_1.A ends_2 lost_3 x_5) fun (v_40, v_41, x_42) =>
    Option.bind (ref12_Net_Take'2 k a_1.A Ends_7 Lost_8 x_10) fun (v_44, v_45, x_46) =>
    Option.bind (
     Option.bind (ref12_Same k v_40 v_44) fun v_50 =>
     Option.bind (if v_50 = true then law12_num k v_41 else some default) fun _ =>
     lt1 ((v_41 == v_45)) fun v_52 =>
     lt1 (bif v_50 then v_52 else false) fun v_53 =>
     some v_53
    ) fun x_54 =>
     some (.inr (x_54, (x_42), lost_3, x_46, Lost_8))
   else
    lt1 ((a_1.Kind == (3 : Int))) fun v_55 =>
    if v_55 = true then
     Option.bind (ref12_Net_Take'2 k a_1.A Ends_7 Lost_8 x_10) fun (v_56, v_57, x_58) =>
     Option.bind (net_Net_Drop k a_1.A ends_2 lost_3 x_5) fun (v_62, x_63) =>
     Option.bind (law12_num k v_62) fun _ =>
     lt1 ((v_62 == v_57)) fun v_65 =>
     some (.inr (v_65, (x_63), lost_3, x_58, Lost_8))
    else
     lt1 ((a_1.Kind == (4 : Int))) fun v_66 =>
     if v_66 = true then
      Option.bind (net_Net_Double k a_1.A ends_2 lost_3 x_5) fun (v_67, x_68) =>
      Option.bind (law12_num k v_67) fun _ =>
      Option.bind (ref12_Net_Double'2 k a_1.A Ends_7 Lost_8 x_10) fun (v_70, x_71) =>
      lt1 ((v_67 == v_70)) fun v_74 =>
      some (.inr (v_74, (x_68), lost_3, x_71, Lost_8))
     else
      lt1 ((a_1.Kind == (5 : Int))) fun v_75 =>
      if v_75 = true then
       Option.bind (net_Net_Clear k a_1.A ends_2 lost_3 x_5) fun (v_76, x_77) =>
       Option.bind (ref12_Net_Clear'2 k a_1.A Ends_7 Lost_8 x_10) fun (v_78, x_79) =>
       lt1 ((v_76 == v_78)) fun v_82 =>
       some (.inr (v_82, (x_77), lost_3, x_79, Lost_8))
      else
       lt1 ((a_1.Kind == (6 : Int))) fun v_83 =>
       if v_83 = true then
        Option.bind (loopO (fun s => law12_do'2.b2 k a_1 ends_2 Ends_7 s.1 s.2.1 s.2.2.1 s.2.2.2.1 s.2.2.2.2) k (x_5, lost_3, x_10, Lost_8, (0 : Int))) fun t => match t with
        | (.inl (x_103, x_104, x_105, x_106)) =>
         some (.inl (x_103, x_104, x_105, x_106))
        | (.inr q) =>
         some (.inr q)
       else
        some (.inl (x_5, lost_3, x_10, Lost_8))
  : Option (((List (net_pair × (List (List UInt8)))) × Int × (List api_Flight) × Int) ⊕ ((Bool × (List (net_pair × (List (List UInt8)))) × Int × (List api_Flight) × Int)))) fun t => match t with
 | (.inl (x_109, x_110, x_111, x_112)) =>
  some (true, x_109, x_110, x_111, x_112)
 | (.inr q) =>
  some q

def law12_NetPlays'2.b1 (k : Nat) (a_2 : (List law12_Act)) (t_1 : Int) (a_3 : Int) (x_21 : (List (net_pair × (List (List UInt8))))) (lost_22 : Int) (L_23 : (List api_Flight)) (Lost_24 : Int) (x_25 : (List (net_pair × (List (List UInt8))))) (lost_26 : Int) (L_27 : (List api_Flight)) (Lost_28 : Int) (x_29 : Int) : Option (((List (net_pair × (List (List UInt8)))) × Int × (List api_Flight) × Int × (List (net_pair × (List (List UInt8)))) × Int × (List api_Flight) × Int × Int) ⊕ (((List (net_pair × (List (List UInt8)))) × Int × (List api_Flight) × Int × (List (net_pair × (List (List UInt8)))) × Int × (List api_Flight) × Int) ⊕ ((Bool)))) :=
 lt1 (decide (x_29 < (List.length a_2 : Int))) fun v_37 =>
 if v_37 = true then
  Option.bind (
   Option.bind (
    Option.bind (idxL a_2 x_29) fun v_38 =>
    Option.bind (law12_do'2 k v_38 t_1 lost_22 x_21 t_1 Lost_24 L_23) fun (v_39, x_40, x_41, x_42, x_43) =>
    lt1 ((!v_39)) fun v_46 =>
    if v_46 = true then
     some ((x_40), x_41, x_42, x_43, true)
    else
     Option.bind (idxL a_2 x_29) fun v_47 =>
     Option.bind (law12_looks k v_47 a_3 t_1 x_41 (x_40) t_1 x_43 x_42) fun v_48 =>
     lt1 ((!v_48)) fun v_49 =>
     some ((x_40), x_41, x_42, x_43, v_49)
   ) fun (x_50, lost_51, L_52, Lost_53, x_54) =>
    if x_54 = true then
     some (.inr false)
    else
     Option.bind (divI (List.length a_2 : Int) (2 : Int)) fun v_57 =>
     lt1 ((x_29 == v_57)) fun v_58 =>
     if v_58 = true then
      Option.bind (net_Net_Copy k t_1 lost_51 x_50) fun v_59 =>
      Option.bind (ref12_Net_Copy'2 k t_1 Lost_53 L_52) fun v_62 =>
      some (.inl (x_50, lost_51, L_52, Lost_53, (v_59), lost_51, v_62, Lost_53))
     else
      some (.inl (x_50, lost_51, L_52, Lost_53, x_25, lost_26, L_27, Lost_28))
   : Option (((List (net_pair × (List (List UInt8)))) × Int × (List api_Flight) × Int × (List (net_pair × (List (List UInt8)))) × Int × (List api_Flight) × Int) ⊕ ((Bool)))) fun t => match t with
  | (.inl (x_66, lost_67, L_68, Lost_69, x_70, lost_71, L_72, Lost_73)) =>
   lt1 (w64 (x_29 + (1 : Int))) fun v_81 =>
   some (.inl (x_66, lost_67, L_68, Lost_69, x_70, lost_71, L_72, Lost_73, v_81))
  | (.inr q) =>
   some (.inr (.inr q))
 else
  some (.inr (.inl (x_21, lost_22, L_23, Lost_24, x_25, lost_26, L_27, Lost_28)))

def law12_NetPlays'2.b2 (k : Nat) (a_2 : (List law12_Act)) (t_1 : Int) (lost_98 : Int) (x_97 : (List (net_pair × (List (List UInt8))))) (Lost_100 : Int) (L_99 : (List api_Flight)) (x_112 : (List (net_pair × (List (List UInt8))))) (lost_113 : Int) (L_114 : (List api_Flight)) (Lost_115 : Int) (x_116 : Int) : Option (((List (net_pair × (List (List UInt8)))) × Int × (List api_Flight) × Int × Int) ⊕ ((Unit) ⊕ ((Bool)))) :=
 lt1 (decide (x_116 < (List.length a_2 : Int))) fun v_119 =>
 if v_119 = true then
  Option.bind (
   Option.bind (idxL a_2 x_116) fun v_120 =>
   Option.bind (law12_do'2 k v_120 t_1 lost_113 x_112 t_1 Lost_115 L_114) fun (v_121, x_122, x_123, x_124, x_125) =>
   lt1 ((!v_121)) fun v_128 =>
   if v_128 = true then
    some ((x_122), x_123, x_124, x_125, true)
   else
    Option.bind (idxL a_2 x_116) fun v_129 =>
    Option.bind (law12_looks k v_129 (0 : Int) t_1 x_123 (x_122) t_1 x_125 x_124) fun v_130 =>
    lt1 ((!v_130)) fun v_131 =>
    if v_131 = true then
     some ((x_122), x_123, x_124, x_125, true)
    else
     Option.bind (idxL a_2 x_116) fun v_132 =>
     Option.bind (law12_looks k v_132 (0 : Int) t_1 lost_98 x_97 t_1 Lost_100 L_99) fun v_133 =>
     lt1 ((!v_133)) fun v_134 =>
     some ((x_122), x_123, x_124, x_125, v_134)
  ) fun (x_135, lost_136, L_137, Lost_138, x_139) =>
   if x_139 = true then
    some (.inr (.inr false))
   else
    lt1 (w64 (x_116 + (1 : Int))) fun v_142 =>
    some (.inl (x_135, lost_136, L_137, Lost_138, v_142))
 else
  some (.inr (.inl ()))

def law12_NetPlays'2 (k : Nat) (t_1 : Int) (a_2 : (List law12_Act)) (a_3 : Int) : Option ((Bool)) :=
 Option.bind (net_New k t_1) fun t => match t with
 | (.inl _) =>
  Option.bind (
   lt1 (decide (t_1 < (1 : Int))) fun v_6 =>
   lt1 (decide (t_1 > (16 : Int))) fun v_7 =>
   lt1 (bif v_6 then true else v_7) fun v_8 =>
   some v_8
  ) fun x_9 =>
   if x_9 = true then
    Option.bind (
     some ()
    ) fun _ =>
     some false
   else
    Option.bind (law12_much k a_2) fun v_10 =>
    if v_10 = true then
     Option.bind (law12_known'2 k) fun v_11 =>
     some v_11
    else
     Option.bind (
      Option.bind (law12_num k (0 : Int)) fun _ =>
      some ()
     ) fun _ =>
      Option.bind (net_Net_Copy k t_1 (0 : Int) ([] : (List (net_pair × (List (List UInt8)))))) fun v_14 =>
      Option.bind (ref12_Net_Copy k t_1 (0 : Int)) fun v_17 =>
      Option.bind (
       Option.bind (loopO (fun s => law12_NetPlays'2.b1 k a_2 t_1 a_3 s.1 s.2.1 s.2.2.1 s.2.2.2.1 s.2.2.2.2.1 s.2.2.2.2.2.1 s.2.2.2.2.2.2.1 s.2.2.2.2.2.2.2.1 s.2.2.2.2.2.2.2.2) k (([] : (List (net_pair × (List (List UInt8))))), (0 : Int), ([] : (List api_Flight)), (0 : Int), (v_14), (0 : Int), v_17, (0 : Int), (0 : Int))) fun t => match t with
       | (.inl (x_82, lost_83, L_84, Lost_85, x_86, lost_87, L_88, Lost_89)) =>
        some (.inl (x_82, lost_83, L_84, Lost_85, x_86, lost_87, L_88, Lost_89))
       | (.inr q) =>
        some (.inr q)
       : Option (((List (net_pair × (List (List UInt8)))) × Int × (List api_Flight) × Int × (List (net_pair × (List (List UInt8)))) × Int × (List api_Flight) × Int) ⊕ ((Bool)))) fun t => match t with
      | (.inl (x_97, lost_98, L_99, Lost_100, x_101, lost_102, L_103, Lost_104)) =>
       Option.bind (
        Option.bind (loopO (fun s => law12_NetPlays'2.b2 k a_2 t_1 lost_98 x_97 Lost_100 L_99 s.1 s.2.1 s.2.2.1 s.2.2.2.1 s.2.2.2.2) k (x_101, lost_102, L_103, Lost_104, (0 : Int))) fun t => match t with
        | (.inl _) =>
         some (.inl ())
        | (.inr q) =>
         some (.inr q)
        : Option ((Unit) ⊕ ((Bool)))) fun t => match t with
       | (.inl _) =>
        Option.bind (law12_known'2 k) fun v_143 =>
        some v_143
       | (.inr q) =>
        some q
      | (.inr q) =>
       some q
 | (.inr _) =>
  Option.bind (
   lt1 (decide (t_1 < (1 : Int))) fun v_144 =>
   lt1 (decide (t_1 > (16 : Int))) fun v_145 =>
   lt1 (bif v_144 then true else v_145) fun v_146 =>
   some v_146
  ) fun x_147 =>
   if x_147 = true then
    Option.bind (
     Option.bind (law12_num k (2 : Int)) fun _ =>
     Option.bind (law12_known'2 k) fun v_149 =>
     some v_149
    ) fun x_150 =>
     some x_150
   else
    Option.bind (law12_much k a_2) fun v_151 =>
    if v_151 = true then
     Option.bind (law12_known'2 k) fun v_152 =>
     some v_152
    else
     Option.bind (
      some ()
     ) fun _ =>
      some false

end
end Go.Proofs.Ytnadeehdnmgebaa
