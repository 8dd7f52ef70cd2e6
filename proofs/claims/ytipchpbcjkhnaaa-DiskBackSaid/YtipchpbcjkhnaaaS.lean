/- The functions as plain Lean functions: no program and no memory here. -/
import Derived.Test.YtipchpbcjkhnaaaFp
import Derived.Test.YtipchpbcjkhnaaaFdq
namespace Go.Proofs.Ytipchpbcjkhnaaa
open Fw
set_option linter.unusedVariables false
noncomputable section

structure ref05_Step where
  Kind : Int
  N : Int
  Name : (List UInt8)
  To : (List UInt8)
  B : (List UInt8)
  Keep : (List Int)
  deriving DecidableEq, Inhabited

structure disk_file where
  b : (List UInt8)
  lasts : Int
  deriving DecidableEq, Inhabited

def disk_New (k : Nat) (capacity_1 : Int) : Option ((Unit) ⊕ (Unit)) :=
 Option.bind (
  lt1 (decide (capacity_1 < (1 : Int))) fun v_2 =>
  lt1 (decide (capacity_1 > (16777216 : Int))) fun v_3 =>
  lt1 (bif v_2 then true else v_3) fun v_4 =>
  some v_4
 ) fun x_5 =>
  if x_5 = true then
   some (.inr ())
  else
   some (.inl ())

def law05_num (k : Nat) (e_1 : Int) : Option ((Unit)) :=
 some ()

def disk_Disk_there_p_smvvvvm (k : Nat) (capacity_1 : Int) (fuse_2 : Int) (dead_3 : Bool) (writes_4 : Int) (x_6 : (List ((List UInt8) × disk_file))) : Option ((Unit)) :=
 Option.bind (
  some ()
 ) fun _ =>
  some ()

def disk_MayName.b1 (k : Nat) (name_1 : (List UInt8)) (x_2 : Int) : Option ((Int) ⊕ ((Unit) ⊕ ((Bool)))) :=
 lt1 (decide (x_2 < (List.length name_1 : Int))) fun v_3 =>
 if v_3 = true then
  Option.bind (idxL name_1 x_2) fun v_4 =>
  Option.bind (
   lt1 (decide (v_4 < (97 : UInt8))) fun v_5 =>
   lt1 (decide ((122 : UInt8) < v_4)) fun v_6 =>
   lt1 (bif v_5 then true else v_6) fun v_7 =>
   lt1 (decide (v_4 < (48 : UInt8))) fun v_8 =>
   lt1 (decide ((57 : UInt8) < v_4)) fun v_9 =>
   lt1 (bif v_8 then true else v_9) fun v_10 =>
   lt1 (bif v_7 then v_10 else false) fun v_11 =>
   lt1 ((!(v_4 == (46 : UInt8)))) fun v_12 =>
   lt1 (bif v_11 then v_12 else false) fun v_13 =>
   lt1 ((!(v_4 == (45 : UInt8)))) fun v_14 =>
   lt1 (bif v_13 then v_14 else false) fun v_15 =>
   some v_15
  ) fun x_16 =>
   if x_16 = true then
    some (.inr (.inr false))
   else
    lt1 (w64 (x_2 + (1 : Int))) fun v_17 =>
    some (.inl v_17)
 else
  some (.inr (.inl ()))

def disk_MayName (k : Nat) (name_1 : (List UInt8)) : Option ((Bool)) :=
 Option.bind (
  Option.bind (loopO (fun s => disk_MayName.b1 k name_1 s) k (0 : Int)) fun t => match t with
  | (.inl _) =>
   some (.inl ())
  | (.inr q) =>
   some (.inr q)
  : Option ((Unit) ⊕ ((Bool)))) fun t => match t with
 | (.inl _) =>
  Option.bind (
   lt1 (decide ((List.length name_1 : Int) ≥ (1 : Int))) fun v_18 =>
   lt1 (decide ((List.length name_1 : Int) ≤ (32 : Int))) fun v_19 =>
   lt1 (bif v_18 then v_19 else false) fun v_20 =>
   some v_20
  ) fun x_21 =>
   some x_21
 | (.inr q) =>
  some q

def disk_Disk_Room_p_smvvvvm.b1 (k : Nat) (x_6 : (List ((List UInt8) × disk_file))) (n_12 : Int) (e_13 : ((List UInt8) × disk_file)) : Option ((Int) ⊕ ((Int))) :=
 Option.bind (mgetO (some x_6) e_13.1) fun u_15 =>
 lt1 (w64 (n_12 - (List.length u_15.b : Int))) fun v_16 =>
 some (.inl v_16)

def disk_Disk_Room_p_smvvvvm.f1 (k : Nat) (n_12 : Int) : Option ((Int)) :=
 some n_12

def disk_Disk_Room_p_smvvvvm (k : Nat) (capacity_1 : Int) (fuse_2 : Int) (dead_3 : Bool) (writes_4 : Int) (x_6 : (List ((List UInt8) × disk_file))) : Option ((Int)) :=
 Option.bind (disk_Disk_there_p_smvvvvm k capacity_1 fuse_2 dead_3 writes_4 x_6) fun _ =>
 Option.bind (
  rangeM (Option.getD (some x_6) []) (fun s e => disk_Disk_Room_p_smvvvvm.b1 k x_6 s e) (fun s => disk_Disk_Room_p_smvvvvm.f1 k s) capacity_1
 ) fun n_17 =>
  some n_17

def slices_Clonebyte_byte (k : Nat) (s_1 : (List UInt8)) : Option (((List UInt8))) :=
 Option.bind (apL 1 ([] : (List UInt8)) s_1) fun x_3 =>
 some x_3

def disk_Disk_Append_1_pppp_xmpsmvvvvvv (k : Nat) (x_1 : (Option disk_file)) (x_3 : (List ((List UInt8) × disk_file))) (capacity_7 : Int) (fuse_8 : Int) (dead_9 : Bool) (writes_10 : Int) (x_12 : (List UInt8)) (x_14 : (List UInt8)) : Option (((List ((List UInt8) × disk_file)) × (Option disk_file))) :=
 Option.bind (
  lt1 (Option.isNone x_1) fun v_16 =>
  if v_16 = true then
   lt1 (mput x_12 (disk_file.mk ([] : (List UInt8)) (0 : Int)) x_3) fun x_18 =>
   some (x_18, (some default : Option disk_file))
  else
   some (x_3, x_1)
 ) fun (x_19, x_20) =>
  Option.bind (x_20) fun u_22 =>
  Option.bind (mgetO (some x_19) x_12) fun u_23 =>
  Option.bind (slices_Clonebyte_byte k u_23.b) fun v_24 =>
  Option.bind (apL 1 v_24 x_14) fun x_27 =>
  Option.bind (x_20) fun u_30 =>
  Option.bind (qupdN x_19 x_12 (fun u => { u with b := x_27 })) fun x_32 =>
  some (x_32, x_20)

def disk_Disk_write_pcppppcrrrr_smvvvvmxrvv (k : Nat) (capacity_1 : Int) (fuse_2 : Int) (dead_3 : Bool) (writes_4 : Int) (x_6 : (List ((List UInt8) × disk_file))) (x_9 : (Option disk_file)) (x_12 : (List UInt8)) (x_14 : (List UInt8)) : Option ((Int × (List ((List UInt8) × disk_file)) × Int × Bool × Int × (Option disk_file))) :=
 if dead_3 = true then
  some ((8 : Int), x_6, fuse_2, dead_3, writes_4, x_9)
 else
  lt1 (w64 (writes_4 + (1 : Int))) fun v_16 =>
  lt1 ((fuse_2 == (0 : Int))) fun v_17 =>
  if v_17 = true then
   Option.bind (disk_Disk_Append_1_pppp_xmpsmvvvvvv k x_9 x_6 capacity_1 fuse_2 true v_16 x_12 x_14) fun (x_18, x_19) =>
   some ((8 : Int), (x_18), fuse_2, true, v_16, x_19)
  else
   Option.bind (
    lt1 (decide (fuse_2 > (0 : Int))) fun v_21 =>
    if v_21 = true then
     lt1 (w64 (fuse_2 - (1 : Int))) fun v_22 =>
     some v_22
    else
     some fuse_2
   ) fun x_23 =>
    Option.bind (disk_Disk_Append_1_pppp_xmpsmvvvvvv k x_9 x_6 capacity_1 x_23 dead_3 v_16 x_12 x_14) fun (x_24, x_25) =>
    some ((0 : Int), (x_24), x_23, dead_3, v_16, x_25)

def disk_Disk_Append_pvv_smvvvvm (k : Nat) (name_1 : (List UInt8)) (b_2 : (List UInt8)) (capacity_3 : Int) (fuse_4 : Int) (dead_5 : Bool) (writes_6 : Int) (x_8 : (List ((List UInt8) × disk_file))) : Option ((Int × (List ((List UInt8) × disk_file)) × Int × Bool × Int)) :=
 Option.bind (disk_Disk_there_p_smvvvvm k capacity_3 fuse_4 dead_5 writes_6 x_8) fun _ =>
 Option.bind (disk_MayName k name_1) fun v_15 =>
 lt1 ((!v_15)) fun v_16 =>
 if v_16 = true then
  some ((2 : Int), x_8, fuse_4, dead_5, writes_6)
 else
  lt1 (mgetO (some x_8) name_1) fun f_17 =>
  Option.bind (
   Option.bind (disk_Disk_Room_p_smvvvvm k capacity_3 fuse_4 dead_5 writes_6 x_8) fun v_19 =>
   lt1 (decide ((List.length b_2 : Int) > v_19)) fun v_20 =>
   if v_20 = true then
    some true
   else
    lt1 (Option.isNone f_17) fun v_21 =>
    if v_21 = true then
     lt1 (decide ((List.length (Option.getD (some x_8) []) : Int) ≥ (64 : Int))) fun v_22 =>
     some v_22
    else
     some false
  ) fun x_23 =>
   if x_23 = true then
    some ((5 : Int), x_8, fuse_4, dead_5, writes_6)
   else
    Option.bind (disk_Disk_write_pcppppcrrrr_smvvvvmxrvv k capacity_3 fuse_4 dead_5 writes_6 x_8 f_17 name_1 b_2) fun (v_24, x_25, x_26, x_27, x_28, x_29) =>
    some (v_24, (x_25), x_26, x_27, x_28)

def disk_Disk_find_pv_smvvvvm (k : Nat) (name_1 : (List UInt8)) (capacity_2 : Int) (fuse_3 : Int) (dead_4 : Bool) (writes_5 : Int) (x_7 : (List ((List UInt8) × disk_file))) : Option (((Option disk_file) × Int)) :=
 Option.bind (disk_Disk_there_p_smvvvvm k capacity_2 fuse_3 dead_4 writes_5 x_7) fun _ =>
 Option.bind (disk_MayName k name_1) fun v_11 =>
 lt1 ((!v_11)) fun v_12 =>
 if v_12 = true then
  some ((none : Option disk_file), (2 : Int))
 else
  lt1 (mgetO (some x_7) name_1) fun f_13 =>
  lt1 (Option.isNone f_13) fun v_14 =>
  if v_14 = true then
   some ((none : Option disk_file), (6 : Int))
  else
   lt1 (mgetO (some x_7) name_1) fun f_15 =>
   some (f_15, (0 : Int))

def disk_nothing (k : Nat) : Option ((Unit)) :=
 some ()

def disk_Disk_Sync_1_p_xm (k : Nat) (key_1 : (List UInt8)) (x_2 : (Option disk_file)) (x_4 : (List ((List UInt8) × disk_file))) : Option (((List ((List UInt8) × disk_file)))) :=
 Option.bind (x_2) fun u_7 =>
 Option.bind (mgetO (some x_4) key_1) fun u_8 =>
 Option.bind (x_2) fun u_9 =>
 Option.bind (qupdN x_4 key_1 (fun u => { u with lasts := (List.length u_8.b : Int) })) fun x_11 =>
 some x_11

def disk_Disk_write_pcpc_smvvvvmx (k : Nat) (capacity_1 : Int) (fuse_2 : Int) (dead_3 : Bool) (writes_4 : Int) (x_6 : (List ((List UInt8) × disk_file))) (key_9 : (List UInt8)) (x_10 : (Option disk_file)) : Option ((Int × (List ((List UInt8) × disk_file)) × Int × Bool × Int)) :=
 if dead_3 = true then
  some ((8 : Int), x_6, fuse_2, dead_3, writes_4)
 else
  lt1 (w64 (writes_4 + (1 : Int))) fun v_12 =>
  lt1 ((fuse_2 == (0 : Int))) fun v_13 =>
  if v_13 = true then
   Option.bind (disk_nothing k) fun _ =>
   some ((8 : Int), x_6, fuse_2, true, v_12)
  else
   Option.bind (
    lt1 (decide (fuse_2 > (0 : Int))) fun v_15 =>
    if v_15 = true then
     lt1 (w64 (fuse_2 - (1 : Int))) fun v_16 =>
     some v_16
    else
     some fuse_2
   ) fun x_17 =>
    Option.bind (disk_Disk_Sync_1_p_xm k key_9 x_10 x_6) fun x_18 =>
    some ((0 : Int), (x_18), x_17, dead_3, v_12)

def disk_Disk_Sync_pv_smvvvvm (k : Nat) (name_1 : (List UInt8)) (capacity_2 : Int) (fuse_3 : Int) (dead_4 : Bool) (writes_5 : Int) (x_7 : (List ((List UInt8) × disk_file))) : Option ((Int × (List ((List UInt8) × disk_file)) × Int × Bool × Int)) :=
 Option.bind (disk_Disk_find_pv_smvvvvm k name_1 capacity_2 fuse_3 dead_4 writes_5 x_7) fun (v_10, v_11) =>
 lt1 ((v_11 != (0 : Int))) fun v_13 =>
 if v_13 = true then
  some (v_11, x_7, fuse_3, dead_4, writes_5)
 else
  Option.bind (disk_Disk_write_pcpc_smvvvvmx k capacity_2 fuse_3 dead_4 writes_5 x_7 name_1 v_10) fun (v_14, x_15, x_16, x_17, x_18) =>
  some (v_14, (x_15), x_16, x_17, x_18)

def disk_Disk_Copy_p_smvvvvm.b1 (k : Nat) (x_6 : (List ((List UInt8) × disk_file))) (x_14 : (List ((List UInt8) × disk_file))) (e_16 : ((List UInt8) × disk_file)) : Option (((List ((List UInt8) × disk_file))) ⊕ (((List ((List UInt8) × disk_file))))) :=
 Option.bind (mgetO (some x_6) e_16.1) fun u_19 =>
 Option.bind (slices_Clonebyte_byte k u_19.b) fun v_20 =>
 Option.bind (mgetO (some x_6) e_16.1) fun u_23 =>
 lt1 (mput e_16.1 (disk_file.mk v_20 u_23.lasts) x_14) fun x_25 =>
 some (.inl x_25)

def disk_Disk_Copy_p_smvvvvm.f1 (k : Nat) (x_14 : (List ((List UInt8) × disk_file))) : Option (((List ((List UInt8) × disk_file)))) :=
 lt1 (canon x_14) fun x_18 =>
 some x_18

def disk_Disk_Copy_p_smvvvvm (k : Nat) (capacity_1 : Int) (fuse_2 : Int) (dead_3 : Bool) (writes_4 : Int) (x_6 : (List ((List UInt8) × disk_file))) : Option (((List ((List UInt8) × disk_file)))) :=
 Option.bind (disk_Disk_there_p_smvvvvm k capacity_1 fuse_2 dead_3 writes_4 x_6) fun _ =>
 Option.bind (
  rangeM (Option.getD (some x_6) []) (fun s e => disk_Disk_Copy_p_smvvvvm.b1 k x_6 s e) (fun s => disk_Disk_Copy_p_smvvvvm.f1 k s) ([] : (List ((List UInt8) × disk_file)))
 ) fun x_26 =>
  some x_26

def maps_Keysmapstringdisk_file_string_disk_file_m_m (k : Nat) (x_1 : (List ((List UInt8) × disk_file))) : Option ((Unit)) :=
 some ()

def disk_Disk_Files_p_smvvvvm.b1 (k : Nat) (l_14 : (List (List UInt8))) (x_6 : (List ((List UInt8) × disk_file))) (sizes_17 : (List Int)) (x_18 : Int) : Option (((List Int) × Int) ⊕ (((List Int)))) :=
 lt1 (decide (x_18 < (List.length l_14 : Int))) fun v_21 =>
 if v_21 = true then
  Option.bind (inO l_14 x_18) fun i_22 =>
  Option.bind (l_14[i_22]?) fun v_23 =>
  lt1 (mgetO (some x_6) v_23) fun f_24 =>
  Option.bind (f_24) fun u_25 =>
  Option.bind (mgetO (some x_6) v_23) fun u_26 =>
  Option.bind (apL 8 sizes_17 ([(List.length u_26.b : Int)] : (List Int))) fun x_27 =>
  lt1 (w64 (x_18 + (1 : Int))) fun v_30 =>
  some (.inl (x_27, v_30))
 else
  some (.inr sizes_17)

def disk_Disk_Files_p_smvvvvm (k : Nat) (capacity_1 : Int) (fuse_2 : Int) (dead_3 : Bool) (writes_4 : Int) (x_6 : (List ((List UInt8) × disk_file))) : Option (((List (List UInt8)) × (List Int))) :=
 Option.bind (
  Option.bind (disk_Disk_there_p_smvvvvm k capacity_1 fuse_2 dead_3 writes_4 x_6) fun _ =>
  Option.bind (maps_Keysmapstringdisk_file_string_disk_file_m_m k x_6) fun _ =>
  Option.bind (sortK (some x_6)) fun l_14 =>
  Option.bind (loopO (fun s => disk_Disk_Files_p_smvvvvm.b1 k l_14 x_6 s.1 s.2) k (([] : (List Int)), (0 : Int))) fun sizes_31 =>
   some (l_14, sizes_31)
 ) fun (names_34, sizes_35) =>
  some (names_34, sizes_35)

def disk_Disk_Files_1_ypp_loo.b1 {σ τ : Type} (k : Nat) (x_5 : (List (List UInt8))) (x_9 : (List Int)) (Y_1 : (σ → ((List UInt8) × Int) → Option (σ ⊕ τ))) (x_12 : (σ ⊕ τ)) (x_13 : Int) : Option (((σ ⊕ τ) × Int) ⊕ (((σ ⊕ τ)) ⊕ (((σ ⊕ τ))))) :=
 lt1 (decide (x_13 < (List.length x_5 : Int))) fun v_15 =>
 if v_15 = true then
  Option.bind (inO x_5 x_13) fun i_16 =>
  Option.bind (x_5[i_16]?) fun v_17 =>
  Option.bind (inO x_9 x_13) fun i_18 =>
  Option.bind (x_9[i_18]?) fun v_19 =>
  Option.bind (yldO Y_1 x_12 (v_17, v_19)) fun y_20 =>
  lt1 ((!(Sum.isLeft y_20))) fun v_22 =>
  if v_22 = true then
   some (.inr (.inr y_20))
  else
   lt1 (w64 (x_13 + (1 : Int))) fun v_23 =>
   some (.inl (y_20, v_23))
 else
  some (.inr (.inl x_12))

def disk_Disk_Files_1_ypp_loo {σ τ : Type} (k : Nat) (Y_1 : (σ → ((List UInt8) × Int) → Option (σ ⊕ τ))) (x_2 : (σ ⊕ τ)) (x_5 : (List (List UInt8))) (x_9 : (List Int)) : Option (((σ ⊕ τ))) :=
 Option.bind (loopO (fun s => disk_Disk_Files_1_ypp_loo.b1 k x_5 x_9 Y_1 s.1 s.2) k (x_2, (0 : Int))) fun t => match t with
 | (.inl x_24) =>
  some x_24
 | (.inr q) =>
  some q

def disk_Disk_Crash_pv_smvvvvm.y1 (k : Nat) (a_1 : (List Int)) (x_25 : (List ((List UInt8) × disk_file))) (x_26 : Int) (a_27 : (List UInt8)) (a_28 : Int) : Option (((List ((List UInt8) × disk_file)) × Int) ⊕ (Empty)) :=
 lt1 (mgetO (some x_25) a_27) fun f_29 =>
 Option.bind (f_29) fun u_30 =>
 Option.bind (mgetO (some x_25) a_27) fun u_31 =>
 Option.bind (f_29) fun u_32 =>
 Option.bind (mgetO (some x_25) a_27) fun u_33 =>
 lt1 (w64 ((List.length u_31.b : Int) - u_33.lasts)) fun v_34 =>
 lt1 ((v_34 == (0 : Int))) fun v_35 =>
 if v_35 = true then
  some (.inl (x_25, x_26))
 else
  Option.bind (
   Option.bind (
    lt1 (decide (x_26 < (List.length a_1 : Int))) fun v_36 =>
    Option.bind (if v_36 = true then idxL a_1 x_26 else some default) fun v_37 =>
    lt1 (decide (v_37 > (0 : Int))) fun v_38 =>
    lt1 (bif v_36 then v_38 else false) fun v_39 =>
    some v_39
   ) fun x_40 =>
    if x_40 = true then
     Option.bind (idxL a_1 x_26) fun v_41 =>
     lt1 (w64 (v_34 + (1 : Int))) fun v_42 =>
     Option.bind (modI v_41 v_42) fun v_43 =>
     some v_43
    else
     some (0 : Int)
  ) fun x_44 =>
   lt1 (w64 (x_26 + (1 : Int))) fun v_45 =>
   Option.bind (f_29) fun u_46 =>
   Option.bind (mgetO (some x_25) a_27) fun u_47 =>
   lt1 (w64 (u_47.lasts + x_44)) fun v_48 =>
   Option.bind (f_29) fun u_49 =>
   Option.bind (qupdN x_25 a_27 (fun u => { u with lasts := v_48 })) fun x_51 =>
   Option.bind (f_29) fun u_52 =>
   Option.bind (mgetO (some x_51) a_27) fun u_53 =>
   Option.bind (f_29) fun u_54 =>
   Option.bind (mgetO (some x_51) a_27) fun u_55 =>
   Option.bind (subL u_53.b (0) u_55.lasts) fun v_56 =>
   Option.bind (f_29) fun u_57 =>
   Option.bind (qupdN x_51 a_27 (fun u => { u with b := v_56 })) fun x_59 =>
   some (.inl (x_59, v_45))

def disk_Disk_Crash_pv_smvvvvm (k : Nat) (a_1 : (List Int)) (capacity_2 : Int) (fuse_3 : Int) (dead_4 : Bool) (writes_5 : Int) (x_7 : (List ((List UInt8) × disk_file))) : Option (((List ((List UInt8) × disk_file)))) :=
 Option.bind (disk_Disk_Copy_p_smvvvvm k capacity_2 fuse_3 dead_4 writes_5 x_7) fun v_11 =>
 Option.bind (
  Option.bind (disk_Disk_Files_p_smvvvvm k capacity_2 fuse_3 dead_4 writes_5 x_7) fun (v_17, x_18) =>
  Option.bind (disk_Disk_Files_1_ypp_loo k (fun (s : (List ((List UInt8) × disk_file)) × Int) (u : (List UInt8) × Int) => disk_Disk_Crash_pv_smvvvvm.y1 k a_1 s.1 s.2 u.1 u.2) (Sum.inl ((v_11), (0 : Int))) v_17 x_18) fun tv2 => match tv2 with
  | (.inl (x_61, x_62)) =>
   some x_61
  | (.inr e) => nomatch e
 ) fun x_63 =>
  some x_63

def disk_Disk_Read_pv_smvvvvm (k : Nat) (name_1 : (List UInt8)) (capacity_2 : Int) (fuse_3 : Int) (dead_4 : Bool) (writes_5 : Int) (x_7 : (List ((List UInt8) × disk_file))) : Option (((List UInt8) × Int)) :=
 Option.bind (disk_Disk_find_pv_smvvvvm k name_1 capacity_2 fuse_3 dead_4 writes_5 x_7) fun (v_10, v_11) =>
 lt1 ((v_11 != (0 : Int))) fun v_12 =>
 if v_12 = true then
  some (([] : (List UInt8)), v_11)
 else
  Option.bind (v_10) fun u_13 =>
  Option.bind (mgetO (some x_7) name_1) fun u_14 =>
  Option.bind (slices_Clonebyte_byte k u_14.b) fun v_15 =>
  some (v_15, (0 : Int))

def disk_Disk_Lasts_pv_smvvvvm (k : Nat) (name_1 : (List UInt8)) (capacity_2 : Int) (fuse_3 : Int) (dead_4 : Bool) (writes_5 : Int) (x_7 : (List ((List UInt8) × disk_file))) : Option ((Int × Int)) :=
 Option.bind (disk_Disk_find_pv_smvvvvm k name_1 capacity_2 fuse_3 dead_4 writes_5 x_7) fun (v_10, v_11) =>
 lt1 ((v_11 != (0 : Int))) fun v_12 =>
 if v_12 = true then
  some ((0 : Int), v_11)
 else
  Option.bind (v_10) fun u_13 =>
  Option.bind (mgetO (some x_7) name_1) fun u_14 =>
  some (u_14.lasts, (0 : Int))

def disk_Disk_Fuse_pv_smvvvvm (k : Nat) (n_1 : Int) (capacity_2 : Int) (fuse_3 : Int) (dead_4 : Bool) (writes_5 : Int) (x_7 : (List ((List UInt8) × disk_file))) : Option ((Int)) :=
 Option.bind (disk_Disk_there_p_smvvvvm k capacity_2 fuse_3 dead_4 writes_5 x_7) fun _ =>
 lt1 (maxI n_1 (-1 : Int)) fun v_11 =>
 some v_11

def disk_Disk_Rename_1_pppp_psmvvvvmvxv (k : Nat) (capacity_2 : Int) (fuse_3 : Int) (dead_4 : Bool) (writes_5 : Int) (x_7 : (List ((List UInt8) × disk_file))) (x_10 : (List UInt8)) (x_12 : (Option disk_file)) (x_14 : (List UInt8)) : Option (((List ((List UInt8) × disk_file)))) :=
 Option.bind (andO x_12 (mgetO (some x_7) x_10)) fun u_17 =>
 lt1 (mput x_14 u_17 (mdel x_10 x_7)) fun x_18 =>
 some x_18

def disk_Disk_write_pcppppc_smvvvvmrvxv (k : Nat) (capacity_1 : Int) (fuse_2 : Int) (dead_3 : Bool) (writes_4 : Int) (x_6 : (List ((List UInt8) × disk_file))) (x_10 : (List UInt8)) (x_12 : (Option disk_file)) (x_14 : (List UInt8)) : Option ((Int × (List ((List UInt8) × disk_file)) × Int × Bool × Int × (List UInt8) × (Option disk_file))) :=
 if dead_3 = true then
  some ((8 : Int), x_6, fuse_2, dead_3, writes_4, x_10, x_12)
 else
  lt1 (w64 (writes_4 + (1 : Int))) fun v_16 =>
  lt1 ((fuse_2 == (0 : Int))) fun v_17 =>
  if v_17 = true then
   Option.bind (disk_nothing k) fun _ =>
   some ((8 : Int), x_6, fuse_2, true, v_16, x_10, x_12)
  else
   Option.bind (
    lt1 (decide (fuse_2 > (0 : Int))) fun v_19 =>
    if v_19 = true then
     lt1 (w64 (fuse_2 - (1 : Int))) fun v_20 =>
     some v_20
    else
     some fuse_2
   ) fun x_21 =>
    Option.bind (disk_Disk_Rename_1_pppp_psmvvvvmvxv k capacity_1 x_21 dead_3 v_16 x_6 x_10 x_12 x_14) fun x_22 =>
    some ((0 : Int), (x_22), x_21, dead_3, v_16, x_14, (some default : Option disk_file))

def disk_Disk_Rename_pvv_smvvvvm (k : Nat) (name_1 : (List UInt8)) (to_2 : (List UInt8)) (capacity_3 : Int) (fuse_4 : Int) (dead_5 : Bool) (writes_6 : Int) (x_8 : (List ((List UInt8) × disk_file))) : Option ((Int × (List ((List UInt8) × disk_file)) × Int × Bool × Int)) :=
 Option.bind (disk_Disk_find_pv_smvvvvm k name_1 capacity_3 fuse_4 dead_5 writes_6 x_8) fun (v_14, v_15) =>
 lt1 ((v_15 == (1 : Int))) fun v_17 =>
 if v_17 = true then
  some (v_15, x_8, fuse_4, dead_5, writes_6)
 else
  Option.bind (disk_MayName k to_2) fun v_18 =>
  lt1 ((!v_18)) fun v_19 =>
  if v_19 = true then
   some ((2 : Int), x_8, fuse_4, dead_5, writes_6)
  else
   lt1 ((v_15 != (0 : Int))) fun v_20 =>
   if v_20 = true then
    some (v_15, x_8, fuse_4, dead_5, writes_6)
   else
    Option.bind (disk_Disk_write_pcppppc_smvvvvmrvxv k capacity_3 fuse_4 dead_5 writes_6 x_8 name_1 v_14 to_2) fun (v_21, x_22, x_23, x_24, x_25, x_26, x_27) =>
    some (v_21, (x_22), x_23, x_24, x_25)

def disk_Disk_Cut_1_pp_xmv (k : Nat) (key_1 : (List UInt8)) (x_2 : (Option disk_file)) (x_4 : (List ((List UInt8) × disk_file))) (x_7 : Int) : Option (((List ((List UInt8) × disk_file)))) :=
 Option.bind (x_2) fun u_9 =>
 Option.bind (mgetO (some x_4) key_1) fun u_10 =>
 Option.bind (subL u_10.b (0) x_7) fun v_11 =>
 Option.bind (x_2) fun u_12 =>
 Option.bind (mgetO (some x_4) key_1) fun u_13 =>
 lt1 (minI x_7 u_13.lasts) fun v_14 =>
 Option.bind (x_2) fun u_15 =>
 Option.bind (qupdN x_4 key_1 (fun u => { u with b := v_11 })) fun x_17 =>
 Option.bind (x_2) fun u_18 =>
 Option.bind (qupdN x_17 key_1 (fun u => { u with lasts := v_14 })) fun x_20 =>
 some x_20

def disk_Disk_write_pcppc_smvvvvmxv (k : Nat) (capacity_1 : Int) (fuse_2 : Int) (dead_3 : Bool) (writes_4 : Int) (x_6 : (List ((List UInt8) × disk_file))) (key_9 : (List UInt8)) (x_10 : (Option disk_file)) (x_12 : Int) : Option ((Int × (List ((List UInt8) × disk_file)) × Int × Bool × Int)) :=
 if dead_3 = true then
  some ((8 : Int), x_6, fuse_2, dead_3, writes_4)
 else
  lt1 (w64 (writes_4 + (1 : Int))) fun v_14 =>
  lt1 ((fuse_2 == (0 : Int))) fun v_15 =>
  if v_15 = true then
   Option.bind (disk_nothing k) fun _ =>
   some ((8 : Int), x_6, fuse_2, true, v_14)
  else
   Option.bind (
    lt1 (decide (fuse_2 > (0 : Int))) fun v_17 =>
    if v_17 = true then
     lt1 (w64 (fuse_2 - (1 : Int))) fun v_18 =>
     some v_18
    else
     some fuse_2
   ) fun x_19 =>
    Option.bind (disk_Disk_Cut_1_pp_xmv k key_9 x_10 x_6 x_12) fun x_20 =>
    some ((0 : Int), (x_20), x_19, dead_3, v_14)

def disk_Disk_Cut_pvv_smvvvvm (k : Nat) (name_1 : (List UInt8)) (n_2 : Int) (capacity_3 : Int) (fuse_4 : Int) (dead_5 : Bool) (writes_6 : Int) (x_8 : (List ((List UInt8) × disk_file))) : Option ((Int × (List ((List UInt8) × disk_file)) × Int × Bool × Int)) :=
 Option.bind (disk_Disk_find_pv_smvvvvm k name_1 capacity_3 fuse_4 dead_5 writes_6 x_8) fun (v_12, v_13) =>
 Option.bind (
  lt1 ((v_13 == (6 : Int))) fun v_15 =>
  lt1 (decide (n_2 < (0 : Int))) fun v_16 =>
  lt1 (bif v_15 then v_16 else false) fun v_17 =>
  some v_17
 ) fun x_18 =>
  if x_18 = true then
   some ((2 : Int), x_8, fuse_4, dead_5, writes_6)
  else
   lt1 ((v_13 != (0 : Int))) fun v_19 =>
   if v_19 = true then
    some (v_13, x_8, fuse_4, dead_5, writes_6)
   else
    Option.bind (
     lt1 (decide (n_2 < (0 : Int))) fun v_20 =>
     if v_20 = true then
      some true
     else
      Option.bind (v_12) fun u_21 =>
      Option.bind (mgetO (some x_8) name_1) fun u_22 =>
      lt1 (decide (n_2 > (List.length u_22.b : Int))) fun v_23 =>
      some v_23
    ) fun x_24 =>
     if x_24 = true then
      some ((2 : Int), x_8, fuse_4, dead_5, writes_6)
     else
      Option.bind (disk_Disk_write_pcppc_smvvvvmxv k capacity_3 fuse_4 dead_5 writes_6 x_8 name_1 v_12 n_2) fun (v_25, x_26, x_27, x_28, x_29) =>
      some (v_25, (x_26), x_27, x_28, x_29)

def law05_known (k : Nat) : Option ((Bool)) :=
 Option.bind (disk_New k (9 : Int)) fun t => match t with
 | (.inl _) =>
  Option.bind (
   Option.bind (law05_num k (0 : Int)) fun _ =>
   Option.bind (disk_Disk_Append_pvv_smvvvvm k ([97] : List UInt8) ([(120 : UInt8), (121 : UInt8), (122 : UInt8)] : (List UInt8)) (9 : Int) (-1 : Int) false (0 : Int) ([] : (List ((List UInt8) × disk_file)))) fun (v_5, x_6, x_7, x_8, x_9) =>
   Option.bind (law05_num k v_5) fun _ =>
   lt1 (w64 ((0 : Int) + v_5)) fun v_12 =>
   Option.bind (disk_Disk_Sync_pv_smvvvvm k ([97] : List UInt8) (9 : Int) x_7 x_8 x_9 (x_6)) fun (v_13, x_14, x_15, x_16, x_17) =>
   Option.bind (law05_num k v_13) fun _ =>
   lt1 (w64 (v_12 + v_13)) fun v_19 =>
   Option.bind (disk_Disk_Append_pvv_smvvvvm k ([97] : List UInt8) ([(117 : UInt8), (118 : UInt8)] : (List UInt8)) (9 : Int) x_15 x_16 x_17 (x_14)) fun (v_21, x_22, x_23, x_24, x_25) =>
   Option.bind (law05_num k v_21) fun _ =>
   lt1 (w64 (v_19 + v_21)) fun v_28 =>
   lt1 ((v_28 != (0 : Int))) fun v_29 =>
   some ((x_22), x_23, x_24, x_25, v_29)
  ) fun (x_30, fuse_31, dead_32, writes_33, x_34) =>
   if x_34 = true then
    some false
   else
    Option.bind (disk_Disk_Crash_pv_smvvvvm k ([(1 : Int)] : (List Int)) (9 : Int) fuse_31 dead_32 writes_33 x_30) fun v_36 =>
    Option.bind (disk_Disk_Read_pv_smvvvvm k ([97] : List UInt8) (9 : Int) (-1 : Int) false (0 : Int) (v_36)) fun (v_40, v_41) =>
    Option.bind (disk_Disk_Lasts_pv_smvvvvm k ([97] : List UInt8) (9 : Int) fuse_31 dead_32 writes_33 x_30) fun (v_44, v_45) =>
    Option.bind (
     lt1 ((v_40 != ([120, 121, 122, 117] : List UInt8))) fun v_46 =>
     lt1 ((v_44 != (3 : Int))) fun v_47 =>
     lt1 (bif v_46 then true else v_47) fun v_48 =>
     Option.bind (if (!v_48) = true then law05_num k v_41 else some default) fun _ =>
     Option.bind (if (!v_48) = true then law05_num k v_45 else some default) fun _ =>
     lt1 (w64 (v_41 + v_45)) fun v_51 =>
     lt1 ((v_51 != (0 : Int))) fun v_52 =>
     lt1 (bif v_48 then true else v_52) fun v_53 =>
     some v_53
    ) fun x_54 =>
     if x_54 = true then
      some false
     else
      Option.bind (disk_Disk_Fuse_pv_smvvvvm k (1 : Int) (9 : Int) fuse_31 dead_32 writes_33 x_30) fun x_55 =>
      Option.bind (disk_Disk_Rename_pvv_smvvvvm k ([97] : List UInt8) ([98] : List UInt8) (9 : Int) x_55 dead_32 writes_33 x_30) fun (v_56, x_57, x_58, x_59, x_60) =>
      Option.bind (disk_Disk_Append_pvv_smvvvvm k ([98] : List UInt8) ([(119 : UInt8)] : (List UInt8)) (9 : Int) x_58 x_59 x_60 (x_57)) fun (v_63, x_64, x_65, x_66, x_67) =>
      Option.bind (disk_Disk_Read_pv_smvvvvm k ([98] : List UInt8) (9 : Int) x_65 x_66 x_67 (x_64)) fun (v_69, v_70) =>
      Option.bind (disk_Disk_Read_pv_smvvvvm k ([99] : List UInt8) (9 : Int) x_65 x_66 x_67 (x_64)) fun (v_73, v_74) =>
      Option.bind (
       Option.bind (law05_num k v_56) fun _ =>
       lt1 ((v_56 == (0 : Int))) fun v_78 =>
       Option.bind (if v_78 = true then law05_num k v_63 else some default) fun _ =>
       lt1 ((v_63 == (8 : Int))) fun v_80 =>
       lt1 (bif v_78 then v_80 else false) fun v_81 =>
       if v_81 = true then
        lt1 ((v_69 == ([120, 121, 122, 117, 118, 119] : List UInt8))) fun v_82 =>
        Option.bind (if v_82 = true then law05_num k v_70 else some default) fun _ =>
        lt1 ((v_70 == (0 : Int))) fun v_84 =>
        lt1 (bif v_82 then v_84 else false) fun v_85 =>
        if v_85 = true then
         Option.bind (disk_Disk_Cut_pvv_smvvvvm k ([98] : List UInt8) (0 : Int) (9 : Int) x_65 x_66 x_67 (x_64)) fun (v_86, x_87, x_88, x_89, x_90) =>
         Option.bind (law05_num k v_86) fun _ =>
         lt1 ((v_86 == (8 : Int))) fun v_92 =>
         if v_92 = true then
          Option.bind (disk_Disk_Append_pvv_smvvvvm k ([66] : List UInt8) ([(120 : UInt8)] : (List UInt8)) (9 : Int) x_88 x_89 x_90 (x_87)) fun (v_94, x_95, x_96, x_97, x_98) =>
          Option.bind (law05_num k v_94) fun _ =>
          lt1 ((v_94 == (2 : Int))) fun v_101 =>
          if v_101 = true then
           Option.bind (mkL 1 (99 : Int) (0 : UInt8)) fun v_102 =>
           Option.bind (disk_Disk_Append_pvv_smvvvvm k ([98] : List UInt8) v_102 (9 : Int) x_96 x_97 x_98 (x_95)) fun (v_104, x_105, x_106, x_107, x_108) =>
           Option.bind (law05_num k v_104) fun _ =>
           lt1 ((v_104 == (5 : Int))) fun v_111 =>
           Option.bind (if v_111 = true then law05_num k v_74 else some default) fun _ =>
           lt1 ((v_74 == (6 : Int))) fun v_113 =>
           lt1 (bif v_111 then v_113 else false) fun v_114 =>
           some v_114
          else
           some false
         else
          some false
        else
         some false
       else
        some false
      ) fun t_115 =>
       some t_115
 | (.inr _) =>
  Option.bind (
   some ()
  ) fun _ =>
   some false

def ref05_Much.b1 (k : Nat) (l_1 : (List ref05_Step)) (most_2 : Int) (n_3 : Int) (i_4 : Int) : Option ((Int × Int) ⊕ ((Unit) ⊕ ((Bool)))) :=
 Option.bind (
  lt1 (decide (i_4 < (List.length l_1 : Int))) fun v_5 =>
  lt1 (decide (i_4 ≤ most_2)) fun v_6 =>
  lt1 (bif v_5 then v_6 else false) fun v_7 =>
  some v_7
 ) fun x_8 =>
  if x_8 = true then
   Option.bind (idxL l_1 i_4) fun v_9 =>
   lt1 (minI (List.length v_9.B : Int) (20001 : Int)) fun v_10 =>
   lt1 (w64 (n_3 + v_10)) fun v_11 =>
   Option.bind (idxL l_1 i_4) fun v_12 =>
   lt1 (minI (List.length v_12.Name : Int) (20001 : Int)) fun v_13 =>
   lt1 (w64 (v_11 + v_13)) fun v_14 =>
   Option.bind (idxL l_1 i_4) fun v_15 =>
   lt1 (minI (List.length v_15.To : Int) (20001 : Int)) fun v_16 =>
   lt1 (w64 (v_14 + v_16)) fun v_17 =>
   Option.bind (idxL l_1 i_4) fun v_18 =>
   lt1 (minI (List.length v_18.Keep : Int) (20001 : Int)) fun v_19 =>
   lt1 (w64 (v_17 + v_19)) fun v_20 =>
   lt1 (decide (v_20 > (20000 : Int))) fun v_21 =>
   if v_21 = true then
    some (.inr (.inr true))
   else
    lt1 (w64 (i_4 + (1 : Int))) fun v_22 =>
    some (.inl (v_20, v_22))
  else
   some (.inr (.inl ()))

def ref05_Much (k : Nat) (l_1 : (List ref05_Step)) (most_2 : Int) : Option ((Bool)) :=
 Option.bind (
  Option.bind (loopO (fun s => ref05_Much.b1 k l_1 most_2 s.1 s.2) k ((0 : Int), (0 : Int))) fun t => match t with
  | (.inl _) =>
   some (.inl ())
  | (.inr q) =>
   some (.inr q)
  : Option ((Unit) ⊕ ((Bool)))) fun t => match t with
 | (.inl _) =>
  lt1 (decide ((List.length l_1 : Int) > most_2)) fun v_23 =>
  some v_23
 | (.inr q) =>
  some q

def disk_Disk_Append_1_pppp_xmpsmvvvvvw (k : Nat) (x_1 : (Option disk_file)) (x_3 : (List ((List UInt8) × disk_file))) (capacity_7 : Int) (fuse_8 : Int) (dead_9 : Bool) (writes_10 : Int) (x_12 : (List UInt8)) (o_14 : Nat) (n_15 : Nat) (x_17 : (List UInt8)) : Option (((List ((List UInt8) × disk_file)) × (Option disk_file))) :=
 Option.bind (
  lt1 (Option.isNone x_1) fun v_20 =>
  if v_20 = true then
   lt1 (mput x_12 (disk_file.mk ([] : (List UInt8)) (0 : Int)) x_3) fun x_22 =>
   some (x_22, (some default : Option disk_file))
  else
   some (x_3, x_1)
 ) fun (x_23, x_24) =>
  Option.bind (x_24) fun u_26 =>
  Option.bind (mgetO (some x_23) x_12) fun u_27 =>
  Option.bind (slices_Clonebyte_byte k u_27.b) fun v_28 =>
  Option.bind (apV 1 v_28 x_17 o_14 n_15) fun v_31 =>
  Option.bind (x_24) fun u_34 =>
  Option.bind (qupdN x_23 x_12 (fun u => { u with b := v_31 })) fun x_36 =>
  some (x_36, x_24)

def disk_Disk_write_pcppppcrrrr_smvvvvmxrvw (k : Nat) (capacity_1 : Int) (fuse_2 : Int) (dead_3 : Bool) (writes_4 : Int) (x_6 : (List ((List UInt8) × disk_file))) (x_9 : (Option disk_file)) (x_12 : (List UInt8)) (o_14 : Nat) (n_15 : Nat) (x_17 : (List UInt8)) : Option ((Int × (List ((List UInt8) × disk_file)) × Int × Bool × Int × (Option disk_file))) :=
 if dead_3 = true then
  some ((8 : Int), x_6, fuse_2, dead_3, writes_4, x_9)
 else
  lt1 (w64 (writes_4 + (1 : Int))) fun v_20 =>
  lt1 ((fuse_2 == (0 : Int))) fun v_21 =>
  if v_21 = true then
   Option.bind (disk_Disk_Append_1_pppp_xmpsmvvvvvw k x_9 x_6 capacity_1 fuse_2 true v_20 x_12 o_14 n_15 x_17) fun (x_22, x_23) =>
   some ((8 : Int), (x_22), fuse_2, true, v_20, x_23)
  else
   Option.bind (
    lt1 (decide (fuse_2 > (0 : Int))) fun v_25 =>
    if v_25 = true then
     lt1 (w64 (fuse_2 - (1 : Int))) fun v_26 =>
     some v_26
    else
     some fuse_2
   ) fun x_27 =>
    Option.bind (disk_Disk_Append_1_pppp_xmpsmvvvvvw k x_9 x_6 capacity_1 x_27 dead_3 v_20 x_12 o_14 n_15 x_17) fun (x_28, x_29) =>
    some ((0 : Int), (x_28), x_27, dead_3, v_20, x_29)

def disk_Disk_Append_pvw_smvvvvm (k : Nat) (name_1 : (List UInt8)) (o_2 : Nat) (n_3 : Nat) (capacity_4 : Int) (fuse_5 : Int) (dead_6 : Bool) (writes_7 : Int) (x_9 : (List ((List UInt8) × disk_file))) (x_12 : (List UInt8)) : Option ((Int × (List ((List UInt8) × disk_file)) × Int × Bool × Int)) :=
 Option.bind (disk_Disk_there_p_smvvvvm k capacity_4 fuse_5 dead_6 writes_7 x_9) fun _ =>
 Option.bind (disk_MayName k name_1) fun v_19 =>
 lt1 ((!v_19)) fun v_20 =>
 if v_20 = true then
  some ((2 : Int), x_9, fuse_5, dead_6, writes_7)
 else
  lt1 (mgetO (some x_9) name_1) fun f_21 =>
  Option.bind (
   Option.bind (disk_Disk_Room_p_smvvvvm k capacity_4 fuse_5 dead_6 writes_7 x_9) fun v_23 =>
   lt1 (decide (((n_3 : Nat) : Int) > v_23)) fun v_24 =>
   if v_24 = true then
    some true
   else
    lt1 (Option.isNone f_21) fun v_25 =>
    if v_25 = true then
     lt1 (decide ((List.length (Option.getD (some x_9) []) : Int) ≥ (64 : Int))) fun v_26 =>
     some v_26
    else
     some false
  ) fun x_27 =>
   if x_27 = true then
    some ((5 : Int), x_9, fuse_5, dead_6, writes_7)
   else
    Option.bind (disk_Disk_write_pcppppcrrrr_smvvvvmxrvw k capacity_4 fuse_5 dead_6 writes_7 x_9 f_21 name_1 o_2 n_3 x_12) fun (v_28, x_29, x_30, x_31, x_32, x_33) =>
    some (v_28, (x_29), x_30, x_31, x_32)

def disk_Disk_Remove_1_pp_psmvvvvmv (k : Nat) (capacity_2 : Int) (fuse_3 : Int) (dead_4 : Bool) (writes_5 : Int) (x_7 : (List ((List UInt8) × disk_file))) (x_10 : (List UInt8)) : Option (((List ((List UInt8) × disk_file)))) :=
 lt1 (mdel x_10 x_7) fun x_12 =>
 some x_12

def disk_Disk_write_pcppc_smvvvvmrv (k : Nat) (capacity_1 : Int) (fuse_2 : Int) (dead_3 : Bool) (writes_4 : Int) (x_6 : (List ((List UInt8) × disk_file))) (x_10 : (List UInt8)) : Option ((Int × (List ((List UInt8) × disk_file)) × Int × Bool × Int)) :=
 if dead_3 = true then
  some ((8 : Int), x_6, fuse_2, dead_3, writes_4)
 else
  lt1 (w64 (writes_4 + (1 : Int))) fun v_12 =>
  lt1 ((fuse_2 == (0 : Int))) fun v_13 =>
  if v_13 = true then
   Option.bind (disk_nothing k) fun _ =>
   some ((8 : Int), x_6, fuse_2, true, v_12)
  else
   Option.bind (
    lt1 (decide (fuse_2 > (0 : Int))) fun v_15 =>
    if v_15 = true then
     lt1 (w64 (fuse_2 - (1 : Int))) fun v_16 =>
     some v_16
    else
     some fuse_2
   ) fun x_17 =>
    Option.bind (disk_Disk_Remove_1_pp_psmvvvvmv k capacity_1 x_17 dead_3 v_12 x_6 x_10) fun x_18 =>
    some ((0 : Int), (x_18), x_17, dead_3, v_12)

def disk_Disk_Remove_pv_smvvvvm (k : Nat) (name_1 : (List UInt8)) (capacity_2 : Int) (fuse_3 : Int) (dead_4 : Bool) (writes_5 : Int) (x_7 : (List ((List UInt8) × disk_file))) : Option ((Int × (List ((List UInt8) × disk_file)) × Int × Bool × Int)) :=
 Option.bind (disk_Disk_find_pv_smvvvvm k name_1 capacity_2 fuse_3 dead_4 writes_5 x_7) fun (v_12, v_13) =>
 lt1 ((v_13 != (0 : Int))) fun v_14 =>
 if v_14 = true then
  some (v_13, x_7, fuse_3, dead_4, writes_5)
 else
  Option.bind (disk_Disk_write_pcppc_smvvvvmrv k capacity_2 fuse_3 dead_4 writes_5 x_7 name_1) fun (v_15, x_16, x_17, x_18, x_19) =>
  some (v_15, (x_16), x_17, x_18, x_19)

def law05_do_pv_smvvvvm.b1 (k : Nat) (x_26 : (List UInt8)) (x_27 : Int) : Option (((List UInt8) × Int) ⊕ ((Unit))) :=
 lt1 (decide (x_27 < (List.length x_26 : Int))) fun v_28 =>
 if v_28 = true then
  Option.bind (inO x_26 x_27) fun i_29 =>
  Option.bind (setO' x_26 i_29 (9 : UInt8)) fun x_30 =>
  lt1 (w64 (x_27 + (1 : Int))) fun v_31 =>
  some (.inl (x_30, v_31))
 else
  some (.inr ())

def law05_do_pv_smvvvvm (k : Nat) (a_1 : ref05_Step) (capacity_2 : Int) (fuse_3 : Int) (dead_4 : Bool) (writes_5 : Int) (x_7 : (List ((List UInt8) × disk_file))) : Option ((Int × (List ((List UInt8) × disk_file)) × Int × Bool × Int)) :=
 Option.bind (
  lt1 ((a_1.Kind == (1 : Int))) fun v_11 =>
  if v_11 = true then
   Option.bind (apL 1 ([] : (List UInt8)) a_1.B) fun v_12 =>
   Option.bind (apL 1 v_12 ([(7 : UInt8)] : (List UInt8))) fun x_15 =>
   Option.bind (viewN 0 (List.length x_15) (0 : Int) (List.length a_1.B : Int)) fun (o_18, n_19) =>
   Option.bind (disk_Disk_Append_pvw_smvvvvm k a_1.Name o_18 n_19 capacity_2 fuse_3 dead_4 writes_5 x_7 x_15) fun (v_20, x_21, x_22, x_23, x_24) =>
   Option.bind (
    loopO (fun s => law05_do_pv_smvvvvm.b1 k s.1 s.2) k (x_15, (0 : Int))
   ) fun _ =>
    Option.bind (law05_num k v_20) fun _ =>
    some (.inr (v_20, (x_21), x_22, x_23, x_24))
  else
   lt1 ((a_1.Kind == (2 : Int))) fun v_33 =>
   if v_33 = true then
    Option.bind (disk_Disk_Sync_pv_smvvvvm k a_1.Name capacity_2 fuse_3 dead_4 writes_5 x_7) fun (v_34, x_35, x_36, x_37, x_38) =>
    Option.bind (law05_num k v_34) fun _ =>
    some (.inr (v_34, (x_35), x_36, x_37, x_38))
   else
    lt1 ((a_1.Kind == (3 : Int))) fun v_40 =>
    if v_40 = true then
     Option.bind (disk_Disk_Cut_pvv_smvvvvm k a_1.Name a_1.N capacity_2 fuse_3 dead_4 writes_5 x_7) fun (v_41, x_42, x_43, x_44, x_45) =>
     Option.bind (law05_num k v_41) fun _ =>
     some (.inr (v_41, (x_42), x_43, x_44, x_45))
    else
     lt1 ((a_1.Kind == (4 : Int))) fun v_47 =>
     if v_47 = true then
      Option.bind (disk_Disk_Rename_pvv_smvvvvm k a_1.Name a_1.To capacity_2 fuse_3 dead_4 writes_5 x_7) fun (v_48, x_49, x_50, x_51, x_52) =>
      Option.bind (law05_num k v_48) fun _ =>
      some (.inr (v_48, (x_49), x_50, x_51, x_52))
     else
      lt1 ((a_1.Kind == (5 : Int))) fun v_55 =>
      if v_55 = true then
       Option.bind (disk_Disk_Remove_pv_smvvvvm k a_1.Name capacity_2 fuse_3 dead_4 writes_5 x_7) fun (v_56, x_57, x_58, x_59, x_60) =>
       Option.bind (law05_num k v_56) fun _ =>
       some (.inr (v_56, (x_57), x_58, x_59, x_60))
      else
       lt1 ((a_1.Kind == (6 : Int))) fun v_62 =>
       if v_62 = true then
        Option.bind (disk_Disk_Fuse_pv_smvvvvm k a_1.N capacity_2 fuse_3 dead_4 writes_5 x_7) fun x_63 =>
        some (.inl x_63)
       else
        lt1 ((a_1.Kind == (7 : Int))) fun v_64 =>
        if v_64 = true then
         Option.bind (disk_Disk_Crash_pv_smvvvvm k a_1.Keep capacity_2 fuse_3 dead_4 writes_5 x_7) fun v_65 =>
         some (.inr ((0 : Int), (v_65), (-1 : Int), false, (0 : Int)))
        else
         some (.inl fuse_3)
  : Option ((Int) ⊕ ((Int × (List ((List UInt8) × disk_file)) × Int × Bool × Int)))) fun t => match t with
 | (.inl fuse_69) =>
  some ((0 : Int), x_7, fuse_69, dead_4, writes_5)
 | (.inr q) =>
  some q

def disk_Disk_Dead_p_smvvvvm (k : Nat) (capacity_1 : Int) (fuse_2 : Int) (dead_3 : Bool) (writes_4 : Int) (x_6 : (List ((List UInt8) × disk_file))) : Option ((Unit)) :=
 Option.bind (
  Option.bind (disk_Disk_there_p_smvvvvm k capacity_1 fuse_2 dead_3 writes_4 x_6) fun _ =>
  some ()
 ) fun _ =>
  some ()

def disk_Disk_Writes_p_smvvvvm (k : Nat) (capacity_1 : Int) (fuse_2 : Int) (dead_3 : Bool) (writes_4 : Int) (x_6 : (List ((List UInt8) × disk_file))) : Option ((Unit)) :=
 Option.bind (disk_Disk_there_p_smvvvvm k capacity_1 fuse_2 dead_3 writes_4 x_6) fun _ =>
 some ()

def bytes_Equal (k : Nat) (a_1 : (List UInt8)) (b_2 : (List UInt8)) : Option ((Bool)) :=
 lt1 ((a_1 == b_2)) fun v_3 =>
 some v_3

def disk_Disk_Same_pp_smvvvvmsmvvvvm.y1 (k : Nat) (x_6 : (List ((List UInt8) × disk_file))) (x_14 : (List ((List UInt8) × disk_file))) (a_30 : (List UInt8)) (a_31 : Int) : Option ((Unit) ⊕ ((Unit))) :=
 lt1 (mgetO (some x_6) a_30) fun f_32 =>
 lt1 (mgetO (some x_14) a_30) fun f_33 =>
 Option.bind (
  lt1 (Option.isNone f_33) fun v_34 =>
  if v_34 = true then
   some true
  else
   Option.bind (f_32) fun u_35 =>
   Option.bind (mgetO (some x_6) a_30) fun u_36 =>
   Option.bind (f_33) fun u_37 =>
   Option.bind (mgetO (some x_14) a_30) fun u_38 =>
   Option.bind (bytes_Equal k u_36.b u_38.b) fun v_39 =>
   lt1 ((!v_39)) fun v_40 =>
   if v_40 = true then
    some true
   else
    Option.bind (f_32) fun u_41 =>
    Option.bind (mgetO (some x_6) a_30) fun u_42 =>
    Option.bind (f_33) fun u_43 =>
    Option.bind (mgetO (some x_14) a_30) fun u_44 =>
    lt1 ((u_42.lasts != u_44.lasts)) fun v_45 =>
    some v_45
 ) fun x_46 =>
  if x_46 = true then
   some (.inr ())
  else
   some (.inl ())

def disk_Disk_Same_pp_smvvvvmsmvvvvm (k : Nat) (capacity_1 : Int) (fuse_2 : Int) (dead_3 : Bool) (writes_4 : Int) (x_6 : (List ((List UInt8) × disk_file))) (capacity_9 : Int) (fuse_10 : Int) (dead_11 : Bool) (writes_12 : Int) (x_14 : (List ((List UInt8) × disk_file))) : Option ((Bool)) :=
 Option.bind (
  Option.bind (disk_Disk_there_p_smvvvvm k capacity_1 fuse_2 dead_3 writes_4 x_6) fun _ =>
  Option.bind (disk_Disk_there_p_smvvvvm k capacity_9 fuse_10 dead_11 writes_12 x_14) fun _ =>
  some ()
 ) fun _ =>
  Option.bind (
   Option.bind (disk_Disk_Files_p_smvvvvm k capacity_1 fuse_2 dead_3 writes_4 x_6) fun (v_22, x_23) =>
   Option.bind (disk_Disk_Files_1_ypp_loo k (fun (s : Unit) (u : (List UInt8) × Int) => disk_Disk_Same_pp_smvvvvmsmvvvvm.y1 k x_6 x_14 u.1 u.2) (Sum.inl ()) v_22 x_23) fun tv3 => match tv3 with
   | (.inl _) =>
    some (.inl ())
   | (.inr _) =>
    some (.inr false)
   : Option ((Unit) ⊕ ((Bool)))) fun t => match t with
  | (.inl _) =>
   Option.bind (
    lt1 ((capacity_1 == capacity_9)) fun v_49 =>
    if v_49 = true then
     lt1 (((List.length (Option.getD (some x_6) []) : Int) == (List.length (Option.getD (some x_14) []) : Int))) fun v_50 =>
     some v_50
    else
     some false
   ) fun x_51 =>
    some x_51
  | (.inr q) =>
   some q

def law05_DiskBack.b1 (k : Nat) (t_1 : (List ref05_Step)) (x_14 : (List ((List UInt8) × disk_file))) (fuse_15 : Int) (dead_16 : Bool) (writes_17 : Int) (x_18 : Int) : Option (((List ((List UInt8) × disk_file)) × Int × Bool × Int × Int) ⊕ (((List ((List UInt8) × disk_file)) × Int × Bool × Int))) :=
 lt1 (decide (x_18 < (List.length t_1 : Int))) fun v_22 =>
 if v_22 = true then
  Option.bind (idxL t_1 x_18) fun v_23 =>
  Option.bind (law05_do_pv_smvvvvm k v_23 (30000 : Int) fuse_15 dead_16 writes_17 x_14) fun (v_24, v_25, x_26, x_27, x_28) =>
  lt1 (w64 (x_18 + (1 : Int))) fun v_32 =>
  some (.inl ((v_25), x_26, x_27, x_28, v_32))
 else
  some (.inr (x_14, fuse_15, dead_16, writes_17))

def law05_DiskBack.y2 (k : Nat) (fuse_34 : Int) (dead_35 : Bool) (writes_36 : Int) (x_33 : (List ((List UInt8) × disk_file))) (v_40 : (List ((List UInt8) × disk_file))) (x_63 : Int) (a_64 : (List UInt8)) (a_65 : Int) : Option ((Int) ⊕ ((Int))) :=
 Option.bind (disk_Disk_Read_pv_smvvvvm k a_64 (30000 : Int) fuse_34 dead_35 writes_36 x_33) fun (v_66, v_67) =>
 Option.bind (disk_Disk_Read_pv_smvvvvm k a_64 (30000 : Int) (-1 : Int) false (0 : Int) (v_40)) fun (v_70, v_71) =>
 Option.bind (disk_Disk_Lasts_pv_smvvvvm k a_64 (30000 : Int) fuse_34 dead_35 writes_36 x_33) fun (v_74, v_75) =>
 Option.bind (disk_Disk_Lasts_pv_smvvvvm k a_64 (30000 : Int) (-1 : Int) false (0 : Int) (v_40)) fun (v_76, v_77) =>
 Option.bind (
  Option.bind (law05_num k v_67) fun _ =>
  Option.bind (law05_num k v_71) fun _ =>
  lt1 (w64 (v_67 + v_71)) fun v_80 =>
  Option.bind (law05_num k v_75) fun _ =>
  lt1 (w64 (v_80 + v_75)) fun v_82 =>
  Option.bind (law05_num k v_77) fun _ =>
  lt1 (w64 (v_82 + v_77)) fun v_84 =>
  lt1 ((v_84 != (0 : Int))) fun v_85 =>
  if v_85 = true then
   some true
  else
   lt1 (decide ((List.length v_70 : Int) < v_74)) fun v_86 =>
   if v_86 = true then
    some true
   else
    lt1 (decide ((List.length v_70 : Int) > (List.length v_66 : Int))) fun v_87 =>
    if v_87 = true then
     some true
    else
     Option.bind (subL v_66 (0) (List.length v_70 : Int)) fun v_88 =>
     lt1 ((v_88 != v_70)) fun v_89 =>
     if v_89 = true then
      some true
     else
      lt1 ((v_76 != (List.length v_70 : Int))) fun v_90 =>
      some v_90
 ) fun x_91 =>
  if x_91 = true then
   some (.inr x_63)
  else
   lt1 (w64 (x_63 + (1 : Int))) fun v_92 =>
   some (.inl v_92)

def law05_DiskBack.y3 (k : Nat) (fuse_34 : Int) (dead_35 : Bool) (writes_36 : Int) (x_33 : (List ((List UInt8) × disk_file))) (x_114 : Int) (a_115 : (List UInt8)) (a_116 : Int) : Option ((Int) ⊕ ((Int))) :=
 Option.bind (disk_Disk_Read_pv_smvvvvm k a_115 (30000 : Int) fuse_34 dead_35 writes_36 x_33) fun (v_117, v_118) =>
 Option.bind (law05_num k v_118) fun _ =>
 lt1 ((v_118 != (0 : Int))) fun v_122 =>
 if v_122 = true then
  some (.inr x_114)
 else
  lt1 (w64 (x_114 - (1 : Int))) fun v_123 =>
  some (.inl v_123)

def law05_DiskBack (k : Nat) (t_1 : (List ref05_Step)) (a_2 : (List Int)) : Option ((Bool)) :=
 Option.bind (law05_known k) fun v_4 =>
 lt1 ((!v_4)) fun v_5 =>
 if v_5 = true then
  some false
 else
  Option.bind (
   Option.bind (ref05_Much k t_1 (150 : Int)) fun v_6 =>
   lt1 (decide ((List.length a_2 : Int) > (300 : Int))) fun v_7 =>
   lt1 (bif v_6 then true else v_7) fun v_8 =>
   some v_8
  ) fun x_9 =>
   if x_9 = true then
    some true
   else
    Option.bind (disk_New k (30000 : Int)) fun t => match t with
    | (.inl _) =>
     Option.bind (
      Option.bind (law05_num k (0 : Int)) fun _ =>
      some ()
     ) fun _ =>
      Option.bind (
       loopO (fun s => law05_DiskBack.b1 k t_1 s.1 s.2.1 s.2.2.1 s.2.2.2.1 s.2.2.2.2) k (([] : (List ((List UInt8) × disk_file))), (-1 : Int), false, (0 : Int), (0 : Int))
      ) fun (x_33, fuse_34, dead_35, writes_36) =>
       Option.bind (disk_Disk_Crash_pv_smvvvvm k a_2 (30000 : Int) fuse_34 dead_35 writes_36 x_33) fun v_40 =>
       Option.bind (
        Option.bind (disk_Disk_Dead_p_smvvvvm k (30000 : Int) (-1 : Int) false (0 : Int) (v_40)) fun _ =>
        Option.bind (disk_Disk_Writes_p_smvvvvm k (30000 : Int) (-1 : Int) false (0 : Int) (v_40)) fun _ =>
        Option.bind (disk_Disk_Crash_pv_smvvvvm k ([] : (List Int)) (30000 : Int) (-1 : Int) false (0 : Int) (v_40)) fun v_47 =>
        Option.bind (disk_Disk_Same_pp_smvvvvmsmvvvvm k (30000 : Int) (-1 : Int) false (0 : Int) (v_40) (30000 : Int) (-1 : Int) false (0 : Int) (v_47)) fun v_51 =>
        lt1 ((!v_51)) fun v_52 =>
        some v_52
       ) fun x_53 =>
        if x_53 = true then
         some false
        else
         Option.bind (disk_Disk_Files_p_smvvvvm k (30000 : Int) fuse_34 dead_35 writes_36 x_33) fun (v_55, x_56) =>
         Option.bind (
          Option.bind (disk_Disk_Files_1_ypp_loo k (fun (s : Int) (u : (List UInt8) × Int) => law05_DiskBack.y2 k fuse_34 dead_35 writes_36 x_33 v_40 s u.1 u.2) (Sum.inl (0 : Int)) v_55 x_56) fun tv16 => match tv16 with
          | (.inl x_94) =>
           some (.inl x_94)
          | (.inr x_95) =>
           some (.inr false)
          : Option ((Int) ⊕ ((Bool)))) fun t => match t with
         | (.inl x_96) =>
          Option.bind (disk_Disk_Files_p_smvvvvm k (30000 : Int) (-1 : Int) false (0 : Int) (v_40)) fun (v_98, x_99) =>
          Option.bind (
           Option.bind (disk_Disk_Files_p_smvvvvm k (30000 : Int) (-1 : Int) false (0 : Int) (v_40)) fun (v_106, x_107) =>
           Option.bind (disk_Disk_Files_1_ypp_loo k (fun (s : Int) (u : (List UInt8) × Int) => law05_DiskBack.y3 k fuse_34 dead_35 writes_36 x_33 s u.1 u.2) (Sum.inl x_96) v_106 x_107) fun tv29 => match tv29 with
           | (.inl x_125) =>
            some (.inl x_125)
           | (.inr x_126) =>
            some (.inr false)
           : Option ((Int) ⊕ ((Bool)))) fun t => match t with
          | (.inl x_127) =>
           lt1 ((x_127 == (0 : Int))) fun v_129 =>
           some v_129
          | (.inr q) =>
           some q
         | (.inr q) =>
          some q
    | (.inr _) =>
     Option.bind (
      Option.bind (law05_num k (2 : Int)) fun _ =>
      some ()
     ) fun _ =>
      some false

end
end Go.Proofs.Ytipchpbcjkhnaaa
