/- The functions as plain Lean functions: no program and no memory here. -/
import Derived.Test.YtipchpbcjkhnaaaFp
import Derived.Test.YtipchpbcjkhnaaaFdq
namespace Go.Proofs.Ytipchpbcjkhnaaa
open Fw
set_option linter.unusedVariables false
noncomputable section

structure disk_file where
  b : (List UInt8)
  lasts : Int
  deriving DecidableEq, Inhabited

structure ref05_File where
  Name : (List UInt8)
  B : (List UInt8)
  Lasts : Int
  deriving DecidableEq, Inhabited

def disk_New (k : Nat) (capacity_1 : Int) : Option ((Unit) ⊕ (Unit)) :=
 Option.bind (
  lt1 (decide (capacity_1 < (1 : Int))) fun v_2 =>
  lt1 (decide (capacity_1 > (16777216 : Int))) fun v_3 =>
  lt1 (bif v_2 then true else v_3) fun v_4 =>
  some v_4
 ) fun x_5 =>
  if x_5 = true then
   some (.inr ())
  else
   some (.inl ())

def law05_num (k : Nat) (e_1 : Int) : Option ((Unit)) :=
 some ()

def disk_Disk_there_p_smvvvvm (k : Nat) (capacity_1 : Int) (fuse_2 : Int) (dead_3 : Bool) (writes_4 : Int) (x_6 : (List ((List UInt8) × disk_file))) : Option ((Unit)) :=
 Option.bind (
  some ()
 ) fun _ =>
  some ()

def disk_MayName.b1 (k : Nat) (name_1 : (List UInt8)) (x_2 : Int) : Option ((Int) ⊕ ((Unit) ⊕ ((Bool)))) :=
 lt1 (decide (x_2 < (List.length name_1 : Int))) fun v_3 =>
 if v_3 = true then
  Option.bind (idxL name_1 x_2) fun v_4 =>
  Option.bind (
   lt1 (decide (v_4 < (97 : UInt8))) fun v_5 =>
   lt1 (decide ((122 : UInt8) < v_4)) fun v_6 =>
   lt1 (bif v_5 then true else v_6) fun v_7 =>
   lt1 (decide (v_4 < (48 : UInt8))) fun v_8 =>
   lt1 (decide ((57 : UInt8) < v_4)) fun v_9 =>
   lt1 (bif v_8 then true else v_9) fun v_10 =>
   lt1 (bif v_7 then v_10 else false) fun v_11 =>
   lt1 ((!(v_4 == (46 : UInt8)))) fun v_12 =>
   lt1 (bif v_11 then v_12 else false) fun v_13 =>
   lt1 ((!(v_4 == (45 : UInt8)))) fun v_14 =>
   lt1 (bif v_13 then v_14 else false) fun v_15 =>
   some v_15
  ) fun x_16 =>
   if x_16 = true then
    some (.inr (.inr false))
   else
    lt1 (w64 (x_2 + (1 : Int))) fun v_17 =>
    some (.inl v_17)
 else
  some (.inr (.inl ()))

def disk_MayName (k : Nat) (name_1 : (List UInt8)) : Option ((Bool)) :=
 Option.bind (
  Option.bind (loopO (fun s => disk_MayName.b1 k name_1 s) k (0 : Int)) fun t => match t with
  | (.inl _) =>
   some (.inl ())
  | (.inr q) =>
   some (.inr q)
  : Option ((Unit) ⊕ ((Bool)))) fun t => match t with
 | (.inl _) =>
  Option.bind (
   lt1 (decide ((List.length name_1 : Int) ≥ (1 : Int))) fun v_18 =>
   lt1 (decide ((List.length name_1 : Int) ≤ (32 : Int))) fun v_19 =>
   lt1 (bif v_18 then v_19 else false) fun v_20 =>
   some v_20
  ) fun x_21 =>
   some x_21
 | (.inr q) =>
  some q

def disk_Disk_Room_p_smvvvvm.b1 (k : Nat) (x_6 : (List ((List UInt8) × disk_file))) (n_12 : Int) (e_13 : ((List UInt8) × disk_file)) : Option ((Int) ⊕ ((Int))) :=
 Option.bind (mgetO (some x_6) e_13.1) fun u_15 =>
 lt1 (w64 (n_12 - (List.length u_15.b : Int))) fun v_16 =>
 some (.inl v_16)

def disk_Disk_Room_p_smvvvvm.f1 (k : Nat) (n_12 : Int) : Option ((Int)) :=
 some n_12

def disk_Disk_Room_p_smvvvvm (k : Nat) (capacity_1 : Int) (fuse_2 : Int) (dead_3 : Bool) (writes_4 : Int) (x_6 : (List ((List UInt8) × disk_file))) : Option ((Int)) :=
 Option.bind (disk_Disk_there_p_smvvvvm k capacity_1 fuse_2 dead_3 writes_4 x_6) fun _ =>
 Option.bind (
  rangeM (Option.getD (some x_6) []) (fun s e => disk_Disk_Room_p_smvvvvm.b1 k x_6 s e) (fun s => disk_Disk_Room_p_smvvvvm.f1 k s) capacity_1
 ) fun n_17 =>
  some n_17

def slices_Clonebyte_byte (k : Nat) (s_1 : (List UInt8)) : Option (((List UInt8))) :=
 Option.bind (apL 1 ([] : (List UInt8)) s_1) fun x_3 =>
 some x_3

def disk_Disk_Append_1_pppp_xmpsmvvvvvv (k : Nat) (x_1 : (Option disk_file)) (x_3 : (List ((List UInt8) × disk_file))) (capacity_7 : Int) (fuse_8 : Int) (dead_9 : Bool) (writes_10 : Int) (x_12 : (List UInt8)) (x_14 : (List UInt8)) : Option (((List ((List UInt8) × disk_file)) × (Option disk_file))) :=
 Option.bind (
  lt1 (Option.isNone x_1) fun v_16 =>
  if v_16 = true then
   lt1 (mput x_12 (disk_file.mk ([] : (List UInt8)) (0 : Int)) x_3) fun x_18 =>
   some (x_18, (some default : Option disk_file))
  else
   some (x_3, x_1)
 ) fun (x_19, x_20) =>
  Option.bind (x_20) fun u_22 =>
  Option.bind (mgetO (some x_19) x_12) fun u_23 =>
  Option.bind (slices_Clonebyte_byte k u_23.b) fun v_24 =>
  Option.bind (apL 1 v_24 x_14) fun x_27 =>
  Option.bind (x_20) fun u_30 =>
  Option.bind (qupdN x_19 x_12 (fun u => { u with b := x_27 })) fun x_32 =>
  some (x_32, x_20)

def disk_Disk_write_pcppppcrrrr_smvvvvmxrvv (k : Nat) (capacity_1 : Int) (fuse_2 : Int) (dead_3 : Bool) (writes_4 : Int) (x_6 : (List ((List UInt8) × disk_file))) (x_9 : (Option disk_file)) (x_12 : (List UInt8)) (x_14 : (List UInt8)) : Option ((Int × (List ((List UInt8) × disk_file)) × Int × Bool × Int × (Option disk_file))) :=
 if dead_3 = true then
  some ((8 : Int), x_6, fuse_2, dead_3, writes_4, x_9)
 else
  lt1 (w64 (writes_4 + (1 : Int))) fun v_16 =>
  lt1 ((fuse_2 == (0 : Int))) fun v_17 =>
  if v_17 = true then
   Option.bind (disk_Disk_Append_1_pppp_xmpsmvvvvvv k x_9 x_6 capacity_1 fuse_2 true v_16 x_12 x_14) fun (x_18, x_19) =>
   some ((8 : Int), (x_18), fuse_2, true, v_16, x_19)
  else
   Option.bind (
    lt1 (decide (fuse_2 > (0 : Int))) fun v_21 =>
    if v_21 = true then
     lt1 (w64 (fuse_2 - (1 : Int))) fun v_22 =>
     some v_22
    else
     some fuse_2
   ) fun x_23 =>
    Option.bind (disk_Disk_Append_1_pppp_xmpsmvvvvvv k x_9 x_6 capacity_1 x_23 dead_3 v_16 x_12 x_14) fun (x_24, x_25) =>
    some ((0 : Int), (x_24), x_23, dead_3, v_16, x_25)

def disk_Disk_Append_pvv_smvvvvm (k : Nat) (name_1 : (List UInt8)) (b_2 : (List UInt8)) (capacity_3 : Int) (fuse_4 : Int) (dead_5 : Bool) (writes_6 : Int) (x_8 : (List ((List UInt8) × disk_file))) : Option ((Int × (List ((List UInt8) × disk_file)) × Int × Bool × Int)) :=
 Option.bind (disk_Disk_there_p_smvvvvm k capacity_3 fuse_4 dead_5 writes_6 x_8) fun _ =>
 Option.bind (disk_MayName k name_1) fun v_15 =>
 lt1 ((!v_15)) fun v_16 =>
 if v_16 = true then
  some ((2 : Int), x_8, fuse_4, dead_5, writes_6)
 else
  lt1 (mgetO (some x_8) name_1) fun f_17 =>
  Option.bind (
   Option.bind (disk_Disk_Room_p_smvvvvm k capacity_3 fuse_4 dead_5 writes_6 x_8) fun v_19 =>
   lt1 (decide ((List.length b_2 : Int) > v_19)) fun v_20 =>
   if v_20 = true then
    some true
   else
    lt1 (Option.isNone f_17) fun v_21 =>
    if v_21 = true then
     lt1 (decide ((List.length (Option.getD (some x_8) []) : Int) ≥ (64 : Int))) fun v_22 =>
     some v_22
    else
     some false
  ) fun x_23 =>
   if x_23 = true then
    some ((5 : Int), x_8, fuse_4, dead_5, writes_6)
   else
    Option.bind (disk_Disk_write_pcppppcrrrr_smvvvvmxrvv k capacity_3 fuse_4 dead_5 writes_6 x_8 f_17 name_1 b_2) fun (v_24, x_25, x_26, x_27, x_28, x_29) =>
    some (v_24, (x_25), x_26, x_27, x_28)

def disk_Disk_find_pv_smvvvvm (k : Nat) (name_1 : (List UInt8)) (capacity_2 : Int) (fuse_3 : Int) (dead_4 : Bool) (writes_5 : Int) (x_7 : (List ((List UInt8) × disk_file))) : Option (((Option disk_file) × Int)) :=
 Option.bind (disk_Disk_there_p_smvvvvm k capacity_2 fuse_3 dead_4 writes_5 x_7) fun _ =>
 Option.bind (disk_MayName k name_1) fun v_11 =>
 lt1 ((!v_11)) fun v_12 =>
 if v_12 = true then
  some ((none : Option disk_file), (2 : Int))
 else
  lt1 (mgetO (some x_7) name_1) fun f_13 =>
  lt1 (Option.isNone f_13) fun v_14 =>
  if v_14 = true then
   some ((none : Option disk_file), (6 : Int))
  else
   lt1 (mgetO (some x_7) name_1) fun f_15 =>
   some (f_15, (0 : Int))

def disk_nothing (k : Nat) : Option ((Unit)) :=
 some ()

def disk_Disk_Rename_1_pppp_psmvvvvmvxv (k : Nat) (capacity_2 : Int) (fuse_3 : Int) (dead_4 : Bool) (writes_5 : Int) (x_7 : (List ((List UInt8) × disk_file))) (x_10 : (List UInt8)) (x_12 : (Option disk_file)) (x_14 : (List UInt8)) : Option (((List ((List UInt8) × disk_file)))) :=
 Option.bind (andO x_12 (mgetO (some x_7) x_10)) fun u_17 =>
 lt1 (mput x_14 u_17 (mdel x_10 x_7)) fun x_18 =>
 some x_18

def disk_Disk_write_pcppppc_smvvvvmrvxv (k : Nat) (capacity_1 : Int) (fuse_2 : Int) (dead_3 : Bool) (writes_4 : Int) (x_6 : (List ((List UInt8) × disk_file))) (x_10 : (List UInt8)) (x_12 : (Option disk_file)) (x_14 : (List UInt8)) : Option ((Int × (List ((List UInt8) × disk_file)) × Int × Bool × Int × (List UInt8) × (Option disk_file))) :=
 if dead_3 = true then
  some ((8 : Int), x_6, fuse_2, dead_3, writes_4, x_10, x_12)
 else
  lt1 (w64 (writes_4 + (1 : Int))) fun v_16 =>
  lt1 ((fuse_2 == (0 : Int))) fun v_17 =>
  if v_17 = true then
   Option.bind (disk_nothing k) fun _ =>
   some ((8 : Int), x_6, fuse_2, true, v_16, x_10, x_12)
  else
   Option.bind (
    lt1 (decide (fuse_2 > (0 : Int))) fun v_19 =>
    if v_19 = true then
     lt1 (w64 (fuse_2 - (1 : Int))) fun v_20 =>
     some v_20
    else
     some fuse_2
   ) fun x_21 =>
    Option.bind (disk_Disk_Rename_1_pppp_psmvvvvmvxv k capacity_1 x_21 dead_3 v_16 x_6 x_10 x_12 x_14) fun x_22 =>
    some ((0 : Int), (x_22), x_21, dead_3, v_16, x_14, (some default : Option disk_file))

def disk_Disk_Rename_pvv_smvvvvm (k : Nat) (name_1 : (List UInt8)) (to_2 : (List UInt8)) (capacity_3 : Int) (fuse_4 : Int) (dead_5 : Bool) (writes_6 : Int) (x_8 : (List ((List UInt8) × disk_file))) : Option ((Int × (List ((List UInt8) × disk_file)) × Int × Bool × Int)) :=
 Option.bind (disk_Disk_find_pv_smvvvvm k name_1 capacity_3 fuse_4 dead_5 writes_6 x_8) fun (v_14, v_15) =>
 lt1 ((v_15 == (1 : Int))) fun v_17 =>
 if v_17 = true then
  some (v_15, x_8, fuse_4, dead_5, writes_6)
 else
  Option.bind (disk_MayName k to_2) fun v_18 =>
  lt1 ((!v_18)) fun v_19 =>
  if v_19 = true then
   some ((2 : Int), x_8, fuse_4, dead_5, writes_6)
  else
   lt1 ((v_15 != (0 : Int))) fun v_20 =>
   if v_20 = true then
    some (v_15, x_8, fuse_4, dead_5, writes_6)
   else
    Option.bind (disk_Disk_write_pcppppc_smvvvvmrvxv k capacity_3 fuse_4 dead_5 writes_6 x_8 name_1 v_14 to_2) fun (v_21, x_22, x_23, x_24, x_25, x_26, x_27) =>
    some (v_21, (x_22), x_23, x_24, x_25)

def disk_Disk_there_n (k : Nat) : Option ((Unit)) :=
 Option.bind (
  some ()
 ) fun _ =>
  some ()

def disk_Disk_Fuse_nv (k : Nat) (n_1 : Int) : Option ((Unit)) :=
 Option.bind (disk_Disk_there_n k) fun _ =>
 some ()

def disk_Disk_find_nv (k : Nat) (name_1 : (List UInt8)) : Option ((Unit)) :=
 Option.bind (disk_Disk_there_n k) fun _ =>
 some ()

def disk_Disk_Read_nv (k : Nat) (name_1 : (List UInt8)) : Option ((Unit)) :=
 Option.bind (disk_Disk_find_nv k name_1) fun _ =>
 some ()

def disk_Disk_Lasts_nv (k : Nat) (name_1 : (List UInt8)) : Option ((Unit)) :=
 Option.bind (disk_Disk_find_nv k name_1) fun _ =>
 some ()

def disk_Disk_Append_nvv (k : Nat) (name_1 : (List UInt8)) (b_2 : (List UInt8)) : Option ((Unit)) :=
 Option.bind (disk_Disk_there_n k) fun _ =>
 some ()

def disk_Disk_Sync_nv (k : Nat) (name_1 : (List UInt8)) : Option ((Unit)) :=
 Option.bind (disk_Disk_find_nv k name_1) fun _ =>
 some ()

def disk_Disk_Cut_nvv (k : Nat) (name_1 : (List UInt8)) (n_2 : Int) : Option ((Unit)) :=
 Option.bind (disk_Disk_find_nv k name_1) fun _ =>
 Option.bind (
  some ()
 ) fun _ =>
  some ()

def disk_Disk_Rename_nvv (k : Nat) (name_1 : (List UInt8)) (to_2 : (List UInt8)) : Option ((Unit)) :=
 Option.bind (disk_Disk_find_nv k name_1) fun _ =>
 some ()

def disk_Disk_Remove_nv (k : Nat) (name_1 : (List UInt8)) : Option ((Unit)) :=
 Option.bind (disk_Disk_find_nv k name_1) fun _ =>
 some ()

def disk_Disk_Room_n (k : Nat) : Option ((Unit)) :=
 Option.bind (disk_Disk_there_n k) fun _ =>
 some ()

def disk_Disk_Dead_n (k : Nat) : Option ((Unit)) :=
 Option.bind (
  Option.bind (disk_Disk_there_n k) fun _ =>
  some ()
 ) fun _ =>
  some ()

def disk_Disk_Writes_n (k : Nat) : Option ((Unit)) :=
 Option.bind (disk_Disk_there_n k) fun _ =>
 some ()

def disk_Disk_Files_n (k : Nat) : Option ((Unit)) :=
 Option.bind (
  Option.bind (disk_Disk_there_n k) fun _ =>
  some ()
 ) fun _ =>
  some ()

def disk_Disk_Files_1_ypp_lvv.b1 {σ τ : Type} (k : Nat) (x_4 : (List (List UInt8))) (x_6 : (List Int)) (Y_1 : (σ → ((List UInt8) × Int) → Option (σ ⊕ τ))) (x_8 : (σ ⊕ τ)) (x_9 : Int) : Option (((σ ⊕ τ) × Int) ⊕ (((σ ⊕ τ)) ⊕ (((σ ⊕ τ))))) :=
 lt1 (decide (x_9 < (List.length x_4 : Int))) fun v_11 =>
 if v_11 = true then
  Option.bind (idxL x_4 x_9) fun v_12 =>
  Option.bind (idxL x_6 x_9) fun v_13 =>
  Option.bind (yldO Y_1 x_8 (v_12, v_13)) fun y_14 =>
  lt1 ((!(Sum.isLeft y_14))) fun v_16 =>
  if v_16 = true then
   some (.inr (.inr y_14))
  else
   lt1 (w64 (x_9 + (1 : Int))) fun v_17 =>
   some (.inl (y_14, v_17))
 else
  some (.inr (.inl x_8))

def disk_Disk_Files_1_ypp_lvv {σ τ : Type} (k : Nat) (Y_1 : (σ → ((List UInt8) × Int) → Option (σ ⊕ τ))) (x_2 : (σ ⊕ τ)) (x_4 : (List (List UInt8))) (x_6 : (List Int)) : Option (((σ ⊕ τ))) :=
 Option.bind (loopO (fun s => disk_Disk_Files_1_ypp_lvv.b1 k x_4 x_6 Y_1 s.1 s.2) k (x_2, (0 : Int))) fun t => match t with
 | (.inl x_18) =>
  some x_18
 | (.inr q) =>
  some q

def law05_once_npv_snvvvv.y1 (k : Nat) (a_14 : (List UInt8)) (a_15 : Int) : Option ((Unit) ⊕ ((Unit))) :=
 Option.bind (
  some ()
 ) fun _ =>
  some (.inr ())

def law05_once_npv_snvvvv (k : Nat) (most_1 : Int) (Capacity_2 : Int) (Fuse_3 : Int) (Dead_4 : Bool) (Writes_5 : Int) : Option ((Bool)) :=
 Option.bind (disk_Disk_Files_n k) fun _ =>
 Option.bind (
  Option.bind (disk_Disk_Files_1_ypp_lvv k (fun (s : Unit) (u : (List UInt8) × Int) => law05_once_npv_snvvvv.y1 k u.1 u.2) (Sum.inl ()) ([] : (List (List UInt8))) ([] : (List Int))) fun tv2 => match tv2 with
  | (.inl _) =>
   some (.inl ())
  | (.inr _) =>
   some (.inr false)
  : Option ((Unit) ⊕ ((Bool)))) fun t => match t with
 | (.inl _) =>
  some true
 | (.inr q) =>
  some q

def disk_Disk_Copy_n (k : Nat) : Option ((Unit)) :=
 Option.bind (disk_Disk_there_n k) fun _ =>
 some ()

def disk_Disk_Crash_nv (k : Nat) (a_1 : (List Int)) : Option ((Unit)) :=
 Option.bind (disk_Disk_Copy_n k) fun _ =>
 some ()

def disk_Disk_Same_nn (k : Nat) : Option ((Bool)) :=
 Option.bind (
  Option.bind (disk_Disk_there_n k) fun _ =>
  some ()
 ) fun _ =>
  Option.bind (disk_Disk_there_n k) fun _ =>
  Option.bind (disk_Disk_there_n k) fun _ =>
  lt1 ((false == false)) fun v_7 =>
  some v_7

def disk_Disk_Same_np_smvvvvm (k : Nat) (capacity_1 : Int) (fuse_2 : Int) (dead_3 : Bool) (writes_4 : Int) (x_6 : (List ((List UInt8) × disk_file))) : Option ((Bool)) :=
 Option.bind (
  Option.bind (disk_Disk_there_n k) fun _ =>
  some ()
 ) fun _ =>
  Option.bind (disk_Disk_there_n k) fun _ =>
  Option.bind (disk_Disk_there_p_smvvvvm k capacity_1 fuse_2 dead_3 writes_4 x_6) fun _ =>
  lt1 ((false == true)) fun v_15 =>
  some v_15

def disk_Disk_Same_pn_smvvvvm (k : Nat) (capacity_1 : Int) (fuse_2 : Int) (dead_3 : Bool) (writes_4 : Int) (x_6 : (List ((List UInt8) × disk_file))) : Option ((Bool)) :=
 Option.bind (
  Option.bind (disk_Disk_there_p_smvvvvm k capacity_1 fuse_2 dead_3 writes_4 x_6) fun _ =>
  Option.bind (disk_Disk_there_n k) fun _ =>
  some ()
 ) fun _ =>
  Option.bind (disk_Disk_there_p_smvvvvm k capacity_1 fuse_2 dead_3 writes_4 x_6) fun _ =>
  Option.bind (disk_Disk_there_n k) fun _ =>
  lt1 ((true == false)) fun v_16 =>
  some v_16

def law05_nothing_np_smvvvvm (k : Nat) (capacity_1 : Int) (fuse_2 : Int) (dead_3 : Bool) (writes_4 : Int) (x_6 : (List ((List UInt8) × disk_file))) : Option ((Bool)) :=
 Option.bind (disk_Disk_Fuse_nv k (1 : Int)) fun _ =>
 Option.bind (disk_Disk_Read_nv k ([97] : List UInt8)) fun _ =>
 Option.bind (disk_Disk_Lasts_nv k ([97] : List UInt8)) fun _ =>
 Option.bind (
  Option.bind (disk_Disk_Append_nvv k ([97] : List UInt8) ([] : (List UInt8))) fun _ =>
  Option.bind (law05_num k (1 : Int)) fun _ =>
  Option.bind (disk_Disk_Sync_nv k ([97] : List UInt8)) fun _ =>
  Option.bind (law05_num k (1 : Int)) fun _ =>
  Option.bind (disk_Disk_Cut_nvv k ([97] : List UInt8) (0 : Int)) fun _ =>
  Option.bind (law05_num k (1 : Int)) fun _ =>
  Option.bind (disk_Disk_Rename_nvv k ([97] : List UInt8) ([98] : List UInt8)) fun _ =>
  Option.bind (law05_num k (1 : Int)) fun _ =>
  Option.bind (disk_Disk_Remove_nv k ([] : List UInt8)) fun _ =>
  Option.bind (law05_num k (1 : Int)) fun _ =>
  Option.bind (law05_num k (1 : Int)) fun _ =>
  Option.bind (law05_num k (1 : Int)) fun _ =>
  Option.bind (disk_Disk_Room_n k) fun _ =>
  Option.bind (disk_Disk_Dead_n k) fun _ =>
  Option.bind (disk_Disk_Writes_n k) fun _ =>
  Option.bind (law05_once_npv_snvvvv k (0 : Int) (0 : Int) (0 : Int) false (0 : Int)) fun v_28 =>
  Option.bind (if v_28 = true then disk_Disk_Crash_nv k ([(1 : Int)] : (List Int)) else some default) fun _ =>
  lt1 (bif v_28 then true else false) fun v_30 =>
  Option.bind (if v_30 = true then disk_Disk_Copy_n k else some default) fun _ =>
  lt1 (bif v_30 then true else false) fun v_32 =>
  Option.bind (if v_32 = true then disk_Disk_Same_nn k else some default) fun v_33 =>
  lt1 (bif v_32 then v_33 else false) fun v_34 =>
  if v_34 = true then
   Option.bind (disk_Disk_Same_np_smvvvvm k capacity_1 fuse_2 dead_3 writes_4 x_6) fun v_35 =>
   lt1 ((!v_35)) fun v_36 =>
   if v_36 = true then
    Option.bind (disk_Disk_Same_pn_smvvvvm k capacity_1 fuse_2 dead_3 writes_4 x_6) fun v_37 =>
    lt1 ((!v_37)) fun v_38 =>
    some v_38
   else
    some false
  else
   some false
 ) fun x_39 =>
  some x_39

def disk_Disk_there_p_snvvvv (k : Nat) (capacity_1 : Int) (fuse_2 : Int) (dead_3 : Bool) (writes_4 : Int) : Option ((Unit)) :=
 Option.bind (
  some ()
 ) fun _ =>
  some ()

def disk_Disk_Fuse_pv_snvvvv (k : Nat) (n_1 : Int) (capacity_2 : Int) (fuse_3 : Int) (dead_4 : Bool) (writes_5 : Int) : Option ((Unit)) :=
 Option.bind (disk_Disk_there_p_snvvvv k capacity_2 fuse_3 dead_4 writes_5) fun _ =>
 some ()

def disk_Disk_find_pv_snvvvv (k : Nat) (name_1 : (List UInt8)) (capacity_2 : Int) (fuse_3 : Int) (dead_4 : Bool) (writes_5 : Int) : Option ((Unit)) :=
 Option.bind (disk_Disk_there_p_snvvvv k capacity_2 fuse_3 dead_4 writes_5) fun _ =>
 some ()

def disk_Disk_Read_pv_snvvvv (k : Nat) (name_1 : (List UInt8)) (capacity_2 : Int) (fuse_3 : Int) (dead_4 : Bool) (writes_5 : Int) : Option ((Unit)) :=
 Option.bind (disk_Disk_find_pv_snvvvv k name_1 capacity_2 fuse_3 dead_4 writes_5) fun _ =>
 some ()

def disk_Disk_Lasts_pv_snvvvv (k : Nat) (name_1 : (List UInt8)) (capacity_2 : Int) (fuse_3 : Int) (dead_4 : Bool) (writes_5 : Int) : Option ((Unit)) :=
 Option.bind (disk_Disk_find_pv_snvvvv k name_1 capacity_2 fuse_3 dead_4 writes_5) fun _ =>
 some ()

def disk_Disk_Append_pvv_snvvvv (k : Nat) (name_1 : (List UInt8)) (b_2 : (List UInt8)) (capacity_3 : Int) (fuse_4 : Int) (dead_5 : Bool) (writes_6 : Int) : Option ((Unit)) :=
 Option.bind (disk_Disk_there_p_snvvvv k capacity_3 fuse_4 dead_5 writes_6) fun _ =>
 some ()

def disk_Disk_Sync_pv_snvvvv (k : Nat) (name_1 : (List UInt8)) (capacity_2 : Int) (fuse_3 : Int) (dead_4 : Bool) (writes_5 : Int) : Option ((Unit)) :=
 Option.bind (disk_Disk_find_pv_snvvvv k name_1 capacity_2 fuse_3 dead_4 writes_5) fun _ =>
 some ()

def disk_Disk_Cut_pvv_snvvvv (k : Nat) (name_1 : (List UInt8)) (n_2 : Int) (capacity_3 : Int) (fuse_4 : Int) (dead_5 : Bool) (writes_6 : Int) : Option ((Unit)) :=
 Option.bind (disk_Disk_find_pv_snvvvv k name_1 capacity_3 fuse_4 dead_5 writes_6) fun _ =>
 Option.bind (
  some ()
 ) fun _ =>
  some ()

def disk_Disk_Rename_pvv_snvvvv (k : Nat) (name_1 : (List UInt8)) (to_2 : (List UInt8)) (capacity_3 : Int) (fuse_4 : Int) (dead_5 : Bool) (writes_6 : Int) : Option ((Unit)) :=
 Option.bind (disk_Disk_find_pv_snvvvv k name_1 capacity_3 fuse_4 dead_5 writes_6) fun _ =>
 some ()

def disk_Disk_Remove_pv_snvvvv (k : Nat) (name_1 : (List UInt8)) (capacity_2 : Int) (fuse_3 : Int) (dead_4 : Bool) (writes_5 : Int) : Option ((Unit)) :=
 Option.bind (disk_Disk_find_pv_snvvvv k name_1 capacity_2 fuse_3 dead_4 writes_5) fun _ =>
 some ()

def disk_Disk_Room_p_snvvvv (k : Nat) (capacity_1 : Int) (fuse_2 : Int) (dead_3 : Bool) (writes_4 : Int) : Option ((Unit)) :=
 Option.bind (disk_Disk_there_p_snvvvv k capacity_1 fuse_2 dead_3 writes_4) fun _ =>
 some ()

def disk_Disk_Dead_p_snvvvv (k : Nat) (capacity_1 : Int) (fuse_2 : Int) (dead_3 : Bool) (writes_4 : Int) : Option ((Unit)) :=
 Option.bind (
  Option.bind (disk_Disk_there_p_snvvvv k capacity_1 fuse_2 dead_3 writes_4) fun _ =>
  some ()
 ) fun _ =>
  some ()

def disk_Disk_Writes_p_snvvvv (k : Nat) (capacity_1 : Int) (fuse_2 : Int) (dead_3 : Bool) (writes_4 : Int) : Option ((Unit)) :=
 Option.bind (disk_Disk_there_p_snvvvv k capacity_1 fuse_2 dead_3 writes_4) fun _ =>
 some ()

def disk_Disk_Files_p_snvvvv (k : Nat) (capacity_1 : Int) (fuse_2 : Int) (dead_3 : Bool) (writes_4 : Int) : Option ((Unit)) :=
 Option.bind (
  Option.bind (disk_Disk_there_p_snvvvv k capacity_1 fuse_2 dead_3 writes_4) fun _ =>
  some ()
 ) fun _ =>
  some ()

def law05_once_ppv_snvvvvsnvvvv.y1 (k : Nat) (a_19 : (List UInt8)) (a_20 : Int) : Option ((Unit) ⊕ ((Unit))) :=
 Option.bind (
  some ()
 ) fun _ =>
  some (.inr ())

def law05_once_ppv_snvvvvsnvvvv (k : Nat) (most_1 : Int) (capacity_2 : Int) (fuse_3 : Int) (dead_4 : Bool) (writes_5 : Int) (Capacity_7 : Int) (Fuse_8 : Int) (Dead_9 : Bool) (Writes_10 : Int) : Option ((Bool)) :=
 Option.bind (disk_Disk_Files_p_snvvvv k capacity_2 fuse_3 dead_4 writes_5) fun _ =>
 Option.bind (
  Option.bind (disk_Disk_Files_1_ypp_lvv k (fun (s : Unit) (u : (List UInt8) × Int) => law05_once_ppv_snvvvvsnvvvv.y1 k u.1 u.2) (Sum.inl ()) ([] : (List (List UInt8))) ([] : (List Int))) fun tv2 => match tv2 with
  | (.inl _) =>
   some (.inl ())
  | (.inr _) =>
   some (.inr false)
  : Option ((Unit) ⊕ ((Bool)))) fun t => match t with
 | (.inl _) =>
  some true
 | (.inr q) =>
  some q

def disk_Disk_Copy_p_snvvvv (k : Nat) (capacity_1 : Int) (fuse_2 : Int) (dead_3 : Bool) (writes_4 : Int) : Option ((Unit)) :=
 Option.bind (disk_Disk_there_p_snvvvv k capacity_1 fuse_2 dead_3 writes_4) fun _ =>
 some ()

def disk_Disk_Crash_pv_snvvvv (k : Nat) (a_1 : (List Int)) (capacity_2 : Int) (fuse_3 : Int) (dead_4 : Bool) (writes_5 : Int) : Option ((Unit)) :=
 Option.bind (disk_Disk_Copy_p_snvvvv k capacity_2 fuse_3 dead_4 writes_5) fun _ =>
 some ()

def disk_Disk_Same_pn_snvvvv (k : Nat) (capacity_1 : Int) (fuse_2 : Int) (dead_3 : Bool) (writes_4 : Int) : Option ((Bool)) :=
 Option.bind (
  Option.bind (disk_Disk_there_p_snvvvv k capacity_1 fuse_2 dead_3 writes_4) fun _ =>
  some ()
 ) fun _ =>
  Option.bind (disk_Disk_there_p_snvvvv k capacity_1 fuse_2 dead_3 writes_4) fun _ =>
  Option.bind (disk_Disk_there_n k) fun _ =>
  lt1 ((false == false)) fun v_12 =>
  some v_12

def disk_Disk_Same_pp_snvvvvsmvvvvm (k : Nat) (capacity_1 : Int) (fuse_2 : Int) (dead_3 : Bool) (writes_4 : Int) (capacity_6 : Int) (fuse_7 : Int) (dead_8 : Bool) (writes_9 : Int) (x_11 : (List ((List UInt8) × disk_file))) : Option ((Bool)) :=
 Option.bind (
  Option.bind (disk_Disk_there_p_snvvvv k capacity_1 fuse_2 dead_3 writes_4) fun _ =>
  some ()
 ) fun _ =>
  Option.bind (disk_Disk_there_p_snvvvv k capacity_1 fuse_2 dead_3 writes_4) fun _ =>
  Option.bind (disk_Disk_there_p_smvvvvm k capacity_6 fuse_7 dead_8 writes_9 x_11) fun _ =>
  lt1 ((false == true)) fun v_20 =>
  some v_20

def disk_Disk_Same_pp_smvvvvmsnvvvv (k : Nat) (capacity_1 : Int) (fuse_2 : Int) (dead_3 : Bool) (writes_4 : Int) (x_6 : (List ((List UInt8) × disk_file))) (capacity_9 : Int) (fuse_10 : Int) (dead_11 : Bool) (writes_12 : Int) : Option ((Bool)) :=
 Option.bind (
  Option.bind (disk_Disk_there_p_smvvvvm k capacity_1 fuse_2 dead_3 writes_4 x_6) fun _ =>
  Option.bind (disk_Disk_there_p_snvvvv k capacity_9 fuse_10 dead_11 writes_12) fun _ =>
  some ()
 ) fun _ =>
  Option.bind (disk_Disk_there_p_smvvvvm k capacity_1 fuse_2 dead_3 writes_4 x_6) fun _ =>
  Option.bind (disk_Disk_there_p_snvvvv k capacity_9 fuse_10 dead_11 writes_12) fun _ =>
  lt1 ((true == false)) fun v_21 =>
  some v_21

def law05_nothing_pp_snvvvvsmvvvvm (k : Nat) (capacity_1 : Int) (fuse_2 : Int) (dead_3 : Bool) (writes_4 : Int) (capacity_6 : Int) (fuse_7 : Int) (dead_8 : Bool) (writes_9 : Int) (x_11 : (List ((List UInt8) × disk_file))) : Option ((Bool)) :=
 Option.bind (disk_Disk_Fuse_pv_snvvvv k (1 : Int) capacity_1 fuse_2 dead_3 writes_4) fun _ =>
 Option.bind (disk_Disk_Read_pv_snvvvv k ([97] : List UInt8) capacity_1 fuse_2 dead_3 writes_4) fun _ =>
 Option.bind (disk_Disk_Lasts_pv_snvvvv k ([97] : List UInt8) capacity_1 fuse_2 dead_3 writes_4) fun _ =>
 Option.bind (
  Option.bind (disk_Disk_Append_pvv_snvvvv k ([97] : List UInt8) ([] : (List UInt8)) capacity_1 fuse_2 dead_3 writes_4) fun _ =>
  Option.bind (law05_num k (1 : Int)) fun _ =>
  Option.bind (disk_Disk_Sync_pv_snvvvv k ([97] : List UInt8) capacity_1 fuse_2 dead_3 writes_4) fun _ =>
  Option.bind (law05_num k (1 : Int)) fun _ =>
  Option.bind (disk_Disk_Cut_pvv_snvvvv k ([97] : List UInt8) (0 : Int) capacity_1 fuse_2 dead_3 writes_4) fun _ =>
  Option.bind (law05_num k (1 : Int)) fun _ =>
  Option.bind (disk_Disk_Rename_pvv_snvvvv k ([97] : List UInt8) ([98] : List UInt8) capacity_1 fuse_2 dead_3 writes_4) fun _ =>
  Option.bind (law05_num k (1 : Int)) fun _ =>
  Option.bind (disk_Disk_Remove_pv_snvvvv k ([] : List UInt8) capacity_1 fuse_2 dead_3 writes_4) fun _ =>
  Option.bind (law05_num k (1 : Int)) fun _ =>
  Option.bind (law05_num k (1 : Int)) fun _ =>
  Option.bind (law05_num k (1 : Int)) fun _ =>
  Option.bind (disk_Disk_Room_p_snvvvv k capacity_1 fuse_2 dead_3 writes_4) fun _ =>
  Option.bind (disk_Disk_Dead_p_snvvvv k capacity_1 fuse_2 dead_3 writes_4) fun _ =>
  Option.bind (disk_Disk_Writes_p_snvvvv k capacity_1 fuse_2 dead_3 writes_4) fun _ =>
  Option.bind (law05_once_ppv_snvvvvsnvvvv k (0 : Int) capacity_1 fuse_2 dead_3 writes_4 (0 : Int) (0 : Int) false (0 : Int)) fun v_33 =>
  if v_33 = true then
   Option.bind (disk_Disk_Crash_pv_snvvvv k ([(1 : Int)] : (List Int)) capacity_1 fuse_2 dead_3 writes_4) fun _ =>
   Option.bind (disk_Disk_Copy_p_snvvvv k capacity_1 fuse_2 dead_3 writes_4) fun _ =>
   Option.bind (disk_Disk_Same_pn_snvvvv k capacity_1 fuse_2 dead_3 writes_4) fun v_36 =>
   if v_36 = true then
    Option.bind (disk_Disk_Same_pp_snvvvvsmvvvvm k capacity_1 fuse_2 dead_3 writes_4 capacity_6 fuse_7 dead_8 writes_9 x_11) fun v_37 =>
    lt1 ((!v_37)) fun v_38 =>
    if v_38 = true then
     Option.bind (disk_Disk_Same_pp_smvvvvmsnvvvv k capacity_6 fuse_7 dead_8 writes_9 x_11 capacity_1 fuse_2 dead_3 writes_4) fun v_39 =>
     lt1 ((!v_39)) fun v_40 =>
     some v_40
    else
     some false
   else
    some false
  else
   some false
 ) fun x_41 =>
  some x_41

def disk_Disk_Sync_1_p_xm (k : Nat) (key_1 : (List UInt8)) (x_2 : (Option disk_file)) (x_4 : (List ((List UInt8) × disk_file))) : Option (((List ((List UInt8) × disk_file)))) :=
 Option.bind (x_2) fun u_7 =>
 Option.bind (mgetO (some x_4) key_1) fun u_8 =>
 Option.bind (x_2) fun u_9 =>
 Option.bind (qupdN x_4 key_1 (fun u => { u with lasts := (List.length u_8.b : Int) })) fun x_11 =>
 some x_11

def disk_Disk_write_pcpc_smvvvvmx (k : Nat) (capacity_1 : Int) (fuse_2 : Int) (dead_3 : Bool) (writes_4 : Int) (x_6 : (List ((List UInt8) × disk_file))) (key_9 : (List UInt8)) (x_10 : (Option disk_file)) : Option ((Int × (List ((List UInt8) × disk_file)) × Int × Bool × Int)) :=
 if dead_3 = true then
  some ((8 : Int), x_6, fuse_2, dead_3, writes_4)
 else
  lt1 (w64 (writes_4 + (1 : Int))) fun v_12 =>
  lt1 ((fuse_2 == (0 : Int))) fun v_13 =>
  if v_13 = true then
   Option.bind (disk_nothing k) fun _ =>
   some ((8 : Int), x_6, fuse_2, true, v_12)
  else
   Option.bind (
    lt1 (decide (fuse_2 > (0 : Int))) fun v_15 =>
    if v_15 = true then
     lt1 (w64 (fuse_2 - (1 : Int))) fun v_16 =>
     some v_16
    else
     some fuse_2
   ) fun x_17 =>
    Option.bind (disk_Disk_Sync_1_p_xm k key_9 x_10 x_6) fun x_18 =>
    some ((0 : Int), (x_18), x_17, dead_3, v_12)

def disk_Disk_Sync_pv_smvvvvm (k : Nat) (name_1 : (List UInt8)) (capacity_2 : Int) (fuse_3 : Int) (dead_4 : Bool) (writes_5 : Int) (x_7 : (List ((List UInt8) × disk_file))) : Option ((Int × (List ((List UInt8) × disk_file)) × Int × Bool × Int)) :=
 Option.bind (disk_Disk_find_pv_smvvvvm k name_1 capacity_2 fuse_3 dead_4 writes_5 x_7) fun (v_10, v_11) =>
 lt1 ((v_11 != (0 : Int))) fun v_13 =>
 if v_13 = true then
  some (v_11, x_7, fuse_3, dead_4, writes_5)
 else
  Option.bind (disk_Disk_write_pcpc_smvvvvmx k capacity_2 fuse_3 dead_4 writes_5 x_7 name_1 v_10) fun (v_14, x_15, x_16, x_17, x_18) =>
  some (v_14, (x_15), x_16, x_17, x_18)

def disk_Disk_Copy_p_smvvvvm.b1 (k : Nat) (x_6 : (List ((List UInt8) × disk_file))) (x_14 : (List ((List UInt8) × disk_file))) (e_16 : ((List UInt8) × disk_file)) : Option (((List ((List UInt8) × disk_file))) ⊕ (((List ((List UInt8) × disk_file))))) :=
 Option.bind (mgetO (some x_6) e_16.1) fun u_19 =>
 Option.bind (slices_Clonebyte_byte k u_19.b) fun v_20 =>
 Option.bind (mgetO (some x_6) e_16.1) fun u_23 =>
 lt1 (mput e_16.1 (disk_file.mk v_20 u_23.lasts) x_14) fun x_25 =>
 some (.inl x_25)

def disk_Disk_Copy_p_smvvvvm.f1 (k : Nat) (x_14 : (List ((List UInt8) × disk_file))) : Option (((List ((List UInt8) × disk_file)))) :=
 lt1 (canon x_14) fun x_18 =>
 some x_18

def disk_Disk_Copy_p_smvvvvm (k : Nat) (capacity_1 : Int) (fuse_2 : Int) (dead_3 : Bool) (writes_4 : Int) (x_6 : (List ((List UInt8) × disk_file))) : Option (((List ((List UInt8) × disk_file)))) :=
 Option.bind (disk_Disk_there_p_smvvvvm k capacity_1 fuse_2 dead_3 writes_4 x_6) fun _ =>
 Option.bind (
  rangeM (Option.getD (some x_6) []) (fun s e => disk_Disk_Copy_p_smvvvvm.b1 k x_6 s e) (fun s => disk_Disk_Copy_p_smvvvvm.f1 k s) ([] : (List ((List UInt8) × disk_file)))
 ) fun x_26 =>
  some x_26

def maps_Keysmapstringdisk_file_string_disk_file_m_m (k : Nat) (x_1 : (List ((List UInt8) × disk_file))) : Option ((Unit)) :=
 some ()

def disk_Disk_Files_p_smvvvvm.b1 (k : Nat) (l_14 : (List (List UInt8))) (x_6 : (List ((List UInt8) × disk_file))) (sizes_17 : (List Int)) (x_18 : Int) : Option (((List Int) × Int) ⊕ (((List Int)))) :=
 lt1 (decide (x_18 < (List.length l_14 : Int))) fun v_21 =>
 if v_21 = true then
  Option.bind (inO l_14 x_18) fun i_22 =>
  Option.bind (l_14[i_22]?) fun v_23 =>
  lt1 (mgetO (some x_6) v_23) fun f_24 =>
  Option.bind (f_24) fun u_25 =>
  Option.bind (mgetO (some x_6) v_23) fun u_26 =>
  Option.bind (apL 8 sizes_17 ([(List.length u_26.b : Int)] : (List Int))) fun x_27 =>
  lt1 (w64 (x_18 + (1 : Int))) fun v_30 =>
  some (.inl (x_27, v_30))
 else
  some (.inr sizes_17)

def disk_Disk_Files_p_smvvvvm (k : Nat) (capacity_1 : Int) (fuse_2 : Int) (dead_3 : Bool) (writes_4 : Int) (x_6 : (List ((List UInt8) × disk_file))) : Option (((List (List UInt8)) × (List Int))) :=
 Option.bind (
  Option.bind (disk_Disk_there_p_smvvvvm k capacity_1 fuse_2 dead_3 writes_4 x_6) fun _ =>
  Option.bind (maps_Keysmapstringdisk_file_string_disk_file_m_m k x_6) fun _ =>
  Option.bind (sortK (some x_6)) fun l_14 =>
  Option.bind (loopO (fun s => disk_Disk_Files_p_smvvvvm.b1 k l_14 x_6 s.1 s.2) k (([] : (List Int)), (0 : Int))) fun sizes_31 =>
   some (l_14, sizes_31)
 ) fun (names_34, sizes_35) =>
  some (names_34, sizes_35)

def disk_Disk_Files_1_ypp_loo.b1 {σ τ : Type} (k : Nat) (x_5 : (List (List UInt8))) (x_9 : (List Int)) (Y_1 : (σ → ((List UInt8) × Int) → Option (σ ⊕ τ))) (x_12 : (σ ⊕ τ)) (x_13 : Int) : Option (((σ ⊕ τ) × Int) ⊕ (((σ ⊕ τ)) ⊕ (((σ ⊕ τ))))) :=
 lt1 (decide (x_13 < (List.length x_5 : Int))) fun v_15 =>
 if v_15 = true then
  Option.bind (inO x_5 x_13) fun i_16 =>
  Option.bind (x_5[i_16]?) fun v_17 =>
  Option.bind (inO x_9 x_13) fun i_18 =>
  Option.bind (x_9[i_18]?) fun v_19 =>
  Option.bind (yldO Y_1 x_12 (v_17, v_19)) fun y_20 =>
  lt1 ((!(Sum.isLeft y_20))) fun v_22 =>
  if v_22 = true then
   some (.inr (.inr y_20))
  else
   lt1 (w64 (x_13 + (1 : Int))) fun v_23 =>
   some (.inl (y_20, v_23))
 else
  some (.inr (.inl x_12))

def disk_Disk_Files_1_ypp_loo {σ τ : Type} (k : Nat) (Y_1 : (σ → ((List UInt8) × Int) → Option (σ ⊕ τ))) (x_2 : (σ ⊕ τ)) (x_5 : (List (List UInt8))) (x_9 : (List Int)) : Option (((σ ⊕ τ))) :=
 Option.bind (loopO (fun s => disk_Disk_Files_1_ypp_loo.b1 k x_5 x_9 Y_1 s.1 s.2) k (x_2, (0 : Int))) fun t => match t with
 | (.inl x_24) =>
  some x_24
 | (.inr q) =>
  some q

def disk_Disk_Crash_pv_smvvvvm.y1 (k : Nat) (a_1 : (List Int)) (x_25 : (List ((List UInt8) × disk_file))) (x_26 : Int) (a_27 : (List UInt8)) (a_28 : Int) : Option (((List ((List UInt8) × disk_file)) × Int) ⊕ (Empty)) :=
 lt1 (mgetO (some x_25) a_27) fun f_29 =>
 Option.bind (f_29) fun u_30 =>
 Option.bind (mgetO (some x_25) a_27) fun u_31 =>
 Option.bind (f_29) fun u_32 =>
 Option.bind (mgetO (some x_25) a_27) fun u_33 =>
 lt1 (w64 ((List.length u_31.b : Int) - u_33.lasts)) fun v_34 =>
 lt1 ((v_34 == (0 : Int))) fun v_35 =>
 if v_35 = true then
  some (.inl (x_25, x_26))
 else
  Option.bind (
   Option.bind (
    lt1 (decide (x_26 < (List.length a_1 : Int))) fun v_36 =>
    Option.bind (if v_36 = true then idxL a_1 x_26 else some default) fun v_37 =>
    lt1 (decide (v_37 > (0 : Int))) fun v_38 =>
    lt1 (bif v_36 then v_38 else false) fun v_39 =>
    some v_39
   ) fun x_40 =>
    if x_40 = true then
     Option.bind (idxL a_1 x_26) fun v_41 =>
     lt1 (w64 (v_34 + (1 : Int))) fun v_42 =>
     Option.bind (modI v_41 v_42) fun v_43 =>
     some v_43
    else
     some (0 : Int)
  ) fun x_44 =>
   lt1 (w64 (x_26 + (1 : Int))) fun v_45 =>
   Option.bind (f_29) fun u_46 =>
   Option.bind (mgetO (some x_25) a_27) fun u_47 =>
   lt1 (w64 (u_47.lasts + x_44)) fun v_48 =>
   Option.bind (f_29) fun u_49 =>
   Option.bind (qupdN x_25 a_27 (fun u => { u with lasts := v_48 })) fun x_51 =>
   Option.bind (f_29) fun u_52 =>
   Option.bind (mgetO (some x_51) a_27) fun u_53 =>
   Option.bind (f_29) fun u_54 =>
   Option.bind (mgetO (some x_51) a_27) fun u_55 =>
   Option.bind (subL u_53.b (0) u_55.lasts) fun v_56 =>
   Option.bind (f_29) fun u_57 =>
   Option.bind (qupdN x_51 a_27 (fun u => { u with b := v_56 })) fun x_59 =>
   some (.inl (x_59, v_45))

def disk_Disk_Crash_pv_smvvvvm (k : Nat) (a_1 : (List Int)) (capacity_2 : Int) (fuse_3 : Int) (dead_4 : Bool) (writes_5 : Int) (x_7 : (List ((List UInt8) × disk_file))) : Option (((List ((List UInt8) × disk_file)))) :=
 Option.bind (disk_Disk_Copy_p_smvvvvm k capacity_2 fuse_3 dead_4 writes_5 x_7) fun v_11 =>
 Option.bind (
  Option.bind (disk_Disk_Files_p_smvvvvm k capacity_2 fuse_3 dead_4 writes_5 x_7) fun (v_17, x_18) =>
  Option.bind (disk_Disk_Files_1_ypp_loo k (fun (s : (List ((List UInt8) × disk_file)) × Int) (u : (List UInt8) × Int) => disk_Disk_Crash_pv_smvvvvm.y1 k a_1 s.1 s.2 u.1 u.2) (Sum.inl ((v_11), (0 : Int))) v_17 x_18) fun tv2 => match tv2 with
  | (.inl (x_61, x_62)) =>
   some x_61
  | (.inr e) => nomatch e
 ) fun x_63 =>
  some x_63

def disk_Disk_Read_pv_smvvvvm (k : Nat) (name_1 : (List UInt8)) (capacity_2 : Int) (fuse_3 : Int) (dead_4 : Bool) (writes_5 : Int) (x_7 : (List ((List UInt8) × disk_file))) : Option (((List UInt8) × Int)) :=
 Option.bind (disk_Disk_find_pv_smvvvvm k name_1 capacity_2 fuse_3 dead_4 writes_5 x_7) fun (v_10, v_11) =>
 lt1 ((v_11 != (0 : Int))) fun v_12 =>
 if v_12 = true then
  some (([] : (List UInt8)), v_11)
 else
  Option.bind (v_10) fun u_13 =>
  Option.bind (mgetO (some x_7) name_1) fun u_14 =>
  Option.bind (slices_Clonebyte_byte k u_14.b) fun v_15 =>
  some (v_15, (0 : Int))

def disk_Disk_Lasts_pv_smvvvvm (k : Nat) (name_1 : (List UInt8)) (capacity_2 : Int) (fuse_3 : Int) (dead_4 : Bool) (writes_5 : Int) (x_7 : (List ((List UInt8) × disk_file))) : Option ((Int × Int)) :=
 Option.bind (disk_Disk_find_pv_smvvvvm k name_1 capacity_2 fuse_3 dead_4 writes_5 x_7) fun (v_10, v_11) =>
 lt1 ((v_11 != (0 : Int))) fun v_12 =>
 if v_12 = true then
  some ((0 : Int), v_11)
 else
  Option.bind (v_10) fun u_13 =>
  Option.bind (mgetO (some x_7) name_1) fun u_14 =>
  some (u_14.lasts, (0 : Int))

def disk_Disk_Fuse_pv_smvvvvm (k : Nat) (n_1 : Int) (capacity_2 : Int) (fuse_3 : Int) (dead_4 : Bool) (writes_5 : Int) (x_7 : (List ((List UInt8) × disk_file))) : Option ((Int)) :=
 Option.bind (disk_Disk_there_p_smvvvvm k capacity_2 fuse_3 dead_4 writes_5 x_7) fun _ =>
 lt1 (maxI n_1 (-1 : Int)) fun v_11 =>
 some v_11

def disk_Disk_Cut_1_pp_xmv (k : Nat) (key_1 : (List UInt8)) (x_2 : (Option disk_file)) (x_4 : (List ((List UInt8) × disk_file))) (x_7 : Int) : Option (((List ((List UInt8) × disk_file)))) :=
 Option.bind (x_2) fun u_9 =>
 Option.bind (mgetO (some x_4) key_1) fun u_10 =>
 Option.bind (subL u_10.b (0) x_7) fun v_11 =>
 Option.bind (x_2) fun u_12 =>
 Option.bind (mgetO (some x_4) key_1) fun u_13 =>
 lt1 (minI x_7 u_13.lasts) fun v_14 =>
 Option.bind (x_2) fun u_15 =>
 Option.bind (qupdN x_4 key_1 (fun u => { u with b := v_11 })) fun x_17 =>
 Option.bind (x_2) fun u_18 =>
 Option.bind (qupdN x_17 key_1 (fun u => { u with lasts := v_14 })) fun x_20 =>
 some x_20

def disk_Disk_write_pcppc_smvvvvmxv (k : Nat) (capacity_1 : Int) (fuse_2 : Int) (dead_3 : Bool) (writes_4 : Int) (x_6 : (List ((List UInt8) × disk_file))) (key_9 : (List UInt8)) (x_10 : (Option disk_file)) (x_12 : Int) : Option ((Int × (List ((List UInt8) × disk_file)) × Int × Bool × Int)) :=
 if dead_3 = true then
  some ((8 : Int), x_6, fuse_2, dead_3, writes_4)
 else
  lt1 (w64 (writes_4 + (1 : Int))) fun v_14 =>
  lt1 ((fuse_2 == (0 : Int))) fun v_15 =>
  if v_15 = true then
   Option.bind (disk_nothing k) fun _ =>
   some ((8 : Int), x_6, fuse_2, true, v_14)
  else
   Option.bind (
    lt1 (decide (fuse_2 > (0 : Int))) fun v_17 =>
    if v_17 = true then
     lt1 (w64 (fuse_2 - (1 : Int))) fun v_18 =>
     some v_18
    else
     some fuse_2
   ) fun x_19 =>
    Option.bind (disk_Disk_Cut_1_pp_xmv k key_9 x_10 x_6 x_12) fun x_20 =>
    some ((0 : Int), (x_20), x_19, dead_3, v_14)

def disk_Disk_Cut_pvv_smvvvvm (k : Nat) (name_1 : (List UInt8)) (n_2 : Int) (capacity_3 : Int) (fuse_4 : Int) (dead_5 : Bool) (writes_6 : Int) (x_8 : (List ((List UInt8) × disk_file))) : Option ((Int × (List ((List UInt8) × disk_file)) × Int × Bool × Int)) :=
 Option.bind (disk_Disk_find_pv_smvvvvm k name_1 capacity_3 fuse_4 dead_5 writes_6 x_8) fun (v_12, v_13) =>
 Option.bind (
  lt1 ((v_13 == (6 : Int))) fun v_15 =>
  lt1 (decide (n_2 < (0 : Int))) fun v_16 =>
  lt1 (bif v_15 then v_16 else false) fun v_17 =>
  some v_17
 ) fun x_18 =>
  if x_18 = true then
   some ((2 : Int), x_8, fuse_4, dead_5, writes_6)
  else
   lt1 ((v_13 != (0 : Int))) fun v_19 =>
   if v_19 = true then
    some (v_13, x_8, fuse_4, dead_5, writes_6)
   else
    Option.bind (
     lt1 (decide (n_2 < (0 : Int))) fun v_20 =>
     if v_20 = true then
      some true
     else
      Option.bind (v_12) fun u_21 =>
      Option.bind (mgetO (some x_8) name_1) fun u_22 =>
      lt1 (decide (n_2 > (List.length u_22.b : Int))) fun v_23 =>
      some v_23
    ) fun x_24 =>
     if x_24 = true then
      some ((2 : Int), x_8, fuse_4, dead_5, writes_6)
     else
      Option.bind (disk_Disk_write_pcppc_smvvvvmxv k capacity_3 fuse_4 dead_5 writes_6 x_8 name_1 v_12 n_2) fun (v_25, x_26, x_27, x_28, x_29) =>
      some (v_25, (x_26), x_27, x_28, x_29)

def law05_known (k : Nat) : Option ((Bool)) :=
 Option.bind (disk_New k (9 : Int)) fun t => match t with
 | (.inl _) =>
  Option.bind (
   Option.bind (law05_num k (0 : Int)) fun _ =>
   Option.bind (disk_Disk_Append_pvv_smvvvvm k ([97] : List UInt8) ([(120 : UInt8), (121 : UInt8), (122 : UInt8)] : (List UInt8)) (9 : Int) (-1 : Int) false (0 : Int) ([] : (List ((List UInt8) × disk_file)))) fun (v_5, x_6, x_7, x_8, x_9) =>
   Option.bind (law05_num k v_5) fun _ =>
   lt1 (w64 ((0 : Int) + v_5)) fun v_12 =>
   Option.bind (disk_Disk_Sync_pv_smvvvvm k ([97] : List UInt8) (9 : Int) x_7 x_8 x_9 (x_6)) fun (v_13, x_14, x_15, x_16, x_17) =>
   Option.bind (law05_num k v_13) fun _ =>
   lt1 (w64 (v_12 + v_13)) fun v_19 =>
   Option.bind (disk_Disk_Append_pvv_smvvvvm k ([97] : List UInt8) ([(117 : UInt8), (118 : UInt8)] : (List UInt8)) (9 : Int) x_15 x_16 x_17 (x_14)) fun (v_21, x_22, x_23, x_24, x_25) =>
   Option.bind (law05_num k v_21) fun _ =>
   lt1 (w64 (v_19 + v_21)) fun v_28 =>
   lt1 ((v_28 != (0 : Int))) fun v_29 =>
   some ((x_22), x_23, x_24, x_25, v_29)
  ) fun (x_30, fuse_31, dead_32, writes_33, x_34) =>
   if x_34 = true then
    some false
   else
    Option.bind (disk_Disk_Crash_pv_smvvvvm k ([(1 : Int)] : (List Int)) (9 : Int) fuse_31 dead_32 writes_33 x_30) fun v_36 =>
    Option.bind (disk_Disk_Read_pv_smvvvvm k ([97] : List UInt8) (9 : Int) (-1 : Int) false (0 : Int) (v_36)) fun (v_40, v_41) =>
    Option.bind (disk_Disk_Lasts_pv_smvvvvm k ([97] : List UInt8) (9 : Int) fuse_31 dead_32 writes_33 x_30) fun (v_44, v_45) =>
    Option.bind (
     lt1 ((v_40 != ([120, 121, 122, 117] : List UInt8))) fun v_46 =>
     lt1 ((v_44 != (3 : Int))) fun v_47 =>
     lt1 (bif v_46 then true else v_47) fun v_48 =>
     Option.bind (if (!v_48) = true then law05_num k v_41 else some default) fun _ =>
     Option.bind (if (!v_48) = true then law05_num k v_45 else some default) fun _ =>
     lt1 (w64 (v_41 + v_45)) fun v_51 =>
     lt1 ((v_51 != (0 : Int))) fun v_52 =>
     lt1 (bif v_48 then true else v_52) fun v_53 =>
     some v_53
    ) fun x_54 =>
     if x_54 = true then
      some false
     else
      Option.bind (disk_Disk_Fuse_pv_smvvvvm k (1 : Int) (9 : Int) fuse_31 dead_32 writes_33 x_30) fun x_55 =>
      Option.bind (disk_Disk_Rename_pvv_smvvvvm k ([97] : List UInt8) ([98] : List UInt8) (9 : Int) x_55 dead_32 writes_33 x_30) fun (v_56, x_57, x_58, x_59, x_60) =>
      Option.bind (disk_Disk_Append_pvv_smvvvvm k ([98] : List UInt8) ([(119 : UInt8)] : (List UInt8)) (9 : Int) x_58 x_59 x_60 (x_57)) fun (v_63, x_64, x_65, x_66, x_67) =>
      Option.bind (disk_Disk_Read_pv_smvvvvm k ([98] : List UInt8) (9 : Int) x_65 x_66 x_67 (x_64)) fun (v_69, v_70) =>
      Option.bind (disk_Disk_Read_pv_smvvvvm k ([99] : List UInt8) (9 : Int) x_65 x_66 x_67 (x_64)) fun (v_73, v_74) =>
      Option.bind (
       Option.bind (law05_num k v_56) fun _ =>
       lt1 ((v_56 == (0 : Int))) fun v_78 =>
       Option.bind (if v_78 = true then law05_num k v_63 else some default) fun _ =>
       lt1 ((v_63 == (8 : Int))) fun v_80 =>
       lt1 (bif v_78 then v_80 else false) fun v_81 =>
       if v_81 = true then
        lt1 ((v_69 == ([120, 121, 122, 117, 118, 119] : List UInt8))) fun v_82 =>
        Option.bind (if v_82 = true then law05_num k v_70 else some default) fun _ =>
        lt1 ((v_70 == (0 : Int))) fun v_84 =>
        lt1 (bif v_82 then v_84 else false) fun v_85 =>
        if v_85 = true then
         Option.bind (disk_Disk_Cut_pvv_smvvvvm k ([98] : List UInt8) (0 : Int) (9 : Int) x_65 x_66 x_67 (x_64)) fun (v_86, x_87, x_88, x_89, x_90) =>
         Option.bind (law05_num k v_86) fun _ =>
         lt1 ((v_86 == (8 : Int))) fun v_92 =>
         if v_92 = true then
          Option.bind (disk_Disk_Append_pvv_smvvvvm k ([66] : List UInt8) ([(120 : UInt8)] : (List UInt8)) (9 : Int) x_88 x_89 x_90 (x_87)) fun (v_94, x_95, x_96, x_97, x_98) =>
          Option.bind (law05_num k v_94) fun _ =>
          lt1 ((v_94 == (2 : Int))) fun v_101 =>
          if v_101 = true then
           Option.bind (mkL 1 (99 : Int) (0 : UInt8)) fun v_102 =>
           Option.bind (disk_Disk_Append_pvv_smvvvvm k ([98] : List UInt8) v_102 (9 : Int) x_96 x_97 x_98 (x_95)) fun (v_104, x_105, x_106, x_107, x_108) =>
           Option.bind (law05_num k v_104) fun _ =>
           lt1 ((v_104 == (5 : Int))) fun v_111 =>
           Option.bind (if v_111 = true then law05_num k v_74 else some default) fun _ =>
           lt1 ((v_74 == (6 : Int))) fun v_113 =>
           lt1 (bif v_111 then v_113 else false) fun v_114 =>
           some v_114
          else
           some false
         else
          some false
        else
         some false
       else
        some false
      ) fun t_115 =>
       some t_115
 | (.inr _) =>
  Option.bind (
   some ()
  ) fun _ =>
   some false

def law05_DiskNil.b1 (k : Nat) (x_4 : (List ((List UInt8) × disk_file))) (fuse_5 : Int) (dead_6 : Bool) (writes_7 : Int) (x_8 : Int) : Option (((List ((List UInt8) × disk_file)) × Int × Bool × Int × Int) ⊕ (((List ((List UInt8) × disk_file)) × Int × Bool × Int) ⊕ ((Bool)))) :=
 lt1 (decide (x_8 < (64 : Int))) fun v_10 =>
 if v_10 = true then
  Option.bind (divI x_8 (26 : Int)) fun v_11 =>
  lt1 (w64 ((97 : Int) + v_11)) fun v_12 =>
  lt1 ((UN.ofI v_12 : UInt8)) fun v_13 =>
  Option.bind (modI x_8 (26 : Int)) fun v_14 =>
  lt1 (w64 ((97 : Int) + v_14)) fun v_15 =>
  lt1 ((UN.ofI v_15 : UInt8)) fun v_16 =>
  Option.bind (catS ([102] : List UInt8) ([v_13, v_16] : (List UInt8))) fun v_17 =>
  Option.bind (disk_Disk_Append_pvv_smvvvvm k v_17 ([] : (List UInt8)) (16777216 : Int) fuse_5 dead_6 writes_7 x_4) fun (v_18, x_19, x_20, x_21, x_22) =>
  Option.bind (law05_num k v_18) fun _ =>
  lt1 ((v_18 != (0 : Int))) fun v_25 =>
  if v_25 = true then
   some (.inr (.inr false))
  else
   lt1 (w64 (x_8 + (1 : Int))) fun v_26 =>
   some (.inl ((x_19), x_20, x_21, x_22, v_26))
 else
  some (.inr (.inl (x_4, fuse_5, dead_6, writes_7)))

def law05_DiskNil (k : Nat) : Option ((Bool)) :=
 Option.bind (disk_New k (16777216 : Int)) fun t => match t with
 | (.inl _) =>
  Option.bind (
   Option.bind (law05_num k (0 : Int)) fun _ =>
   some ()
  ) fun _ =>
   Option.bind (
    Option.bind (loopO (fun s => law05_DiskNil.b1 k s.1 s.2.1 s.2.2.1 s.2.2.2.1 s.2.2.2.2) k (([] : (List ((List UInt8) × disk_file))), (-1 : Int), false, (0 : Int), (0 : Int))) fun t => match t with
    | (.inl (x_27, fuse_28, dead_29, writes_30)) =>
     some (.inl (x_27, fuse_28, dead_29, writes_30))
    | (.inr q) =>
     some (.inr q)
    : Option (((List ((List UInt8) × disk_file)) × Int × Bool × Int) ⊕ ((Bool)))) fun t => match t with
   | (.inl (x_32, fuse_33, dead_34, writes_35)) =>
    Option.bind (
     Option.bind (disk_Disk_Append_pvv_smvvvvm k ([111, 110, 101, 45, 109, 111, 114, 101] : List UInt8) ([] : (List UInt8)) (16777216 : Int) fuse_33 dead_34 writes_35 x_32) fun (v_37, x_38, x_39, x_40, x_41) =>
     Option.bind (law05_num k v_37) fun _ =>
     lt1 ((v_37 == (5 : Int))) fun v_44 =>
     if v_44 = true then
      Option.bind (disk_Disk_Rename_pvv_smvvvvm k ([102, 97, 97] : List UInt8) ([111, 110, 101, 45, 109, 111, 114, 101] : List UInt8) (16777216 : Int) x_39 x_40 x_41 (x_38)) fun (v_45, x_46, x_47, x_48, x_49) =>
      Option.bind (law05_num k v_45) fun _ =>
      lt1 ((v_45 == (0 : Int))) fun v_52 =>
      if v_52 = true then
       Option.bind (mkL 1 (16777216 : Int) (0 : UInt8)) fun v_53 =>
       Option.bind (disk_Disk_Append_pvv_smvvvvm k ([111, 110, 101, 45, 109, 111, 114, 101] : List UInt8) v_53 (16777216 : Int) x_47 x_48 x_49 (x_46)) fun (v_55, x_56, x_57, x_58, x_59) =>
       Option.bind (law05_num k v_55) fun _ =>
       lt1 ((v_55 == (0 : Int))) fun v_62 =>
       if v_62 = true then
        Option.bind (disk_Disk_Append_pvv_smvvvvm k ([102, 97, 98] : List UInt8) ([(1 : UInt8)] : (List UInt8)) (16777216 : Int) x_57 x_58 x_59 (x_56)) fun (v_63, x_64, x_65, x_66, x_67) =>
        Option.bind (law05_num k v_63) fun _ =>
        lt1 ((v_63 == (5 : Int))) fun v_70 =>
        if v_70 = true then
         Option.bind (disk_Disk_Room_p_smvvvvm k (16777216 : Int) x_65 x_66 x_67 (x_64)) fun v_71 =>
         lt1 ((v_71 == (0 : Int))) fun v_72 =>
         some ((x_64), x_65, x_66, x_67, v_72)
        else
         some ((x_64), x_65, x_66, x_67, false)
       else
        some ((x_56), x_57, x_58, x_59, false)
      else
       some ((x_46), x_47, x_48, x_49, false)
     else
      some ((x_38), x_39, x_40, x_41, false)
    ) fun (x_73, fuse_74, dead_75, writes_76, x_77) =>
     Option.bind (
      if x_77 = true then
       Option.bind (law05_nothing_np_smvvvvm k (16777216 : Int) fuse_74 dead_75 writes_76 x_73) fun v_80 =>
       if v_80 = true then
        Option.bind (law05_nothing_pp_snvvvvsmvvvvm k (0 : Int) (0 : Int) false (0 : Int) (16777216 : Int) fuse_74 dead_75 writes_76 x_73) fun v_81 =>
        if v_81 = true then
         Option.bind (disk_Disk_Same_pn_snvvvv k (0 : Int) (0 : Int) false (0 : Int)) fun v_82 =>
         Option.bind (if v_82 = true then law05_known k else some default) fun v_83 =>
         lt1 (bif v_82 then v_83 else false) fun v_84 =>
         some v_84
        else
         some false
       else
        some false
      else
       some false
     ) fun t_85 =>
      some t_85
   | (.inr q) =>
    some q
 | (.inr _) =>
  Option.bind (
   some ()
  ) fun _ =>
   some false

end
end Go.Proofs.Ytipchpbcjkhnaaa
