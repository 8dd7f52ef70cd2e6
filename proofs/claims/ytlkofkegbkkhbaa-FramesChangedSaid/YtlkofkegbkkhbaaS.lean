/- The functions as plain Lean functions: no program and no memory here. -/
import Derived.Test.YtlkofkegbkkhbaaFp
namespace Go.Proofs.Ytlkofkegbkkhbaa
open Fw
set_option linter.unusedVariables false
noncomputable section

def crc_fours.b2 (k : Nat) (x_4 : UInt32) (v_5 : Int) : Option ((UInt32 × Int) ⊕ ((UInt32))) :=
  lt1 (decide (v_5 < (4 : Int))) fun v_6 =>
  if v_6 = true then
    Option.bind (
      lt1 ((x_4 &&& (1 : UInt32))) fun v_7 =>
      lt1 ((v_7 == (1 : UInt32))) fun v_8 =>
      if v_8 = true then
        lt1 (UN.shr x_4 (UN.toN (1 : UInt64))) fun v_9 =>
        lt1 ((v_9 ^^^ (2197175160 : UInt32))) fun v_10 =>
        some v_10
      else
        lt1 (UN.shr x_4 (UN.toN (1 : UInt64))) fun v_11 =>
        some v_11
    ) fun x_12 =>
      lt1 (w64 (v_5 + (1 : Int))) fun v_13 =>
      some (.inl (x_12, v_13))
  else
    some (.inr x_4)

def crc_fours.b1 (k : Nat) (v_1 : UInt32) (f_2 : (Vector UInt32 16)) : Option ((UInt32 × (Vector UInt32 16)) ⊕ (((Vector UInt32 16)))) :=
  lt1 (decide (v_1 < (16 : UInt32))) fun v_3 =>
  if v_3 = true then
    Option.bind (
      Option.bind (
        loopO (fun s => crc_fours.b2 k s.1 s.2) k (v_1, (0 : Int))
      ) fun x_14 =>
        Option.bind (inN 16 (UN.toN v_1)) fun i_15 =>
        lt1 ((putV f_2 i_15 x_14)) fun f_16 =>
        some f_16
    ) fun f_17 =>
      lt1 ((v_1 + (1 : UInt32))) fun v_18 =>
      some (.inl (v_18, f_17))
  else
    some (.inr f_2)

def crc_fours (k : Nat) : Option ((Vector UInt32 16)) :=
  Option.bind (
    loopO (fun s => crc_fours.b1 k s.1 s.2) k ((0 : UInt32), (Vector.replicate 16 (0 : UInt32)))
  ) fun f_19 =>
    some f_19

def crc_sum.b1 (k : Nat) (b_2 : (List UInt8)) (v_3 : (Vector UInt32 16)) (x_5 : UInt32) (v_6 : Int) : Option ((UInt32 × Int) ⊕ ((UInt32))) :=
  lt1 (decide (v_6 < (List.length b_2 : Int))) fun v_7 =>
  if v_7 = true then
    Option.bind (idxL b_2 v_6) fun v_8 =>
    lt1 ((UN.to v_8 : UInt32)) fun v_9 =>
    lt1 ((x_5 ^^^ v_9)) fun v_10 =>
    lt1 ((v_10 &&& (15 : UInt32))) fun v_11 =>
    Option.bind (inN 16 (UN.toN v_11)) fun i_12 =>
    lt1 ((getV v_3 i_12)) fun v_13 =>
    lt1 (UN.shr v_10 (UN.toN (4 : UInt64))) fun v_14 =>
    lt1 ((v_13 ^^^ v_14)) fun v_15 =>
    lt1 ((v_15 &&& (15 : UInt32))) fun v_16 =>
    Option.bind (inN 16 (UN.toN v_16)) fun i_17 =>
    lt1 ((getV v_3 i_17)) fun v_18 =>
    lt1 (UN.shr v_15 (UN.toN (4 : UInt64))) fun v_19 =>
    lt1 ((v_18 ^^^ v_19)) fun v_20 =>
    lt1 (w64 (v_6 + (1 : Int))) fun v_21 =>
    some (.inl (v_20, v_21))
  else
    some (.inr x_5)

def crc_sum (k : Nat) (was_1 : UInt32) (b_2 : (List UInt8)) : Option (UInt32) :=
  Option.bind (crc_fours k) fun v_3 =>
  lt1 ((UN.not was_1)) fun v_4 =>
  Option.bind (
    loopO (fun s => crc_sum.b1 k b_2 v_3 s.1 s.2) k (v_4, (0 : Int))
  ) fun x_22 =>
    lt1 ((UN.not x_22)) fun v_23 =>
    some v_23

def crc_Sum.b1 (k : Nat) (l_1 : (List (List UInt8))) (s_2 : UInt32) (v_3 : Int) : Option ((UInt32 × Int) ⊕ ((UInt32))) :=
  lt1 (decide (v_3 < (List.length l_1 : Int))) fun v_4 =>
  if v_4 = true then
    Option.bind (idxL l_1 v_3) fun v_5 =>
    Option.bind (crc_sum k s_2 v_5) fun v_6 =>
    lt1 (w64 (v_3 + (1 : Int))) fun v_7 =>
    some (.inl (v_6, v_7))
  else
    some (.inr s_2)

def crc_Sum (k : Nat) (l_1 : (List (List UInt8))) : Option (UInt32) :=
  Option.bind (
    loopO (fun s => crc_Sum.b1 k l_1 s.1 s.2) k ((0 : UInt32), (0 : Int))
  ) fun s_8 =>
    some s_8

def crc_Close.b1 (k : Nat) (l_1 : (List (List UInt8))) (v_2 : Int) (out_3 : (List UInt8)) : Option ((Int × (List UInt8)) ⊕ (((List UInt8)))) :=
  lt1 (decide (v_2 < (List.length l_1 : Int))) fun v_4 =>
  if v_4 = true then
    Option.bind (idxL l_1 v_2) fun v_5 =>
    Option.bind (apL 1 out_3 v_5) fun out_6 =>
    lt1 (w64 (v_2 + (1 : Int))) fun v_7 =>
    some (.inl (v_7, out_6))
  else
    some (.inr out_3)

def crc_Close.b2 (k : Nat) (s_10 : UInt32) (i_11 : Int) (out_12 : (List UInt8)) : Option ((UInt32 × Int × (List UInt8)) ⊕ (((List UInt8)))) :=
  lt1 (decide (i_11 < (4 : Int))) fun v_13 =>
  if v_13 = true then
    lt1 ((UN.to s_10 : UInt8)) fun v_14 =>
    Option.bind (apL 1 out_12 ([v_14] : (List UInt8))) fun out_15 =>
    lt1 (UN.shr s_10 (UN.toN (8 : UInt64))) fun v_16 =>
    lt1 (w64 (i_11 + (1 : Int))) fun v_17 =>
    some (.inl (v_16, v_17, out_15))
  else
    some (.inr out_12)

def crc_Close (k : Nat) (l_1 : (List (List UInt8))) : Option ((List UInt8)) :=
  Option.bind (
    loopO (fun s => crc_Close.b1 k l_1 s.1 s.2) k ((0 : Int), ([] : (List UInt8)))
  ) fun out_8 =>
    Option.bind (
      Option.bind (crc_Sum k ([out_8] : (List (List UInt8)))) fun v_9 =>
      loopO (fun s => crc_Close.b2 k s.1 s.2.1 s.2.2) k (v_9, (0 : Int), out_8)
    ) fun out_18 =>
      some out_18

def crc_Residue (k : Nat) : Option (UInt32) :=
  Option.bind (crc_Close k ([] : (List (List UInt8)))) fun v_1 =>
  Option.bind (crc_Sum k ([v_1] : (List (List UInt8)))) fun v_2 =>
  some v_2

def crc_Open (k : Nat) (b_1 : (List UInt8)) : Option ((List UInt8) × Bool) :=
  Option.bind (
    lt1 (decide ((List.length b_1 : Int) < (4 : Int))) fun v_2 =>
    if v_2 = true then
      some true
    else
      Option.bind (crc_Sum k ([b_1] : (List (List UInt8)))) fun v_3 =>
      Option.bind (crc_Residue k) fun v_4 =>
      lt1 ((!(v_3 == v_4))) fun v_5 =>
      some v_5
  ) fun v_6 =>
    if v_6 = true then
      some (([] : (List UInt8)), false)
    else
      lt1 (w64 ((List.length b_1 : Int) - (4 : Int))) fun v_7 =>
      Option.bind (subL b_1 0 v_7) fun v_8 =>
      Option.bind (apL 1 [] v_8) fun v_9 =>
      some (v_9, true)

def law02_known (k : Nat) : Option (Bool) :=
  Option.bind (crc_Open k ([(0 : UInt8), (0 : UInt8), (0 : UInt8), (0 : UInt8)] : (List UInt8))) fun (v_1, v_2) =>
  Option.bind (crc_Open k ([(0 : UInt8), (0 : UInt8), (0 : UInt8), (1 : UInt8)] : (List UInt8))) fun (v_3, v_4) =>
  Option.bind (
    Option.bind (crc_Sum k ([] : (List (List UInt8)))) fun v_5 =>
    lt1 ((v_5 == (0 : UInt32))) fun v_6 =>
    if v_6 = true then
      Option.bind (crc_Sum k ([([(49 : UInt8), (50 : UInt8), (51 : UInt8), (52 : UInt8), (53 : UInt8), (54 : UInt8), (55 : UInt8), (56 : UInt8), (57 : UInt8)] : (List UInt8))] : (List (List UInt8)))) fun v_7 =>
      lt1 ((v_7 == (3808858755 : UInt32))) fun v_8 =>
      if v_8 = true then
        Option.bind (crc_Sum k ([([(97 : UInt8)] : (List UInt8))] : (List (List UInt8)))) fun v_9 =>
        lt1 ((v_9 == (3251651376 : UInt32))) fun v_10 =>
        if v_10 = true then
          Option.bind (mkL 1 (4 : Int) (0 : UInt8)) fun v_11 =>
          Option.bind (crc_Sum k ([v_11] : (List (List UInt8)))) fun v_12 =>
          lt1 ((v_12 == (1214729159 : UInt32))) fun v_13 =>
          if v_13 = true then
            Option.bind (crc_Close k ([] : (List (List UInt8)))) fun v_14 =>
            lt1 ((v_14 == ([0, 0, 0, 0] : List UInt8))) fun v_15 =>
            if v_15 = true then
              lt1 (((List.length v_1 : Int) == (0 : Int))) fun v_16 =>
              if v_16 = true then
                if v_2 = true then
                  lt1 (((List.length v_3 : Int) == (0 : Int))) fun v_17 =>
                  if v_17 = true then
                    lt1 ((!v_4)) fun v_18 =>
                    some v_18
                  else
                    some false
                else
                  some false
              else
                some false
            else
              some false
          else
            some false
        else
          some false
      else
        some false
    else
      some false
  ) fun v_19 =>
    some v_19

def ref02_taps (k : Nat) : Option ((List UInt8)) :=
  some ([48, 48, 48, 49, 49, 49, 49, 48, 49, 49, 48, 49, 49, 49, 48, 48, 48, 49, 49, 48, 49, 49, 49, 49, 48, 49, 48, 48, 48, 48, 48, 49] : List UInt8)

def ref02_Bits_in.b1 (k : Nat) (x_1 : (Vector Bool 32)) (v_5 : Bool) (v_6 : (List UInt8)) (i_7 : Int) (o_8 : (Vector Bool 32)) : Option ((Int × (Vector Bool 32)) ⊕ (((Vector Bool 32)))) :=
  lt1 (decide (i_7 < (32 : Int))) fun v_9 =>
  if v_9 = true then
    Option.bind (
      Option.bind (
        lt1 (decide (i_7 < (31 : Int))) fun v_10 =>
        if v_10 = true then
          lt1 (w64 (i_7 + (1 : Int))) fun v_11 =>
          Option.bind (inV 32 v_11) fun i_12 =>
          lt1 ((getV x_1 i_12)) fun v_13 =>
          some v_13
        else
          some false
      ) fun next_14 =>
        if v_5 = true then
          Option.bind (idxL v_6 i_7) fun v_15 =>
          lt1 ((v_15 == (49 : UInt8))) fun v_16 =>
          lt1 ((next_14 != v_16)) fun v_17 =>
          Option.bind (inV 32 i_7) fun i_18 =>
          lt1 ((putV o_8 i_18 v_17)) fun o_19 =>
          some o_19
        else
          lt1 ((next_14 != false)) fun v_20 =>
          Option.bind (inV 32 i_7) fun i_21 =>
          lt1 ((putV o_8 i_21 v_20)) fun o_22 =>
          some o_22
    ) fun o_23 =>
      lt1 (w64 (i_7 + (1 : Int))) fun v_24 =>
      some (.inl (v_24, o_23))
  else
    some (.inr o_8)

def ref02_Bits_in (k : Nat) (x_1 : (Vector Bool 32)) (bit_2 : Bool) : Option ((Vector Bool 32)) :=
  Option.bind (inV 32 (0 : Int)) fun i_3 =>
  lt1 ((getV x_1 i_3)) fun v_4 =>
  lt1 ((v_4 != bit_2)) fun v_5 =>
  Option.bind (ref02_taps k) fun v_6 =>
  Option.bind (
    loopO (fun s => ref02_Bits_in.b1 k x_1 v_5 v_6 s.1 s.2) k ((0 : Int), (Vector.replicate 32 false))
  ) fun o_25 =>
    some o_25

def ref02_Sum.b1 (k : Nat) (i_2 : Int) (x_3 : (Vector Bool 32)) : Option ((Int × (Vector Bool 32)) ⊕ (((Vector Bool 32)))) :=
  lt1 (decide (i_2 < (32 : Int))) fun v_4 =>
  if v_4 = true then
    Option.bind (inV 32 i_2) fun i_5 =>
    lt1 ((putV x_3 i_5 true)) fun x_6 =>
    lt1 (w64 (i_2 + (1 : Int))) fun v_7 =>
    some (.inl (v_7, x_6))
  else
    some (.inr x_3)

def ref02_Sum.b3 (k : Nat) (b_1 : (List UInt8)) (i_9 : Int) (k_12 : Int) (x_13 : (Vector Bool 32)) : Option ((Int × (Vector Bool 32)) ⊕ (((Vector Bool 32)))) :=
  lt1 (decide (k_12 < (8 : Int))) fun v_14 =>
  if v_14 = true then
    Option.bind (idxL b_1 i_9) fun v_15 =>
    lt1 ((UN.ofI k_12 : UInt64)) fun v_16 =>
    lt1 (UN.shr v_15 (UN.toN v_16)) fun v_17 =>
    Option.bind (modU v_17 (2 : UInt8)) fun v_18 =>
    lt1 ((v_18 == (1 : UInt8))) fun v_19 =>
    Option.bind (ref02_Bits_in k x_13 v_19) fun v_20 =>
    lt1 (w64 (k_12 + (1 : Int))) fun v_21 =>
    some (.inl (v_21, v_20))
  else
    some (.inr x_13)

def ref02_Sum.b2 (k : Nat) (b_1 : (List UInt8)) (i_9 : Int) (x_10 : (Vector Bool 32)) : Option ((Int × (Vector Bool 32)) ⊕ (((Vector Bool 32)))) :=
  lt1 (decide (i_9 < (List.length b_1 : Int))) fun v_11 =>
  if v_11 = true then
    Option.bind (
      loopO (fun s => ref02_Sum.b3 k b_1 i_9 s.1 s.2) k ((0 : Int), x_10)
    ) fun x_22 =>
      lt1 (w64 (i_9 + (1 : Int))) fun v_23 =>
      some (.inl (v_23, x_22))
  else
    some (.inr x_10)

def ref02_Sum.b4 (k : Nat) (x_24 : (Vector Bool 32)) (s_25 : UInt32) (i_26 : Int) : Option ((UInt32 × Int) ⊕ ((UInt32))) :=
  lt1 (decide (i_26 ≥ (0 : Int))) fun v_27 =>
  if v_27 = true then
    Option.bind (
      lt1 (((2 : UInt32) * s_25)) fun v_28 =>
      Option.bind (inV 32 i_26) fun i_29 =>
      lt1 ((getV x_24 i_29)) fun v_30 =>
      lt1 ((!v_30)) fun v_31 =>
      if v_31 = true then
        lt1 ((v_28 + (1 : UInt32))) fun v_32 =>
        some v_32
      else
        some v_28
    ) fun s_33 =>
      lt1 (w64 (i_26 - (1 : Int))) fun v_34 =>
      some (.inl (s_33, v_34))
  else
    some (.inr s_25)

def ref02_Sum (k : Nat) (b_1 : (List UInt8)) : Option (UInt32) :=
  Option.bind (
    loopO (fun s => ref02_Sum.b1 k s.1 s.2) k ((0 : Int), (Vector.replicate 32 false))
  ) fun x_8 =>
    Option.bind (
      loopO (fun s => ref02_Sum.b2 k b_1 s.1 s.2) k ((0 : Int), x_8)
    ) fun x_24 =>
      Option.bind (
        loopO (fun s => ref02_Sum.b4 k x_24 s.1 s.2) k ((0 : UInt32), (31 : Int))
      ) fun s_35 =>
        some s_35

def ref02_Close.b1 (k : Nat) (s_4 : UInt32) (i_5 : Int) (o_6 : (List UInt8)) : Option ((UInt32 × Int × (List UInt8)) ⊕ (((List UInt8)))) :=
  lt1 (decide (i_5 < (4 : Int))) fun v_7 =>
  if v_7 = true then
    Option.bind (modU s_4 (256 : UInt32)) fun v_8 =>
    lt1 ((UN.to v_8 : UInt8)) fun v_9 =>
    Option.bind (apL 1 o_6 ([v_9] : (List UInt8))) fun o_10 =>
    Option.bind (divU s_4 (256 : UInt32)) fun v_11 =>
    lt1 (w64 (i_5 + (1 : Int))) fun v_12 =>
    some (.inl (v_11, v_12, o_10))
  else
    some (.inr o_6)

def ref02_Close (k : Nat) (b_1 : (List UInt8)) : Option ((List UInt8)) :=
  Option.bind (ref02_Sum k b_1) fun v_2 =>
  Option.bind (apL 1 [] b_1) fun v_3 =>
  Option.bind (
    loopO (fun s => ref02_Close.b1 k s.1 s.2.1 s.2.2) k (v_2, (0 : Int), v_3)
  ) fun o_13 =>
    some o_13

def law02_FramesSum.b1 (k : Nat) (l_1 : (List (List UInt8))) (i_2 : Int) (all_3 : (List UInt8)) : Option ((Int × (List UInt8)) ⊕ (((List UInt8)) ⊕ (Bool))) :=
  lt1 (decide (i_2 < (List.length l_1 : Int))) fun v_4 =>
  if v_4 = true then
    Option.bind (idxL l_1 i_2) fun v_5 =>
    lt1 (w64 ((List.length all_3 : Int) + (List.length v_5 : Int))) fun v_6 =>
    lt1 (decide (v_6 > (1500 : Int))) fun v_7 =>
    if v_7 = true then
      Option.bind (law02_known k) fun v_8 =>
      some (.inr (.inr v_8))
    else
      Option.bind (idxL l_1 i_2) fun v_9 =>
      Option.bind (apL 1 all_3 v_9) fun all_10 =>
      lt1 (w64 (i_2 + (1 : Int))) fun v_11 =>
      some (.inl (v_11, all_10))
  else
    some (.inr (.inl all_3))

def law02_FramesSum (k : Nat) (l_1 : (List (List UInt8))) : Option (Bool) :=
  Option.bind (
    Option.bind (loopO (fun s => law02_FramesSum.b1 k l_1 s.1 s.2) k ((0 : Int), ([] : (List UInt8)))) fun t => match t with
    | (.inl all_12) =>
      some (.inl all_12)
    | (.inr q) =>
      some (.inr q)
   : Option (((List UInt8)) ⊕ (Bool))) fun t => match t with
  | (.inl all_13) =>
    Option.bind (crc_Close k l_1) fun v_14 =>
    Option.bind (
      Option.bind (crc_Sum k l_1) fun v_15 =>
      Option.bind (ref02_Sum k all_13) fun v_16 =>
      lt1 ((v_15 == v_16)) fun v_17 =>
      if v_17 = true then
        Option.bind (crc_Sum k ([all_13] : (List (List UInt8)))) fun v_18 =>
        Option.bind (ref02_Sum k all_13) fun v_19 =>
        lt1 ((v_18 == v_19)) fun v_20 =>
        if v_20 = true then
          Option.bind (ref02_Close k all_13) fun v_21 =>
          lt1 ((v_14 == v_21)) fun v_22 =>
          if v_22 = true then
            Option.bind (crc_Sum k ([v_14] : (List (List UInt8)))) fun v_23 =>
            Option.bind (crc_Residue k) fun v_24 =>
            lt1 ((v_23 == v_24)) fun v_25 =>
            if v_25 = true then
              Option.bind (law02_known k) fun v_26 =>
              some v_26
            else
              some false
          else
            some false
        else
          some false
      else
        some false
    ) fun v_27 =>
      some v_27
  | (.inr q) =>
    some q

def ref02_Open (k : Nat) (b_1 : (List UInt8)) : Option ((List UInt8) × Bool) :=
  lt1 (w64 ((List.length b_1 : Int) - (4 : Int))) fun v_2 =>
  Option.bind (
    lt1 (decide (v_2 < (0 : Int))) fun v_3 =>
    if v_3 = true then
      some true
    else
      Option.bind (subL b_1 0 v_2) fun v_4 =>
      Option.bind (ref02_Close k v_4) fun v_5 =>
      lt1 ((v_5 != b_1)) fun v_6 =>
      some v_6
  ) fun v_7 =>
    if v_7 = true then
      some (([] : (List UInt8)), false)
    else
      Option.bind (subL b_1 0 v_2) fun v_8 =>
      some (v_8, true)

def law02_FramesOpen.b1 (k : Nat) (v_17 : Int) (x_18 : (List UInt8)) : Option ((Int × (List UInt8)) ⊕ ((Unit))) :=
  lt1 (decide (v_17 < (List.length x_18 : Int))) fun v_19 =>
  if v_19 = true then
    Option.bind (inO x_18 v_17) fun i_20 =>
    Option.bind (x_18[i_20]?) fun v_21 =>
    lt1 ((v_21 + (1 : UInt8))) fun v_22 =>
    Option.bind (inO x_18 v_17) fun i_23 =>
    Option.bind (setO' x_18 i_23 v_22) fun x_24 =>
    lt1 (w64 (v_17 + (1 : Int))) fun v_25 =>
    some (.inl (v_25, x_24))
  else
    some (.inr ())

def law02_FramesOpen (k : Nat) (t_1 : (List UInt8)) : Option (Bool) :=
  lt1 (decide ((List.length t_1 : Int) > (1500 : Int))) fun v_2 =>
  if v_2 = true then
    Option.bind (law02_known k) fun v_3 =>
    some v_3
  else
    Option.bind (crc_Open k t_1) fun (v_4, v_5) =>
    Option.bind (ref02_Open k t_1) fun (v_6, v_7) =>
    Option.bind (
      lt1 ((v_5 != v_7)) fun v_8 =>
      if v_8 = true then
        some true
      else
        lt1 ((v_4 != v_6)) fun v_9 =>
        if v_9 = true then
          some true
        else
          lt1 (decide ((List.length t_1 : Int) ≥ (4 : Int))) fun v_10 =>
          if v_10 = true then
            Option.bind (crc_Sum k ([t_1] : (List (List UInt8)))) fun v_11 =>
            Option.bind (crc_Residue k) fun v_12 =>
            lt1 ((v_11 == v_12)) fun v_13 =>
            lt1 ((v_5 != v_13)) fun v_14 =>
            some v_14
          else
            lt1 ((v_5 != false)) fun v_15 =>
            some v_15
    ) fun v_16 =>
      if v_16 = true then
        some false
      else
        Option.bind (
          loopO (fun s => law02_FramesOpen.b1 k s.1 s.2) k ((0 : Int), v_4)
        ) fun _ =>
          Option.bind (
            lt1 ((t_1 == t_1)) fun v_26 =>
            if v_26 = true then
              Option.bind (law02_known k) fun v_27 =>
              some v_27
            else
              some false
          ) fun v_28 =>
            some v_28

def law02_FramesBack.b1 (k : Nat) (times_2 : Int) (x_8 : (List UInt8)) (i_9 : Int) : Option (((List UInt8) × Int) ⊕ (((List UInt8)))) :=
  lt1 (decide (i_9 < times_2)) fun v_10 =>
  if v_10 = true then
    Option.bind (crc_Close k ([x_8] : (List (List UInt8)))) fun v_11 =>
    lt1 (w64 (i_9 + (1 : Int))) fun v_12 =>
    some (.inl (v_11, v_12))
  else
    some (.inr x_8)

def law02_FramesBack.b2 (k : Nat) (times_2 : Int) (x_17 : (List UInt8)) (i_18 : Int) : Option (((List UInt8) × Int) ⊕ (((List UInt8)) ⊕ (Bool))) :=
  lt1 (decide (i_18 < times_2)) fun v_19 =>
  if v_19 = true then
    Option.bind (crc_Open k x_17) fun (v_20, v_21) =>
    lt1 ((!v_21)) fun v_22 =>
    if v_22 = true then
      some (.inr (.inr false))
    else
      lt1 (w64 (i_18 + (1 : Int))) fun v_23 =>
      some (.inl (v_20, v_23))
  else
    some (.inr (.inl x_17))

def law02_FramesBack (k : Nat) (b_1 : (List UInt8)) (times_2 : Int) : Option (Bool) :=
  Option.bind (
    lt1 (decide ((List.length b_1 : Int) > (800 : Int))) fun v_3 =>
    if v_3 = true then
      some true
    else
      lt1 (decide (times_2 < (0 : Int))) fun v_4 =>
      if v_4 = true then
        some true
      else
        lt1 (decide (times_2 > (6 : Int))) fun v_5 =>
        some v_5
  ) fun v_6 =>
    if v_6 = true then
      Option.bind (law02_known k) fun v_7 =>
      some v_7
    else
      Option.bind (
        loopO (fun s => law02_FramesBack.b1 k times_2 s.1 s.2) k (b_1, (0 : Int))
      ) fun x_13 =>
        lt1 (w64 ((4 : Int) * times_2)) fun v_14 =>
        lt1 (w64 ((List.length b_1 : Int) + v_14)) fun v_15 =>
        lt1 (((List.length x_13 : Int) != v_15)) fun v_16 =>
        if v_16 = true then
          some false
        else
          Option.bind (
            Option.bind (loopO (fun s => law02_FramesBack.b2 k times_2 s.1 s.2) k (x_13, (0 : Int))) fun t => match t with
            | (.inl x_24) =>
              some (.inl x_24)
            | (.inr q) =>
              some (.inr q)
           : Option (((List UInt8)) ⊕ (Bool))) fun t => match t with
          | (.inl x_25) =>
            Option.bind (
              lt1 ((x_25 == b_1)) fun v_26 =>
              if v_26 = true then
                Option.bind (law02_known k) fun v_27 =>
                some v_27
              else
                some false
            ) fun v_28 =>
              some v_28
          | (.inr q) =>
            some q

def law02_FramesChanged.b1 (k : Nat) (a_2 : Int) (a_3 : UInt32) (v_13 : Int) (x_14 : (List UInt8)) : Option ((Int × (List UInt8)) ⊕ (((List UInt8)))) :=
  lt1 (decide (v_13 < (32 : Int))) fun v_15 =>
  if v_15 = true then
    lt1 (w64 (a_2 + v_13)) fun v_16 =>
    Option.bind (divI v_16 (8 : Int)) fun v_17 =>
    Option.bind (divI v_16 (8 : Int)) fun v_18 =>
    Option.bind (inO x_14 v_18) fun i_19 =>
    Option.bind (x_14[i_19]?) fun v_20 =>
    lt1 ((UN.ofI v_13 : UInt64)) fun v_21 =>
    lt1 (UN.shr a_3 (UN.toN v_21)) fun v_22 =>
    Option.bind (modU v_22 (2 : UInt32)) fun v_23 =>
    lt1 ((UN.to v_23 : UInt8)) fun v_24 =>
    Option.bind (modI v_16 (8 : Int)) fun v_25 =>
    lt1 ((UN.ofI v_25 : UInt64)) fun v_26 =>
    lt1 (UN.shl v_24 (UN.toN v_26)) fun v_27 =>
    lt1 ((v_20 ^^^ v_27)) fun v_28 =>
    Option.bind (inO x_14 v_17) fun i_29 =>
    Option.bind (setO' x_14 i_29 v_28) fun x_30 =>
    lt1 (w64 (v_13 + (1 : Int))) fun v_31 =>
    some (.inl (v_31, x_30))
  else
    some (.inr x_14)

def law02_FramesChanged (k : Nat) (t_1 : (List UInt8)) (a_2 : Int) (a_3 : UInt32) : Option (Bool) :=
  Option.bind (crc_Close k ([t_1] : (List (List UInt8)))) fun v_4 =>
  Option.bind (
    lt1 (decide ((List.length t_1 : Int) > (1500 : Int))) fun v_5 =>
    if v_5 = true then
      some true
    else
      lt1 ((a_3 == (0 : UInt32))) fun v_6 =>
      if v_6 = true then
        some true
      else
        lt1 (decide (a_2 < (0 : Int))) fun v_7 =>
        if v_7 = true then
          some true
        else
          lt1 (w64 ((8 : Int) * (List.length v_4 : Int))) fun v_8 =>
          lt1 (w64 (v_8 - (32 : Int))) fun v_9 =>
          lt1 (decide (a_2 > v_9)) fun v_10 =>
          some v_10
  ) fun v_11 =>
    if v_11 = true then
      Option.bind (law02_known k) fun v_12 =>
      some v_12
    else
      Option.bind (
        loopO (fun s => law02_FramesChanged.b1 k a_2 a_3 s.1 s.2) k ((0 : Int), v_4)
      ) fun x_32 =>
        Option.bind (crc_Open k x_32) fun (v_33, v_34) =>
        Option.bind (
          lt1 ((!v_34)) fun v_35 =>
          if v_35 = true then
            lt1 (((List.length v_33 : Int) == (0 : Int))) fun v_36 =>
            if v_36 = true then
              Option.bind (law02_known k) fun v_37 =>
              some v_37
            else
              some false
          else
            some false
        ) fun v_38 =>
          some v_38

def law02_FramesShort (k : Nat) (t_1 : (List UInt8)) (a_2 : Int) : Option (Bool) :=
  Option.bind (crc_Close k ([t_1] : (List (List UInt8)))) fun v_3 =>
  Option.bind (
    lt1 (decide ((List.length t_1 : Int) > (800 : Int))) fun v_4 =>
    if v_4 = true then
      some true
    else
      lt1 (decide (a_2 < (1 : Int))) fun v_5 =>
      if v_5 = true then
        some true
      else
        lt1 (decide (a_2 > (List.length v_3 : Int))) fun v_6 =>
        some v_6
  ) fun v_7 =>
    if v_7 = true then
      Option.bind (law02_known k) fun v_8 =>
      some v_8
    else
      Option.bind (subL v_3 a_2 v_3.length) fun v_9 =>
      lt1 (w64 ((List.length v_3 : Int) - a_2)) fun v_10 =>
      Option.bind (subL v_3 0 v_10) fun v_11 =>
      Option.bind (crc_Open k v_9) fun (v_12, v_13) =>
      Option.bind (crc_Open k v_11) fun (v_14, v_15) =>
      Option.bind (ref02_Open k v_9) fun (v_16, v_17) =>
      Option.bind (ref02_Open k v_11) fun (v_18, v_19) =>
      Option.bind (
        lt1 ((v_13 == v_17)) fun v_20 =>
        if v_20 = true then
          lt1 ((v_15 == v_19)) fun v_21 =>
          if v_21 = true then
            Option.bind (law02_known k) fun v_22 =>
            some v_22
          else
            some false
        else
          some false
      ) fun v_23 =>
        some v_23

end
end Go.Proofs.Ytlkofkegbkkhbaa
