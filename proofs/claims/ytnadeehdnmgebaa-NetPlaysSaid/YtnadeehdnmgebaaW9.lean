/- Walks. -/
import Derived.Test.YtnadeehdnmgebaaT
namespace Go.Proofs.Ytnadeehdnmgebaa
open Go Fw
set_option linter.unusedVariables false
set_option maxRecDepth 100000
set_option maxHeartbeats 4000000

theorem sim_ref12_Net_lay'2 (k : Nat) (a_1 : api_Flight) (Ends_2 : Int) (Lost_3 : Int) (x_5 : (List api_Flight)) (gb_4 : Nat) (go_6 : Option Nat) (gc_7 : Nat) (r : (List api_Flight)) (hm : ref12_Net_lay'2 k a_1 Ends_2 Lost_3 x_5 = some r) : Sim Try.prog 42 [PTR gb_4 0, A r_api_Flight a_1] [cvar gb_4 (rP (rW (HDR go_6 0 (List.length x_5) gc_7)) (rP (rI .i64) (rP (rI .i64) r0))) ((), (Ends_2, (Lost_3, ()))), cown go_6 r_api_Flight x_5 0 gc_7] (γ := Option Nat × Nat) (fun q => [cvar gb_4 (rP (rW (HDR q.1 0 (List.length r) q.2)) (rP (rI .i64) (rP (rI .i64) r0))) ((), (Ends_2, (Lost_3, ()))), cown q.1 r_api_Flight r 0 q.2, cown go_6 r_api_Flight x_5 (List.length x_5) gc_7]) (fun q => .tup []) := by
 unfold ref12_Net_lay'2 at hm
 refine Sim.of Try.func42 rfl rfl (Nat.le_of_ble_eq_true rfl) (fun e0 w0 => ?_)
 refine JC.at ⟨[(0, ov (PTR gb_4 0)), (1, ov (A r_api_Flight a_1))], [cvar gb_4 (rP (rW (HDR go_6 0 (List.length x_5) gc_7)) (rP (rI .i64) (rP (rI .i64) r0))) ((), (Ends_2, (Lost_3, ()))), cown go_6 r_api_Flight x_5 0 gc_7], []⟩ ?_
 refine JC.seq ?_
 refine JC.region ?_
 refine jx (op_boxA lb (.tmp rfl)) (fun q => ?_)
 obtain ⟨gb_8, hqq⟩ : ∃ z, z = q := ⟨_, rfl⟩
 subst hqq
 refine JL.nil ?_
 refine JQ.then ?_
 refine JC.seq ?_
 refine JC.region ?_
 refine jc (op_assign lb .cI) ?_
 refine JL.nil ?_
 refine JQ.then ?_
 replace hm := bnd_inv hm
 obtain ⟨x_22, hx1, hq1⟩ := hm
 refine JC.seqJ (γ := Unit) (stj := fun q => ⟨[(0, ov (PTR gb_4 0)), (3, ov (PTR gb_8 0)), (4, ov (S (rI .i64) x_22))], [cvar gb_4 (rP (rW (HDR go_6 0 (List.length x_5) gc_7)) (rP (rI .i64) (rP (rI .i64) r0))) ((), (Ends_2, (Lost_3, ()))), cown go_6 r_api_Flight x_5 0 gc_7, cvar gb_8 r_api_Flight a_1], []⟩) (fun q => ?_) ?_
 · obtain _ := q
   refine JC.at ⟨[(0, ov (PTR gb_4 0)), (3, ov (PTR gb_8 0)), (4, ov (S (rI .i64) x_22))], [cvar gb_4 (rP (rW (HDR go_6 0 (List.length x_5) gc_7)) (rP (rI .i64) (rP (rI .i64) r0))) ((), (Ends_2, (Lost_3, ()))), cown go_6 r_api_Flight x_5 0 gc_7, cvar gb_8 r_api_Flight a_1], []⟩ ?_
   refine JC.pre (Imp.frz (j := 1) rfl (ImpK.var (j := 0) (q := (rP (rW (HL go_6 r_api_Flight x_5 gc_7)) (rP (rI .i64) (rP (rI .i64) r0)))) (y := ((), (Ends_2, (Lost_3, ())))) rfl (Wk.pair Wk.own (Wk.pair Wk.refl (Wk.pair Wk.refl Wk.refl))) ImpK.refl)) ?_
   replace hq1 := bnd_inv hq1
   obtain ⟨v_23, hv_v_23, hq1⟩ := hq1
   replace hq1 := bnd_inv hq1
   obtain ⟨v_24, hv_v_24, hq1⟩ := hq1
   replace hq1 := bnd_inv hq1
   obtain ⟨x_27, hv_x_27, hq1⟩ := hq1
   replace hq1 := bnd_inv hq1
   obtain ⟨v_30, hv_v_30, hq1⟩ := hq1
   replace hq1 := bnd_inv hq1
   obtain ⟨x_31, hv_x_31, hq1⟩ := hq1
   refine JC.anyE (kl := []) (kk := 0) (base := [(0, ov (PTR gb_4 0)), (3, ov (PTR gb_8 0)), (4, ov (S (rI .i64) x_22))])
       (fs := fun γ => [⟨some 53, ov (PTR gb_4 0)⟩, ⟨some 54, ov (PTR gb_4 0)⟩, ⟨some 55, ov (PTR gb_4 0)⟩, ⟨some 56, ov (PTR gb_4 (0 + 0))⟩, ⟨some 57, ov (HL go_6 r_api_Flight x_5 gc_7)⟩, ⟨some 58, ov (S (rI .i64) x_22)⟩, ⟨some 59, ov (S (rL r_api_Flight) v_23)⟩, ⟨some 60, ov (HDR (deo (γ 7 0)) 0 (List.length v_24) (γ 7 1))⟩, ⟨some 61, ov (A r_api_Flight a_1)⟩, ⟨some 62, ov (S (rL r_api_Flight) ([a_1] : (List api_Flight)))⟩, ⟨some 63, ov (HDR (deo (γ 10 0)) 0 (List.length x_27) (γ 10 1))⟩, ⟨some 64, ov (PTR gb_4 0)⟩, ⟨some 65, ov (PTR gb_4 0)⟩, ⟨some 66, ov (PTR gb_4 (0 + 0))⟩, ⟨some 67, ov (HL go_6 r_api_Flight x_5 gc_7)⟩, ⟨some 68, ov (S (rI .i64) x_22)⟩, ⟨some 69, ov (S (rL r_api_Flight) v_30)⟩, ⟨some 70, ov (HDR (deo (γ 17 0)) 0 (List.length x_31) (γ 17 1))⟩, ⟨some 71, ov (PTR gb_4 0)⟩, ⟨some 72, ov (PTR gb_4 (0 + 0))⟩, ⟨none, .one .any⟩])
       (rs := fun γ => [⟨cvar gb_4 (rP (rW (HL go_6 r_api_Flight x_5 gc_7)) (rP (rI .i64) (rP (rI .i64) r0))) ((), (Ends_2, (Lost_3, ()))), none, (some 20), [4, 14]⟩, ⟨cown go_6 r_api_Flight x_5 (List.length x_5) gc_7, none, none, []⟩, ⟨cvar gb_8 r_api_Flight a_1, none, none, [8]⟩, ⟨cown (deo (γ 7 0)) r_api_Flight v_24 0 (γ 7 1), (some 7), (some 10), []⟩, ⟨cown (deo (γ 10 0)) r_api_Flight x_27 0 (γ 10 1), (some 10), (some 17), []⟩, ⟨cown (deo (γ 17 0)) r_api_Flight x_31 0 (γ 17 1), (some 17), none, []⟩, ⟨cvar gb_4 (rP (rW (HDR (deo (γ 17 0)) 0 (List.length x_31) (γ 17 1))) (rP (rI .i64) (rP (rI .i64) r0))) ((), (Ends_2, (Lost_3, ()))), (some 20), none, []⟩])
       (ds := [53, 54, 55, 56, 57, 58, 59, 60, 61, 62, 63, 64, 65, 66, 67, 68, 69, 70, 71, 72]) (bs := [0, 3, 4]) (afts := [[], [], [], [], [], [], [], [7, 10, 17, 18, 19, 20], [], [], [10, 17, 18, 19, 20], [], [], [], [], [], [], [17, 18, 19, 20], [], [], []]) (js := [0, 0, 0]) mixed (.cons rfl (.cons rfl (.cons rfl .nil))) (fun _ => rfl)
       (by
      refine dS 1 (fun γ ρ B hb hd => op_move lb (.tmp (hb 0 _ rfl))) ?_
      refine dS 2 (fun γ ρ B hb hd => op_move lb (.tmp (hb 0 _ rfl))) ?_
      refine dS 3 (fun γ ρ B hb hd => op_nilCheck lb (.tmp (hl hd 1 54 rfl)) (fun e v h => by subst h; rfl)) ?_
      refine dS 4 (fun γ ρ B hb hd => op_fieldAddr (off := 0) lb tf43_0 (.tmp (hl hd 2 55 rfl))) ?_
      refine DSteps.cons (j := 5) rfl (fun _ => rfl) (.run (fun γ ρ B hb hd => ⟨.none, OpStep.at ⟨ρ, (cvar gb_4 (rP (rW (HL go_6 r_api_Flight x_5 gc_7)) (rP (rI .i64) (rP (rI .i64) r0))) ((), (Ends_2, (Lost_3, ())))) :: B, _⟩ (setO ⟨ρ, (cvar gb_4 (rP (rW (HL go_6 r_api_Flight x_5 gc_7)) (rP (rI .i64) (rP (rI .i64) r0))) ((), (Ends_2, (Lost_3, ())))) :: B, _⟩ _ _) (op_loadW (j := 0) lb tS30 (.tmp (hl hd 3 56 rfl)) rfl (Comp.trans (Comp.self (rP (rW (HL go_6 r_api_Flight x_5 gc_7)) (rP (rI .i64) (rP (rI .i64) r0))) ((), (Ends_2, (Lost_3, ())))) (Comp.at' (Comp.inF (Comp.self (rW (HL go_6 r_api_Flight x_5 gc_7)) ()) (Nat.le_of_ble_eq_true rfl)) (by rfl : _ = 0)) (Nat.le_of_ble_eq_true rfl)))⟩)) ?_
      refine dS 6 (fun γ ρ B hb hd => op_move lb (.tmp (hb 4 _ rfl))) ?_
      refine dS 7 (fun γ ρ B hb hd => op_sliceLg lb tu30 tz36 (HasO.wk (.tmp (hl hd 4 57 rfl)) wkHL) .none (.some (.tmp (hl hd 5 58 rfl))) hv_v_23) ?_
      refine DSteps.cons (j := 8) rfl (fun _ => rfl) (.runX (fun _ _ => rfl) (fun γ ρ B hb hd => ⟨.none, OpX.ghost (γ := Option Nat × Nat) (st' := fun q => setO ⟨ρ, (cown q.1 r_api_Flight v_24 0 q.2) :: B, _⟩ (some 60) (ov (HDR q.1 0 (List.length v_24) q.2))) (fun q c => bif Nat.beq c 0 then eno q.1 else q.2) (OpX.front (op_appendN (r := r_api_Flight) lb tu30 tu30 rfl tB36 rfl (Nat.lt_of_lt_of_le Nat.zero_lt_one (Nat.le_of_ble_eq_true rfl)) (Nat.lt_of_lt_of_le Nat.zero_lt_one (Nat.le_of_ble_eq_true rfl)) HasO.nilH (fun _ _ _ h => Src.list h (.tmp (hl hd 6 59 rfl))) (apL_some hv_v_24))) (fun q => by obtain ⟨q0, q1⟩ := q; cases q0 <;> exact Imp.refl)⟩) (fun _ _ => rfl) (fun _ _ => rfl)) ?_
      refine DSteps.cons (j := 9) rfl (fun _ => rfl) (.run (fun γ ρ B hb hd => ⟨.none, OpStep.at ⟨ρ, (cvar gb_8 r_api_Flight a_1) :: B, _⟩ (setO ⟨ρ, (cvar gb_8 r_api_Flight a_1) :: B, _⟩ _ _) (op_loadA (j := 0) lb tA36 (.tmp (hb 3 _ rfl)) rfl (Comp.self r_api_Flight a_1) rfl)⟩)) ?_
      refine dS 10 (fun γ ρ B hb hd => op_buildF (r := r_api_Flight) lb tu30 tz36 tZ36 rfl (Nat.le_of_ble_eq_true rfl) (.A (.tmp (hl hd 8 61 rfl)) .nil) rfl) ?_
      refine DSteps.cons (j := 11) rfl (fun _ => rfl) (.runX (fun _ _ => rfl) (fun γ ρ B hb hd => ⟨.none, OpX.ghost (γ := Option Nat × Nat) (st' := fun q => setO ⟨ρ, (cown q.1 r_api_Flight x_27 0 q.2) :: B, _⟩ (some 63) (ov (HDR q.1 0 (List.length x_27) q.2))) (fun q c => bif Nat.beq c 0 then eno q.1 else q.2) (op_appendL (j := 0) lb tu30 tu30 rfl tB36 rfl (Nat.lt_of_lt_of_le Nat.zero_lt_one (Nat.le_of_ble_eq_true rfl)) (Nat.lt_of_lt_of_le Nat.zero_lt_one (Nat.le_of_ble_eq_true rfl))  rfl (.tmp (hl hd 7 60 rfl)) (.tmp (hl hd 9 62 rfl)) hv_x_27) (fun q => by obtain ⟨q0, q1⟩ := q; cases q0 <;> exact Imp.refl)⟩) (fun _ _ => rfl) (fun _ _ => rfl)) ?_
      refine dS 12 (fun γ ρ B hb hd => op_move lb (.tmp (hb 0 _ rfl))) ?_
      refine dS 13 (fun γ ρ B hb hd => op_nilCheck lb (.tmp (hl hd 11 64 rfl)) (fun e v h => by subst h; rfl)) ?_
      refine dS 14 (fun γ ρ B hb hd => op_fieldAddr (off := 0) lb tf43_0 (.tmp (hl hd 12 65 rfl))) ?_
      refine DSteps.cons (j := 15) rfl (fun _ => rfl) (.run (fun γ ρ B hb hd => ⟨.none, OpStep.at ⟨ρ, (cvar gb_4 (rP (rW (HL go_6 r_api_Flight x_5 gc_7)) (rP (rI .i64) (rP (rI .i64) r0))) ((), (Ends_2, (Lost_3, ())))) :: B, _⟩ (setO ⟨ρ, (cvar gb_4 (rP (rW (HL go_6 r_api_Flight x_5 gc_7)) (rP (rI .i64) (rP (rI .i64) r0))) ((), (Ends_2, (Lost_3, ())))) :: B, _⟩ _ _) (op_loadW (j := 0) lb tS30 (.tmp (hl hd 13 66 rfl)) rfl (Comp.trans (Comp.self (rP (rW (HL go_6 r_api_Flight x_5 gc_7)) (rP (rI .i64) (rP (rI .i64) r0))) ((), (Ends_2, (Lost_3, ())))) (Comp.at' (Comp.inF (Comp.self (rW (HL go_6 r_api_Flight x_5 gc_7)) ()) (Nat.le_of_ble_eq_true rfl)) (by rfl : _ = 0)) (Nat.le_of_ble_eq_true rfl)))⟩)) ?_
      refine dS 16 (fun γ ρ B hb hd => op_move lb (.tmp (hb 4 _ rfl))) ?_
      refine dS 17 (fun γ ρ B hb hd => op_sliceLg lb tu30 tz36 (HasO.wk (.tmp (hl hd 14 67 rfl)) wkHL) (.some (.tmp (hl hd 15 68 rfl))) .none hv_v_30) ?_
      refine DSteps.cons (j := 18) rfl (fun _ => rfl) (.runX (fun _ _ => rfl) (fun γ ρ B hb hd => ⟨.none, OpX.ghost (γ := Option Nat × Nat) (st' := fun q => setO ⟨ρ, (cown q.1 r_api_Flight x_31 0 q.2) :: B, _⟩ (some 70) (ov (HDR q.1 0 (List.length x_31) q.2))) (fun q c => bif Nat.beq c 0 then eno q.1 else q.2) (op_appendL (j := 0) lb tu30 tu30 rfl tB36 rfl (Nat.lt_of_lt_of_le Nat.zero_lt_one (Nat.le_of_ble_eq_true rfl)) (Nat.lt_of_lt_of_le Nat.zero_lt_one (Nat.le_of_ble_eq_true rfl))  rfl (.tmp (hl hd 10 63 rfl)) (.tmp (hl hd 16 69 rfl)) hv_x_31) (fun q => by obtain ⟨q0, q1⟩ := q; cases q0 <;> exact Imp.refl)⟩) (fun _ _ => rfl) (fun _ _ => rfl)) ?_
      refine dS 19 (fun γ ρ B hb hd => op_nilCheck lb (.tmp (hl hd 0 53 rfl)) (fun e v h => by subst h; rfl)) ?_
      refine dS 20 (fun γ ρ B hb hd => op_fieldAddr (off := 0) lb tf43_0 (.tmp (hl hd 18 71 rfl))) ?_
      refine DSteps.cons (j := 21) rfl (fun _ => rfl) (.run (fun γ ρ B hb hd => ⟨.none, OpStep.at ⟨ρ, (cvar gb_4 (rP (rW (HL go_6 r_api_Flight x_5 gc_7)) (rP (rI .i64) (rP (rI .i64) r0))) ((), (Ends_2, (Lost_3, ())))) :: B, _⟩ (setO ⟨ρ, (cvar gb_4 (rP (rW (HDR (deo (γ 17 0)) 0 (List.length x_31) (γ 17 1))) (rP (rI .i64) (rP (rI .i64) r0))) ((), (Ends_2, (Lost_3, ())))) :: B, _⟩ _ _) (op_storeW (j := 0) tS30 (.tmp (hl hd 19 72 rfl)) (.tmp (hl hd 17 70 rfl)) rfl ((UpdR.fst (UpdR.self (by rfl))).at (by change 0 = (0 + 0); omega)) rfl)⟩)) ?_
      exact DSteps.nil)
       (by decide +kernel) (fun _ => rfl) rfl (fun _ => rfl) (fun _ => rfl) rfl (by decide) (by decide) (by decide +kernel) (fun _ d h => by cases h)
       (ρ' := fun γ => [])
       (X' := fun γ => [cown go_6 r_api_Flight x_5 (List.length x_5) gc_7, cvar gb_8 r_api_Flight a_1, cown (deo (γ 17 0)) r_api_Flight x_31 0 (γ 17 1), cvar gb_4 (rP (rW (HDR (deo (γ 17 0)) 0 (List.length x_31) (γ 17 1))) (rP (rI .i64) (rP (rI .i64) r0))) ((), (Ends_2, (Lost_3, ())))])
       (fun γ ρ hb hd => .nil) (fun _ => rfl) (fun γ => ?_)
   generalize (deo (γ 7 0)) = go_25
   generalize (γ 7 1) = gc_26
   generalize (deo (γ 10 0)) = go_28
   generalize (γ 10 1) = gc_29
   generalize (deo (γ 17 0)) = go_32
   generalize (γ 17 1) = gc_33
   clear γ
   refine JQ.at ⟨[], [cown go_6 r_api_Flight x_5 (List.length x_5) gc_7, cvar gb_8 r_api_Flight a_1, cown go_32 r_api_Flight x_31 0 gc_33, cvar gb_4 (rP (rW (HDR go_32 0 (List.length x_31) gc_33)) (rP (rI .i64) (rP (rI .i64) r0))) ((), (Ends_2, (Lost_3, ())))], []⟩ ?_
   replace hq1 := Option.some.inj hq1
   subst hq1
   exact JQ.done (js := [3, 2, 0]) (ss := []) (go_32, gc_33) (.inr rfl) (.nil rfl) rfl .nil rfl rfl rfl
 · refine JC.block ?_
   refine JC.pre (Imp.var (j := 0) (q := (rP (rW (HDR go_6 0 (List.length x_5) gc_7)) (rP (rI .i64) (rP (rI .i64) r0)))) (y := ((), (Ends_2, (Lost_3, ())))) rfl Wk.refl) ?_
   refine JC.pre ?_ (JC.loop (γ := Unit) (stf := fun s q => ⟨[(0, ov (PTR gb_4 0)), (3, ov (PTR gb_8 0)), (4, ov (S (rI .i64) s))], [cvar gb_4 (rP (rW (HDR go_6 0 (List.length x_5) gc_7)) (rP (rI .i64) (rP (rI .i64) r0))) ((), (Ends_2, (Lost_3, ()))), cown go_6 r_api_Flight x_5 0 gc_7, cvar gb_8 r_api_Flight a_1], []⟩) (q := ()) hx1 ?_)
   · exact (Imp.norm (js := [0, 0, 0]) rfl (.cons rfl (.cons rfl (.cons rfl .nil))))
   · intro x_9 q x hx hr
     obtain _ := q
     change ref12_Net_lay'2.b1 k x_5 a_1 x_9 = some x at hx
     unfold ref12_Net_lay'2.b1 at hx
     refine JC.at ⟨[(0, ov (PTR gb_4 0)), (3, ov (PTR gb_8 0)), (4, ov (S (rI .i64) x_9))], [cvar gb_4 (rP (rW (HDR go_6 0 (List.length x_5) gc_7)) (rP (rI .i64) (rP (rI .i64) r0))) ((), (Ends_2, (Lost_3, ()))), cown go_6 r_api_Flight x_5 0 gc_7, cvar gb_8 r_api_Flight a_1], []⟩ ?_
     refine JC.seq ?_
     replace hx := bnd_inv hx
     obtain ⟨x_20, hx3, hq3⟩ := hx
     refine JC.seqJ (γ := Unit) (stj := fun q => ⟨[(0, ov (PTR gb_4 0)), (3, ov (PTR gb_8 0)), (4, ov (S (rI .i64) x_9)), (50, ov (S rB x_20))], [cvar gb_4 (rP (rW (HDR go_6 0 (List.length x_5) gc_7)) (rP (rI .i64) (rP (rI .i64) r0))) ((), (Ends_2, (Lost_3, ()))), cown go_6 r_api_Flight x_5 0 gc_7, cvar gb_8 r_api_Flight a_1], []⟩) (fun q => ?_) ?_
     · obtain _ := q
       refine JC.at ⟨[(0, ov (PTR gb_4 0)), (3, ov (PTR gb_8 0)), (4, ov (S (rI .i64) x_9)), (50, ov (S rB x_20))], [cvar gb_4 (rP (rW (HDR go_6 0 (List.length x_5) gc_7)) (rP (rI .i64) (rP (rI .i64) r0))) ((), (Ends_2, (Lost_3, ()))), cown go_6 r_api_Flight x_5 0 gc_7, cvar gb_8 r_api_Flight a_1], []⟩ ?_
       replace hq3 := iteB_inv hq3
       rcases hq3 with ⟨hc10, hq3⟩ | ⟨hc10, hq3⟩
       · refine JC.condT (.tmp rfl) hc10 ?_
         refine JC.skip ?_
         refine JQ.then ?_
         refine JC.block ?_
         refine JC.region ?_
         refine jc (op_move lb (.tmp rfl)) ?_
         replace hq3 := lt1_inv hq3
         obtain ⟨v_21, hv_v_21, hq3⟩ := hq3
         refine jc (op_arI lb (.tmp rfl) .cI (congrArg some hv_v_21)) ?_
         refine jc (op_assign lb (.tmp rfl)) ?_
         refine JL.nil ?_
         refine JQ.outNB ?_
         replace hq3 := Option.some.inj hq3
         first | subst hq3 | clear hq3
         exact JQ.next () rfl (Imp.norm (js := [0, 0, 0]) rfl (.cons rfl (.cons rfl (.cons rfl .nil))))
       · refine JC.condF (.tmp rfl) hc10 ?_
         refine JC.exit ?_
         refine JQ.outX ?_
         replace hq3 := Option.some.inj hq3
         first | subst hq3 | clear hq3
         have ht := hr _ rfl
         have hq2 := congrArg some ht
         clear hr ht
         refine JQ.outX ?_
         refine JQ.here ?_
         replace hq2 := Option.some.inj hq2
         first | subst hq2 | clear hq2
         exact JQ.join () (Imp.norm (js := [0, 0, 0]) rfl (.cons rfl (.cons rfl (.cons rfl .nil))))
     · replace hx3 := lt1_inv hx3
       obtain ⟨v_10, hv_v_10, hx3⟩ := hx3
       replace hx3 := iteB_inv hx3
       rcases hx3 with ⟨hc5, hx3⟩ | ⟨hc5, hx3⟩
       · replace hx3 := bnd_inv hx3
         obtain ⟨i_11, hv_i_11, hx3⟩ := hx3
         replace hx3 := bnd_inv hx3
         obtain ⟨u_12, hv_u_12, hx3⟩ := hx3
         replace hx3 := lt1_inv hx3
         obtain ⟨v_13, hv_v_13, hx3⟩ := hx3
         replace hx3 := iteB_inv hx3
         rcases hx3 with ⟨hc7, hx3⟩ | ⟨hc7, hx3⟩
         · refine JC.anyE (kl := []) (kk := 0) (base := [(0, ov (PTR gb_4 0)), (3, ov (PTR gb_8 0)), (4, ov (S (rI .i64) x_9))])
               (fs := fun γ => [⟨some 5, ov (S (rI .i64) x_9)⟩, ⟨some 6, ov (PTR gb_4 0)⟩, ⟨some 7, ov (PTR gb_4 0)⟩, ⟨some 8, ov (PTR gb_4 (0 + 0))⟩, ⟨some 9, ov (HDR go_6 0 (List.length x_5) gc_7)⟩, ⟨some 10, ov (S (rI .i64) (List.length x_5 : Int))⟩, ⟨some 11, ov (S rB v_10)⟩, ⟨some 12, ov (S rB v_10)⟩, ⟨some 13, ov (PTR gb_4 0)⟩, ⟨some 14, ov (PTR gb_4 0)⟩, ⟨some 15, ov (PTR gb_4 (0 + 0))⟩, ⟨some 16, ov (HDR go_6 0 (List.length x_5) gc_7)⟩, ⟨some 17, ov (S (rI .i64) x_9)⟩, ⟨some 18, ov (EPT go_6 (i_11 * 3))⟩, ⟨some 19, ov (EPT go_6 ((i_11 * 3) + 0))⟩, ⟨some 20, ov (S (rI .i64) u_12.From)⟩, ⟨some 21, ov (PTR gb_8 (0 + 0))⟩, ⟨some 22, ov (S (rI .i64) a_1.From)⟩, ⟨some 23, ov (S rB v_13)⟩, ⟨some 24, ov (S rB v_13)⟩, ⟨some 25, .one .und⟩, ⟨some 26, .one .und⟩, ⟨some 27, .one .und⟩, ⟨some 28, .one .und⟩, ⟨some 29, .one .und⟩, ⟨some 30, .one .und⟩, ⟨some 31, .one .und⟩, ⟨some 32, .one .und⟩, ⟨some 33, .one .und⟩, ⟨some 34, .one .und⟩, ⟨some 35, .one .und⟩, ⟨some 36, .one .und⟩, ⟨some 37, .one .und⟩, ⟨some 38, .one .und⟩, ⟨some 39, .one .und⟩, ⟨some 40, .one .und⟩, ⟨some 41, .one .und⟩, ⟨some 42, .one .und⟩, ⟨some 43, .one .und⟩, ⟨some 44, .one .und⟩, ⟨some 45, .one .und⟩, ⟨some 46, .one .und⟩, ⟨some 47, .one .und⟩, ⟨some 48, .one .und⟩, ⟨some 49, ov (S rB true)⟩, ⟨some 50, ov (S rB true)⟩])
               (rs := fun γ => [⟨cvar gb_4 (rP (rW (HDR go_6 0 (List.length x_5) gc_7)) (rP (rI .i64) (rP (rI .i64) r0))) ((), (Ends_2, (Lost_3, ()))), none, none, [4, 11]⟩, ⟨cown go_6 r_api_Flight x_5 0 gc_7, none, none, [13, 15]⟩, ⟨cvar gb_8 r_api_Flight a_1, none, none, [17]⟩])
               (ds := [5, 6, 7, 8, 9, 10, 11, 12, 13, 14, 15, 16, 17, 18, 19, 20, 21, 22, 23, 24, 25, 26, 27, 28, 29, 30, 31, 32, 33, 34, 35, 36, 37, 38, 39, 40, 41, 42, 43, 44, 45, 46, 47, 48, 49, 50]) (bs := [0, 3, 4]) (afts := [[], [], [], [], [], [], [], [], [], [], [], [], [], [], [], [], [], [], [], [], [], [], [], [], [], [], [], [], [], [], [], [], [], [], [], [], [], [], [], [], [], [], [], [], [], []]) (js := [0, 0, 0]) mixed (.cons rfl (.cons rfl (.cons rfl .nil))) (fun _ => rfl)
               (by
      refine dS 1 (fun γ ρ B hb hd => op_move lb (.tmp (hb 4 _ rfl))) ?_
      refine dS 2 (fun γ ρ B hb hd => op_move lb (.tmp (hb 0 _ rfl))) ?_
      refine dS 3 (fun γ ρ B hb hd => op_nilCheck lb (.tmp (hl hd 1 6 rfl)) (fun e v h => by subst h; rfl)) ?_
      refine dS 4 (fun γ ρ B hb hd => op_fieldAddr (off := 0) lb tf43_0 (.tmp (hl hd 2 7 rfl))) ?_
      refine DSteps.cons (j := 5) rfl (fun _ => rfl) (.run (fun γ ρ B hb hd => ⟨.none, OpStep.at ⟨ρ, (cvar gb_4 (rP (rW (HDR go_6 0 (List.length x_5) gc_7)) (rP (rI .i64) (rP (rI .i64) r0))) ((), (Ends_2, (Lost_3, ())))) :: B, _⟩ (setO ⟨ρ, (cvar gb_4 (rP (rW (HDR go_6 0 (List.length x_5) gc_7)) (rP (rI .i64) (rP (rI .i64) r0))) ((), (Ends_2, (Lost_3, ())))) :: B, _⟩ _ _) (op_loadW (j := 0) lb tS30 (.tmp (hl hd 3 8 rfl)) rfl (Comp.trans (Comp.self (rP (rW (HDR go_6 0 (List.length x_5) gc_7)) (rP (rI .i64) (rP (rI .i64) r0))) ((), (Ends_2, (Lost_3, ())))) (Comp.at' (Comp.inF (Comp.self (rW (HDR go_6 0 (List.length x_5) gc_7)) ()) (Nat.le_of_ble_eq_true rfl)) (by rfl : _ = 0)) (Nat.le_of_ble_eq_true rfl)))⟩)) ?_
      refine dS 6 (fun γ ρ B hb hd => op_lenH lb tu30 (.tmp (hl hd 4 9 rfl))) ?_
      refine dS 7 (fun γ ρ B hb hd => op_cmpI lb (.tmp (hl hd 0 5 rfl)) (.tmp (hl hd 5 10 rfl)) (congrArg some hv_v_10)) ?_
      refine dS 8 (fun γ ρ B hb hd => op_move lb (.tmp (hl hd 6 11 rfl))) ?_
      refine DSteps.cons (j := 9) rfl (fun _ => rfl) (.run (fun γ ρ B hb hd => ⟨.yes rfl (ltB rfl) (hl hd 7 12 rfl) hc5, OpStep.at ⟨ρ, B, _⟩ (setO ⟨ρ, B, _⟩ _ _) (op_move lb (.tmp (hb 0 _ rfl)))⟩)) ?_
      refine DSteps.cons (j := 10) rfl (fun _ => rfl) (.run (fun γ ρ B hb hd => ⟨.yes rfl (ltB rfl) (hl hd 7 12 rfl) hc5, OpStep.at ⟨ρ, B, _⟩ (setO ⟨ρ, B, _⟩ _ _) (op_nilCheck lb (.tmp (hl hd 8 13 rfl)) (fun e v h => by subst h; rfl))⟩)) ?_
      refine DSteps.cons (j := 11) rfl (fun _ => rfl) (.run (fun γ ρ B hb hd => ⟨.yes rfl (ltB rfl) (hl hd 7 12 rfl) hc5, OpStep.at ⟨ρ, B, _⟩ (setO ⟨ρ, B, _⟩ _ _) (op_fieldAddr (off := 0) lb tf43_0 (.tmp (hl hd 9 14 rfl)))⟩)) ?_
      refine DSteps.cons (j := 12) rfl (fun _ => rfl) (.run (fun γ ρ B hb hd => ⟨.yes rfl (ltB rfl) (hl hd 7 12 rfl) hc5, OpStep.at ⟨ρ, (cvar gb_4 (rP (rW (HDR go_6 0 (List.length x_5) gc_7)) (rP (rI .i64) (rP (rI .i64) r0))) ((), (Ends_2, (Lost_3, ())))) :: B, _⟩ (setO ⟨ρ, (cvar gb_4 (rP (rW (HDR go_6 0 (List.length x_5) gc_7)) (rP (rI .i64) (rP (rI .i64) r0))) ((), (Ends_2, (Lost_3, ())))) :: B, _⟩ _ _) (op_loadW (j := 0) lb tS30 (.tmp (hl hd 10 15 rfl)) rfl (Comp.trans (Comp.self (rP (rW (HDR go_6 0 (List.length x_5) gc_7)) (rP (rI .i64) (rP (rI .i64) r0))) ((), (Ends_2, (Lost_3, ())))) (Comp.at' (Comp.inF (Comp.self (rW (HDR go_6 0 (List.length x_5) gc_7)) ()) (Nat.le_of_ble_eq_true rfl)) (by rfl : _ = 0)) (Nat.le_of_ble_eq_true rfl)))⟩)) ?_
      refine DSteps.cons (j := 13) rfl (fun _ => rfl) (.run (fun γ ρ B hb hd => ⟨.yes rfl (ltB rfl) (hl hd 7 12 rfl) hc5, OpStep.at ⟨ρ, B, _⟩ (setO ⟨ρ, B, _⟩ _ _) (op_move lb (.tmp (hb 4 _ rfl)))⟩)) ?_
      refine DSteps.cons (j := 14) rfl (fun _ => rfl) (.run (fun γ ρ B hb hd => ⟨.yes rfl (ltB rfl) (hl hd 7 12 rfl) hc5, OpStep.at ⟨ρ, (cown go_6 r_api_Flight x_5 0 gc_7) :: B, _⟩ (setO ⟨ρ, (cown go_6 r_api_Flight x_5 0 gc_7) :: B, _⟩ _ _) (op_indexAddrOF (r := r_api_Flight) (j := 0) lb tu30 tz36 rfl (.tmp (hl hd 11 16 rfl)) (.tmp (hl hd 12 17 rfl)) hv_i_11)⟩)) ?_
      refine DSteps.cons (j := 15) rfl (fun _ => rfl) (.run (fun γ ρ B hb hd => ⟨.yes rfl (ltB rfl) (hl hd 7 12 rfl) hc5, OpStep.at ⟨ρ, B, _⟩ (setO ⟨ρ, B, _⟩ _ _) (op_fieldAddrE (off := 0) lb tf36_0 (.tmp (hl hd 13 18 rfl)))⟩)) ?_
      refine DSteps.cons (j := 16) rfl (fun _ => rfl) (.run (fun γ ρ B hb hd => ⟨.yes rfl (ltB rfl) (hl hd 7 12 rfl) hc5, OpStep.at ⟨ρ, (cown go_6 r_api_Flight x_5 0 gc_7) :: B, _⟩ (setO ⟨ρ, (cown go_6 r_api_Flight x_5 0 gc_7) :: B, _⟩ _ _) (op_loadOS (r := r_api_Flight) (i := i_11) (off := 0) (j := 0) lb tS3 rfl rfl (.tmp (hl hd 14 19 rfl)) hv_u_12 (Comp.at' (Comp.trans (Comp.self r_api_Flight u_12) (comp_api_Flight_From u_12) (Nat.le_of_ble_eq_true rfl)) rfl) (by decide))⟩)) ?_
      refine DSteps.cons (j := 17) rfl (fun _ => rfl) (.run (fun γ ρ B hb hd => ⟨.yes rfl (ltB rfl) (hl hd 7 12 rfl) hc5, OpStep.at ⟨ρ, B, _⟩ (setO ⟨ρ, B, _⟩ _ _) (op_fieldAddr (off := 0) lb tf36_0 (.tmp (hb 3 _ rfl)))⟩)) ?_
      refine DSteps.cons (j := 18) rfl (fun _ => rfl) (.run (fun γ ρ B hb hd => ⟨.yes rfl (ltB rfl) (hl hd 7 12 rfl) hc5, OpStep.at ⟨ρ, (cvar gb_8 r_api_Flight a_1) :: B, _⟩ (setO ⟨ρ, (cvar gb_8 r_api_Flight a_1) :: B, _⟩ _ _) (op_loadS (j := 0) lb tS3 (.tmp (hl hd 16 21 rfl)) rfl (Comp.trans (Comp.self r_api_Flight a_1) (comp_api_Flight_From a_1) (Nat.le_of_ble_eq_true rfl)) rfl rfl)⟩)) ?_
      refine DSteps.cons (j := 19) rfl (fun _ => rfl) (.run (fun γ ρ B hb hd => ⟨.yes rfl (ltB rfl) (hl hd 7 12 rfl) hc5, OpStep.at ⟨ρ, B, _⟩ (setO ⟨ρ, B, _⟩ _ _) (op_cmpI lb (.tmp (hl hd 15 20 rfl)) (.tmp (hl hd 17 22 rfl)) (congrArg some hv_v_13))⟩)) ?_
      refine DSteps.cons (j := 20) rfl (fun _ => rfl) (.run (fun γ ρ B hb hd => ⟨.yes rfl (ltB rfl) (hl hd 7 12 rfl) hc5, OpStep.at ⟨ρ, B, _⟩ (setO ⟨ρ, B, _⟩ _ _) (op_move lb (.tmp (hl hd 18 23 rfl)))⟩)) ?_
      refine DSteps.cons (j := 21) rfl (fun _ => rfl) (.skip (fun γ ρ B hb hd => ⟨.no rfl (ltB rfl) (hl hd 19 24 rfl) hc7, rfl, rfl, rfl, fun d h => by cases h; exact ltB rfl⟩)) ?_
      refine DSteps.cons (j := 22) rfl (fun _ => rfl) (.skip (fun γ ρ B hb hd => ⟨.no rfl (ltB rfl) (hl hd 19 24 rfl) hc7, rfl, rfl, rfl, fun d h => by cases h; exact ltB rfl⟩)) ?_
      refine DSteps.cons (j := 23) rfl (fun _ => rfl) (.skip (fun γ ρ B hb hd => ⟨.no rfl (ltB rfl) (hl hd 19 24 rfl) hc7, rfl, rfl, rfl, fun d h => by cases h; exact ltB rfl⟩)) ?_
      refine DSteps.cons (j := 24) rfl (fun _ => rfl) (.skip (fun γ ρ B hb hd => ⟨.no rfl (ltB rfl) (hl hd 19 24 rfl) hc7, rfl, rfl, rfl, fun d h => by cases h; exact ltB rfl⟩)) ?_
      refine DSteps.cons (j := 25) rfl (fun _ => rfl) (.skip (fun γ ρ B hb hd => ⟨.no rfl (ltB rfl) (hl hd 19 24 rfl) hc7, rfl, rfl, rfl, fun d h => by cases h; exact ltB rfl⟩)) ?_
      refine DSteps.cons (j := 26) rfl (fun _ => rfl) (.skip (fun γ ρ B hb hd => ⟨.no rfl (ltB rfl) (hl hd 19 24 rfl) hc7, rfl, rfl, rfl, fun d h => by cases h; exact ltB rfl⟩)) ?_
      refine DSteps.cons (j := 27) rfl (fun _ => rfl) (.skip (fun γ ρ B hb hd => ⟨.no rfl (ltB rfl) (hl hd 19 24 rfl) hc7, rfl, rfl, rfl, fun d h => by cases h; exact ltB rfl⟩)) ?_
      refine DSteps.cons (j := 28) rfl (fun _ => rfl) (.skip (fun γ ρ B hb hd => ⟨.no rfl (ltB rfl) (hl hd 19 24 rfl) hc7, rfl, rfl, rfl, fun d h => by cases h; exact ltB rfl⟩)) ?_
      refine DSteps.cons (j := 29) rfl (fun _ => rfl) (.skip (fun γ ρ B hb hd => ⟨.no rfl (ltB rfl) (hl hd 19 24 rfl) hc7, rfl, rfl, rfl, fun d h => by cases h; exact ltB rfl⟩)) ?_
      refine DSteps.cons (j := 30) rfl (fun _ => rfl) (.skip (fun γ ρ B hb hd => ⟨.no rfl (ltB rfl) (hl hd 19 24 rfl) hc7, rfl, rfl, rfl, fun d h => by cases h; exact ltB rfl⟩)) ?_
      refine DSteps.cons (j := 31) rfl (fun _ => rfl) (.skip (fun γ ρ B hb hd => ⟨.no rfl (ltB rfl) (hl hd 19 24 rfl) hc7, rfl, rfl, rfl, fun d h => by cases h; exact ltB rfl⟩)) ?_
      refine DSteps.cons (j := 32) rfl (fun _ => rfl) (.skip (fun γ ρ B hb hd => ⟨.no rfl (ltB rfl) (hl hd 19 24 rfl) hc7, rfl, rfl, rfl, fun d h => by cases h; exact ltB rfl⟩)) ?_
      refine DSteps.cons (j := 33) rfl (fun _ => rfl) (.skip (fun γ ρ B hb hd => ⟨.und rfl (ltB rfl) (hl hd 31 36 rfl), rfl, rfl, rfl, fun d h => by cases h; exact ltB rfl⟩)) ?_
      refine DSteps.cons (j := 34) rfl (fun _ => rfl) (.skip (fun γ ρ B hb hd => ⟨.und rfl (ltB rfl) (hl hd 31 36 rfl), rfl, rfl, rfl, fun d h => by cases h; exact ltB rfl⟩)) ?_
      refine DSteps.cons (j := 35) rfl (fun _ => rfl) (.skip (fun γ ρ B hb hd => ⟨.und rfl (ltB rfl) (hl hd 31 36 rfl), rfl, rfl, rfl, fun d h => by cases h; exact ltB rfl⟩)) ?_
      refine DSteps.cons (j := 36) rfl (fun _ => rfl) (.skip (fun γ ρ B hb hd => ⟨.und rfl (ltB rfl) (hl hd 31 36 rfl), rfl, rfl, rfl, fun d h => by cases h; exact ltB rfl⟩)) ?_
      refine DSteps.cons (j := 37) rfl (fun _ => rfl) (.skip (fun γ ρ B hb hd => ⟨.und rfl (ltB rfl) (hl hd 31 36 rfl), rfl, rfl, rfl, fun d h => by cases h; exact ltB rfl⟩)) ?_
      refine DSteps.cons (j := 38) rfl (fun _ => rfl) (.skip (fun γ ρ B hb hd => ⟨.und rfl (ltB rfl) (hl hd 31 36 rfl), rfl, rfl, rfl, fun d h => by cases h; exact ltB rfl⟩)) ?_
      refine DSteps.cons (j := 39) rfl (fun _ => rfl) (.skip (fun γ ρ B hb hd => ⟨.und rfl (ltB rfl) (hl hd 31 36 rfl), rfl, rfl, rfl, fun d h => by cases h; exact ltB rfl⟩)) ?_
      refine DSteps.cons (j := 40) rfl (fun _ => rfl) (.skip (fun γ ρ B hb hd => ⟨.und rfl (ltB rfl) (hl hd 31 36 rfl), rfl, rfl, rfl, fun d h => by cases h; exact ltB rfl⟩)) ?_
      refine DSteps.cons (j := 41) rfl (fun _ => rfl) (.skip (fun γ ρ B hb hd => ⟨.und rfl (ltB rfl) (hl hd 31 36 rfl), rfl, rfl, rfl, fun d h => by cases h; exact ltB rfl⟩)) ?_
      refine DSteps.cons (j := 42) rfl (fun _ => rfl) (.skip (fun γ ρ B hb hd => ⟨.und rfl (ltB rfl) (hl hd 31 36 rfl), rfl, rfl, rfl, fun d h => by cases h; exact ltB rfl⟩)) ?_
      refine DSteps.cons (j := 43) rfl (fun _ => rfl) (.skip (fun γ ρ B hb hd => ⟨.und rfl (ltB rfl) (hl hd 31 36 rfl), rfl, rfl, rfl, fun d h => by cases h; exact ltB rfl⟩)) ?_
      refine DSteps.cons (j := 44) rfl (fun _ => rfl) (.skip (fun γ ρ B hb hd => ⟨.no rfl (ltB rfl) (hl hd 19 24 rfl) hc7, rfl, rfl, rfl, fun d h => by cases h; exact ltB rfl⟩)) ?_
      refine DSteps.cons (j := 45) rfl (fun _ => rfl) (.run (fun γ ρ B hb hd => ⟨.yes rfl (ltB rfl) (hl hd 7 12 rfl) hc5, OpStep.at ⟨ρ, B, _⟩ (setO ⟨ρ, B, _⟩ _ _) (op_pickT lb (.tmp (hl hd 19 24 rfl)) hc7 .cB)⟩)) ?_
      refine dS 46 (fun γ ρ B hb hd => op_pickT lb (.tmp (hl hd 7 12 rfl)) hc5 (.tmp (hl hd 44 49 rfl))) ?_
      exact DSteps.nil)
               (by decide +kernel) (fun _ => rfl) rfl (fun _ => rfl) (fun _ => rfl) rfl (by decide) (by decide) (by decide +kernel) (fun _ d h => by cases h)
               (ρ' := fun γ => [(0, ov (PTR gb_4 0)), (3, ov (PTR gb_8 0)), (4, ov (S (rI .i64) x_9)), (50, ov (S rB true))])
               (X' := fun γ => [cvar gb_4 (rP (rW (HDR go_6 0 (List.length x_5) gc_7)) (rP (rI .i64) (rP (rI .i64) r0))) ((), (Ends_2, (Lost_3, ()))), cown go_6 r_api_Flight x_5 0 gc_7, cvar gb_8 r_api_Flight a_1])
               (fun γ ρ hb hd => (.cons (hb 0 _ rfl (by decide)) (.cons (hb 3 _ rfl (by decide)) (.cons (hb 4 _ rfl (by decide)) (.cons (hdq hd 45 50 rfl) .nil))))) (fun _ => rfl) (fun γ => ?_)
           refine JQ.at ⟨[(0, ov (PTR gb_4 0)), (3, ov (PTR gb_8 0)), (4, ov (S (rI .i64) x_9)), (50, ov (S rB true))], [cvar gb_4 (rP (rW (HDR go_6 0 (List.length x_5) gc_7)) (rP (rI .i64) (rP (rI .i64) r0))) ((), (Ends_2, (Lost_3, ()))), cown go_6 r_api_Flight x_5 0 gc_7, cvar gb_8 r_api_Flight a_1], []⟩ ?_
           replace hx3 := Option.some.inj hx3
           first | subst hx3 | clear hx3
           exact JQ.join () (Imp.norm (js := [0, 0, 0]) rfl (.cons rfl (.cons rfl (.cons rfl (.cons rfl .nil)))))
         · replace hx3 := bnd_inv hx3
           obtain ⟨i_14, hv_i_14, hx3⟩ := hx3
           replace hx3 := bnd_inv hx3
           obtain ⟨u_15, hv_u_15, hx3⟩ := hx3
           replace hx3 := lt1_inv hx3
           obtain ⟨v_16, hv_v_16, hx3⟩ := hx3
           replace hx3 := iteB_inv hx3
           rcases hx3 with ⟨hc9, hx3⟩ | ⟨hc9, hx3⟩
           · replace hx3 := bnd_inv hx3
             obtain ⟨i_17, hv_i_17, hx3⟩ := hx3
             replace hx3 := bnd_inv hx3
             obtain ⟨u_18, hv_u_18, hx3⟩ := hx3
             replace hx3 := lt1_inv hx3
             obtain ⟨v_19, hv_v_19, hx3⟩ := hx3
             refine JC.anyE (kl := []) (kk := 0) (base := [(0, ov (PTR gb_4 0)), (3, ov (PTR gb_8 0)), (4, ov (S (rI .i64) x_9))])
                 (fs := fun γ => [⟨some 5, ov (S (rI .i64) x_9)⟩, ⟨some 6, ov (PTR gb_4 0)⟩, ⟨some 7, ov (PTR gb_4 0)⟩, ⟨some 8, ov (PTR gb_4 (0 + 0))⟩, ⟨some 9, ov (HDR go_6 0 (List.length x_5) gc_7)⟩, ⟨some 10, ov (S (rI .i64) (List.length x_5 : Int))⟩, ⟨some 11, ov (S rB v_10)⟩, ⟨some 12, ov (S rB v_10)⟩, ⟨some 13, ov (PTR gb_4 0)⟩, ⟨some 14, ov (PTR gb_4 0)⟩, ⟨some 15, ov (PTR gb_4 (0 + 0))⟩, ⟨some 16, ov (HDR go_6 0 (List.length x_5) gc_7)⟩, ⟨some 17, ov (S (rI .i64) x_9)⟩, ⟨some 18, ov (EPT go_6 (i_11 * 3))⟩, ⟨some 19, ov (EPT go_6 ((i_11 * 3) + 0))⟩, ⟨some 20, ov (S (rI .i64) u_12.From)⟩, ⟨some 21, ov (PTR gb_8 (0 + 0))⟩, ⟨some 22, ov (S (rI .i64) a_1.From)⟩, ⟨some 23, ov (S rB v_13)⟩, ⟨some 24, ov (S rB v_13)⟩, ⟨some 25, ov (PTR gb_4 0)⟩, ⟨some 26, ov (PTR gb_4 0)⟩, ⟨some 27, ov (PTR gb_4 (0 + 0))⟩, ⟨some 28, ov (HDR go_6 0 (List.length x_5) gc_7)⟩, ⟨some 29, ov (S (rI .i64) x_9)⟩, ⟨some 30, ov (EPT go_6 (i_14 * 3))⟩, ⟨some 31, ov (EPT go_6 ((i_14 * 3) + 0))⟩, ⟨some 32, ov (S (rI .i64) u_15.From)⟩, ⟨some 33, ov (PTR gb_8 (0 + 0))⟩, ⟨some 34, ov (S (rI .i64) a_1.From)⟩, ⟨some 35, ov (S rB v_16)⟩, ⟨some 36, ov (S rB v_16)⟩, ⟨some 37, ov (PTR gb_4 0)⟩, ⟨some 38, ov (PTR gb_4 0)⟩, ⟨some 39, ov (PTR gb_4 (0 + 0))⟩, ⟨some 40, ov (HDR go_6 0 (List.length x_5) gc_7)⟩, ⟨some 41, ov (S (rI .i64) x_9)⟩, ⟨some 42, ov (EPT go_6 (i_17 * 3))⟩, ⟨some 43, ov (EPT go_6 ((i_17 * 3) + 1))⟩, ⟨some 44, ov (S (rI .i64) u_18.To)⟩, ⟨some 45, ov (PTR gb_8 (0 + 1))⟩, ⟨some 46, ov (S (rI .i64) a_1.To)⟩, ⟨some 47, ov (S rB v_19)⟩, ⟨some 48, ov (S rB v_19)⟩, ⟨some 49, ov (S rB v_19)⟩, ⟨some 50, ov (S rB v_19)⟩])
                 (rs := fun γ => [⟨cvar gb_4 (rP (rW (HDR go_6 0 (List.length x_5) gc_7)) (rP (rI .i64) (rP (rI .i64) r0))) ((), (Ends_2, (Lost_3, ()))), none, none, [4, 11, 23, 35]⟩, ⟨cown go_6 r_api_Flight x_5 0 gc_7, none, none, [13, 15, 25, 27, 37, 39]⟩, ⟨cvar gb_8 r_api_Flight a_1, none, none, [17, 29, 41]⟩])
                 (ds := [5, 6, 7, 8, 9, 10, 11, 12, 13, 14, 15, 16, 17, 18, 19, 20, 21, 22, 23, 24, 25, 26, 27, 28, 29, 30, 31, 32, 33, 34, 35, 36, 37, 38, 39, 40, 41, 42, 43, 44, 45, 46, 47, 48, 49, 50]) (bs := [0, 3, 4]) (afts := [[], [], [], [], [], [], [], [], [], [], [], [], [], [], [], [], [], [], [], [], [], [], [], [], [], [], [], [], [], [], [], [], [], [], [], [], [], [], [], [], [], [], [], [], [], []]) (js := [0, 0, 0]) mixed (.cons rfl (.cons rfl (.cons rfl .nil))) (fun _ => rfl)
                 (by
      refine dS 1 (fun γ ρ B hb hd => op_move lb (.tmp (hb 4 _ rfl))) ?_
      refine dS 2 (fun γ ρ B hb hd => op_move lb (.tmp (hb 0 _ rfl))) ?_
      refine dS 3 (fun γ ρ B hb hd => op_nilCheck lb (.tmp (hl hd 1 6 rfl)) (fun e v h => by subst h; rfl)) ?_
      refine dS 4 (fun γ ρ B hb hd => op_fieldAddr (off := 0) lb tf43_0 (.tmp (hl hd 2 7 rfl))) ?_
      refine DSteps.cons (j := 5) rfl (fun _ => rfl) (.run (fun γ ρ B hb hd => ⟨.none, OpStep.at ⟨ρ, (cvar gb_4 (rP (rW (HDR go_6 0 (List.length x_5) gc_7)) (rP (rI .i64) (rP (rI .i64) r0))) ((), (Ends_2, (Lost_3, ())))) :: B, _⟩ (setO ⟨ρ, (cvar gb_4 (rP (rW (HDR go_6 0 (List.length x_5) gc_7)) (rP (rI .i64) (rP (rI .i64) r0))) ((), (Ends_2, (Lost_3, ())))) :: B, _⟩ _ _) (op_loadW (j := 0) lb tS30 (.tmp (hl hd 3 8 rfl)) rfl (Comp.trans (Comp.self (rP (rW (HDR go_6 0 (List.length x_5) gc_7)) (rP (rI .i64) (rP (rI .i64) r0))) ((), (Ends_2, (Lost_3, ())))) (Comp.at' (Comp.inF (Comp.self (rW (HDR go_6 0 (List.length x_5) gc_7)) ()) (Nat.le_of_ble_eq_true rfl)) (by rfl : _ = 0)) (Nat.le_of_ble_eq_true rfl)))⟩)) ?_
      refine dS 6 (fun γ ρ B hb hd => op_lenH lb tu30 (.tmp (hl hd 4 9 rfl))) ?_
      refine dS 7 (fun γ ρ B hb hd => op_cmpI lb (.tmp (hl hd 0 5 rfl)) (.tmp (hl hd 5 10 rfl)) (congrArg some hv_v_10)) ?_
      refine dS 8 (fun γ ρ B hb hd => op_move lb (.tmp (hl hd 6 11 rfl))) ?_
      refine DSteps.cons (j := 9) rfl (fun _ => rfl) (.run (fun γ ρ B hb hd => ⟨.yes rfl (ltB rfl) (hl hd 7 12 rfl) hc5, OpStep.at ⟨ρ, B, _⟩ (setO ⟨ρ, B, _⟩ _ _) (op_move lb (.tmp (hb 0 _ rfl)))⟩)) ?_
      refine DSteps.cons (j := 10) rfl (fun _ => rfl) (.run (fun γ ρ B hb hd => ⟨.yes rfl (ltB rfl) (hl hd 7 12 rfl) hc5, OpStep.at ⟨ρ, B, _⟩ (setO ⟨ρ, B, _⟩ _ _) (op_nilCheck lb (.tmp (hl hd 8 13 rfl)) (fun e v h => by subst h; rfl))⟩)) ?_
      refine DSteps.cons (j := 11) rfl (fun _ => rfl) (.run (fun γ ρ B hb hd => ⟨.yes rfl (ltB rfl) (hl hd 7 12 rfl) hc5, OpStep.at ⟨ρ, B, _⟩ (setO ⟨ρ, B, _⟩ _ _) (op_fieldAddr (off := 0) lb tf43_0 (.tmp (hl hd 9 14 rfl)))⟩)) ?_
      refine DSteps.cons (j := 12) rfl (fun _ => rfl) (.run (fun γ ρ B hb hd => ⟨.yes rfl (ltB rfl) (hl hd 7 12 rfl) hc5, OpStep.at ⟨ρ, (cvar gb_4 (rP (rW (HDR go_6 0 (List.length x_5) gc_7)) (rP (rI .i64) (rP (rI .i64) r0))) ((), (Ends_2, (Lost_3, ())))) :: B, _⟩ (setO ⟨ρ, (cvar gb_4 (rP (rW (HDR go_6 0 (List.length x_5) gc_7)) (rP (rI .i64) (rP (rI .i64) r0))) ((), (Ends_2, (Lost_3, ())))) :: B, _⟩ _ _) (op_loadW (j := 0) lb tS30 (.tmp (hl hd 10 15 rfl)) rfl (Comp.trans (Comp.self (rP (rW (HDR go_6 0 (List.length x_5) gc_7)) (rP (rI .i64) (rP (rI .i64) r0))) ((), (Ends_2, (Lost_3, ())))) (Comp.at' (Comp.inF (Comp.self (rW (HDR go_6 0 (List.length x_5) gc_7)) ()) (Nat.le_of_ble_eq_true rfl)) (by rfl : _ = 0)) (Nat.le_of_ble_eq_true rfl)))⟩)) ?_
      refine DSteps.cons (j := 13) rfl (fun _ => rfl) (.run (fun γ ρ B hb hd => ⟨.yes rfl (ltB rfl) (hl hd 7 12 rfl) hc5, OpStep.at ⟨ρ, B, _⟩ (setO ⟨ρ, B, _⟩ _ _) (op_move lb (.tmp (hb 4 _ rfl)))⟩)) ?_
      refine DSteps.cons (j := 14) rfl (fun _ => rfl) (.run (fun γ ρ B hb hd => ⟨.yes rfl (ltB rfl) (hl hd 7 12 rfl) hc5, OpStep.at ⟨ρ, (cown go_6 r_api_Flight x_5 0 gc_7) :: B, _⟩ (setO ⟨ρ, (cown go_6 r_api_Flight x_5 0 gc_7) :: B, _⟩ _ _) (op_indexAddrOF (r := r_api_Flight) (j := 0) lb tu30 tz36 rfl (.tmp (hl hd 11 16 rfl)) (.tmp (hl hd 12 17 rfl)) hv_i_11)⟩)) ?_
      refine DSteps.cons (j := 15) rfl (fun _ => rfl) (.run (fun γ ρ B hb hd => ⟨.yes rfl (ltB rfl) (hl hd 7 12 rfl) hc5, OpStep.at ⟨ρ, B, _⟩ (setO ⟨ρ, B, _⟩ _ _) (op_fieldAddrE (off := 0) lb tf36_0 (.tmp (hl hd 13 18 rfl)))⟩)) ?_
      refine DSteps.cons (j := 16) rfl (fun _ => rfl) (.run (fun γ ρ B hb hd => ⟨.yes rfl (ltB rfl) (hl hd 7 12 rfl) hc5, OpStep.at ⟨ρ, (cown go_6 r_api_Flight x_5 0 gc_7) :: B, _⟩ (setO ⟨ρ, (cown go_6 r_api_Flight x_5 0 gc_7) :: B, _⟩ _ _) (op_loadOS (r := r_api_Flight) (i := i_11) (off := 0) (j := 0) lb tS3 rfl rfl (.tmp (hl hd 14 19 rfl)) hv_u_12 (Comp.at' (Comp.trans (Comp.self r_api_Flight u_12) (comp_api_Flight_From u_12) (Nat.le_of_ble_eq_true rfl)) rfl) (by decide))⟩)) ?_
      refine DSteps.cons (j := 17) rfl (fun _ => rfl) (.run (fun γ ρ B hb hd => ⟨.yes rfl (ltB rfl) (hl hd 7 12 rfl) hc5, OpStep.at ⟨ρ, B, _⟩ (setO ⟨ρ, B, _⟩ _ _) (op_fieldAddr (off := 0) lb tf36_0 (.tmp (hb 3 _ rfl)))⟩)) ?_
      refine DSteps.cons (j := 18) rfl (fun _ => rfl) (.run (fun γ ρ B hb hd => ⟨.yes rfl (ltB rfl) (hl hd 7 12 rfl) hc5, OpStep.at ⟨ρ, (cvar gb_8 r_api_Flight a_1) :: B, _⟩ (setO ⟨ρ, (cvar gb_8 r_api_Flight a_1) :: B, _⟩ _ _) (op_loadS (j := 0) lb tS3 (.tmp (hl hd 16 21 rfl)) rfl (Comp.trans (Comp.self r_api_Flight a_1) (comp_api_Flight_From a_1) (Nat.le_of_ble_eq_true rfl)) rfl rfl)⟩)) ?_
      refine DSteps.cons (j := 19) rfl (fun _ => rfl) (.run (fun γ ρ B hb hd => ⟨.yes rfl (ltB rfl) (hl hd 7 12 rfl) hc5, OpStep.at ⟨ρ, B, _⟩ (setO ⟨ρ, B, _⟩ _ _) (op_cmpI lb (.tmp (hl hd 15 20 rfl)) (.tmp (hl hd 17 22 rfl)) (congrArg some hv_v_13))⟩)) ?_
      refine DSteps.cons (j := 20) rfl (fun _ => rfl) (.run (fun γ ρ B hb hd => ⟨.yes rfl (ltB rfl) (hl hd 7 12 rfl) hc5, OpStep.at ⟨ρ, B, _⟩ (setO ⟨ρ, B, _⟩ _ _) (op_move lb (.tmp (hl hd 18 23 rfl)))⟩)) ?_
      refine DSteps.cons (j := 21) rfl (fun _ => rfl) (.run (fun γ ρ B hb hd => ⟨.yes rfl (ltB rfl) (hl hd 19 24 rfl) hc7, OpStep.at ⟨ρ, B, _⟩ (setO ⟨ρ, B, _⟩ _ _) (op_move lb (.tmp (hb 0 _ rfl)))⟩)) ?_
      refine DSteps.cons (j := 22) rfl (fun _ => rfl) (.run (fun γ ρ B hb hd => ⟨.yes rfl (ltB rfl) (hl hd 19 24 rfl) hc7, OpStep.at ⟨ρ, B, _⟩ (setO ⟨ρ, B, _⟩ _ _) (op_nilCheck lb (.tmp (hl hd 20 25 rfl)) (fun e v h => by subst h; rfl))⟩)) ?_
      refine DSteps.cons (j := 23) rfl (fun _ => rfl) (.run (fun γ ρ B hb hd => ⟨.yes rfl (ltB rfl) (hl hd 19 24 rfl) hc7, OpStep.at ⟨ρ, B, _⟩ (setO ⟨ρ, B, _⟩ _ _) (op_fieldAddr (off := 0) lb tf43_0 (.tmp (hl hd 21 26 rfl)))⟩)) ?_
      refine DSteps.cons (j := 24) rfl (fun _ => rfl) (.run (fun γ ρ B hb hd => ⟨.yes rfl (ltB rfl) (hl hd 19 24 rfl) hc7, OpStep.at ⟨ρ, (cvar gb_4 (rP (rW (HDR go_6 0 (List.length x_5) gc_7)) (rP (rI .i64) (rP (rI .i64) r0))) ((), (Ends_2, (Lost_3, ())))) :: B, _⟩ (setO ⟨ρ, (cvar gb_4 (rP (rW (HDR go_6 0 (List.length x_5) gc_7)) (rP (rI .i64) (rP (rI .i64) r0))) ((), (Ends_2, (Lost_3, ())))) :: B, _⟩ _ _) (op_loadW (j := 0) lb tS30 (.tmp (hl hd 22 27 rfl)) rfl (Comp.trans (Comp.self (rP (rW (HDR go_6 0 (List.length x_5) gc_7)) (rP (rI .i64) (rP (rI .i64) r0))) ((), (Ends_2, (Lost_3, ())))) (Comp.at' (Comp.inF (Comp.self (rW (HDR go_6 0 (List.length x_5) gc_7)) ()) (Nat.le_of_ble_eq_true rfl)) (by rfl : _ = 0)) (Nat.le_of_ble_eq_true rfl)))⟩)) ?_
      refine DSteps.cons (j := 25) rfl (fun _ => rfl) (.run (fun γ ρ B hb hd => ⟨.yes rfl (ltB rfl) (hl hd 19 24 rfl) hc7, OpStep.at ⟨ρ, B, _⟩ (setO ⟨ρ, B, _⟩ _ _) (op_move lb (.tmp (hb 4 _ rfl)))⟩)) ?_
      refine DSteps.cons (j := 26) rfl (fun _ => rfl) (.run (fun γ ρ B hb hd => ⟨.yes rfl (ltB rfl) (hl hd 19 24 rfl) hc7, OpStep.at ⟨ρ, (cown go_6 r_api_Flight x_5 0 gc_7) :: B, _⟩ (setO ⟨ρ, (cown go_6 r_api_Flight x_5 0 gc_7) :: B, _⟩ _ _) (op_indexAddrOF (r := r_api_Flight) (j := 0) lb tu30 tz36 rfl (.tmp (hl hd 23 28 rfl)) (.tmp (hl hd 24 29 rfl)) hv_i_14)⟩)) ?_
      refine DSteps.cons (j := 27) rfl (fun _ => rfl) (.run (fun γ ρ B hb hd => ⟨.yes rfl (ltB rfl) (hl hd 19 24 rfl) hc7, OpStep.at ⟨ρ, B, _⟩ (setO ⟨ρ, B, _⟩ _ _) (op_fieldAddrE (off := 0) lb tf36_0 (.tmp (hl hd 25 30 rfl)))⟩)) ?_
      refine DSteps.cons (j := 28) rfl (fun _ => rfl) (.run (fun γ ρ B hb hd => ⟨.yes rfl (ltB rfl) (hl hd 19 24 rfl) hc7, OpStep.at ⟨ρ, (cown go_6 r_api_Flight x_5 0 gc_7) :: B, _⟩ (setO ⟨ρ, (cown go_6 r_api_Flight x_5 0 gc_7) :: B, _⟩ _ _) (op_loadOS (r := r_api_Flight) (i := i_14) (off := 0) (j := 0) lb tS3 rfl rfl (.tmp (hl hd 26 31 rfl)) hv_u_15 (Comp.at' (Comp.trans (Comp.self r_api_Flight u_15) (comp_api_Flight_From u_15) (Nat.le_of_ble_eq_true rfl)) rfl) (by decide))⟩)) ?_
      refine DSteps.cons (j := 29) rfl (fun _ => rfl) (.run (fun γ ρ B hb hd => ⟨.yes rfl (ltB rfl) (hl hd 19 24 rfl) hc7, OpStep.at ⟨ρ, B, _⟩ (setO ⟨ρ, B, _⟩ _ _) (op_fieldAddr (off := 0) lb tf36_0 (.tmp (hb 3 _ rfl)))⟩)) ?_
      refine DSteps.cons (j := 30) rfl (fun _ => rfl) (.run (fun γ ρ B hb hd => ⟨.yes rfl (ltB rfl) (hl hd 19 24 rfl) hc7, OpStep.at ⟨ρ, (cvar gb_8 r_api_Flight a_1) :: B, _⟩ (setO ⟨ρ, (cvar gb_8 r_api_Flight a_1) :: B, _⟩ _ _) (op_loadS (j := 0) lb tS3 (.tmp (hl hd 28 33 rfl)) rfl (Comp.trans (Comp.self r_api_Flight a_1) (comp_api_Flight_From a_1) (Nat.le_of_ble_eq_true rfl)) rfl rfl)⟩)) ?_
      refine DSteps.cons (j := 31) rfl (fun _ => rfl) (.run (fun γ ρ B hb hd => ⟨.yes rfl (ltB rfl) (hl hd 19 24 rfl) hc7, OpStep.at ⟨ρ, B, _⟩ (setO ⟨ρ, B, _⟩ _ _) (op_cmpI lb (.tmp (hl hd 27 32 rfl)) (.tmp (hl hd 29 34 rfl)) (congrArg some hv_v_16))⟩)) ?_
      refine DSteps.cons (j := 32) rfl (fun _ => rfl) (.run (fun γ ρ B hb hd => ⟨.yes rfl (ltB rfl) (hl hd 19 24 rfl) hc7, OpStep.at ⟨ρ, B, _⟩ (setO ⟨ρ, B, _⟩ _ _) (op_move lb (.tmp (hl hd 30 35 rfl)))⟩)) ?_
      refine DSteps.cons (j := 33) rfl (fun _ => rfl) (.run (fun γ ρ B hb hd => ⟨.yes rfl (ltB rfl) (hl hd 31 36 rfl) hc9, OpStep.at ⟨ρ, B, _⟩ (setO ⟨ρ, B, _⟩ _ _) (op_move lb (.tmp (hb 0 _ rfl)))⟩)) ?_
      refine DSteps.cons (j := 34) rfl (fun _ => rfl) (.run (fun γ ρ B hb hd => ⟨.yes rfl (ltB rfl) (hl hd 31 36 rfl) hc9, OpStep.at ⟨ρ, B, _⟩ (setO ⟨ρ, B, _⟩ _ _) (op_nilCheck lb (.tmp (hl hd 32 37 rfl)) (fun e v h => by subst h; rfl))⟩)) ?_
      refine DSteps.cons (j := 35) rfl (fun _ => rfl) (.run (fun γ ρ B hb hd => ⟨.yes rfl (ltB rfl) (hl hd 31 36 rfl) hc9, OpStep.at ⟨ρ, B, _⟩ (setO ⟨ρ, B, _⟩ _ _) (op_fieldAddr (off := 0) lb tf43_0 (.tmp (hl hd 33 38 rfl)))⟩)) ?_
      refine DSteps.cons (j := 36) rfl (fun _ => rfl) (.run (fun γ ρ B hb hd => ⟨.yes rfl (ltB rfl) (hl hd 31 36 rfl) hc9, OpStep.at ⟨ρ, (cvar gb_4 (rP (rW (HDR go_6 0 (List.length x_5) gc_7)) (rP (rI .i64) (rP (rI .i64) r0))) ((), (Ends_2, (Lost_3, ())))) :: B, _⟩ (setO ⟨ρ, (cvar gb_4 (rP (rW (HDR go_6 0 (List.length x_5) gc_7)) (rP (rI .i64) (rP (rI .i64) r0))) ((), (Ends_2, (Lost_3, ())))) :: B, _⟩ _ _) (op_loadW (j := 0) lb tS30 (.tmp (hl hd 34 39 rfl)) rfl (Comp.trans (Comp.self (rP (rW (HDR go_6 0 (List.length x_5) gc_7)) (rP (rI .i64) (rP (rI .i64) r0))) ((), (Ends_2, (Lost_3, ())))) (Comp.at' (Comp.inF (Comp.self (rW (HDR go_6 0 (List.length x_5) gc_7)) ()) (Nat.le_of_ble_eq_true rfl)) (by rfl : _ = 0)) (Nat.le_of_ble_eq_true rfl)))⟩)) ?_
      refine DSteps.cons (j := 37) rfl (fun _ => rfl) (.run (fun γ ρ B hb hd => ⟨.yes rfl (ltB rfl) (hl hd 31 36 rfl) hc9, OpStep.at ⟨ρ, B, _⟩ (setO ⟨ρ, B, _⟩ _ _) (op_move lb (.tmp (hb 4 _ rfl)))⟩)) ?_
      refine DSteps.cons (j := 38) rfl (fun _ => rfl) (.run (fun γ ρ B hb hd => ⟨.yes rfl (ltB rfl) (hl hd 31 36 rfl) hc9, OpStep.at ⟨ρ, (cown go_6 r_api_Flight x_5 0 gc_7) :: B, _⟩ (setO ⟨ρ, (cown go_6 r_api_Flight x_5 0 gc_7) :: B, _⟩ _ _) (op_indexAddrOF (r := r_api_Flight) (j := 0) lb tu30 tz36 rfl (.tmp (hl hd 35 40 rfl)) (.tmp (hl hd 36 41 rfl)) hv_i_17)⟩)) ?_
      refine DSteps.cons (j := 39) rfl (fun _ => rfl) (.run (fun γ ρ B hb hd => ⟨.yes rfl (ltB rfl) (hl hd 31 36 rfl) hc9, OpStep.at ⟨ρ, B, _⟩ (setO ⟨ρ, B, _⟩ _ _) (op_fieldAddrE (off := 1) lb tf36_1 (.tmp (hl hd 37 42 rfl)))⟩)) ?_
      refine DSteps.cons (j := 40) rfl (fun _ => rfl) (.run (fun γ ρ B hb hd => ⟨.yes rfl (ltB rfl) (hl hd 31 36 rfl) hc9, OpStep.at ⟨ρ, (cown go_6 r_api_Flight x_5 0 gc_7) :: B, _⟩ (setO ⟨ρ, (cown go_6 r_api_Flight x_5 0 gc_7) :: B, _⟩ _ _) (op_loadOS (r := r_api_Flight) (i := i_17) (off := 1) (j := 0) lb tS3 rfl rfl (.tmp (hl hd 38 43 rfl)) hv_u_18 (Comp.at' (Comp.trans (Comp.self r_api_Flight u_18) (comp_api_Flight_To u_18) (Nat.le_of_ble_eq_true rfl)) rfl) (by decide))⟩)) ?_
      refine DSteps.cons (j := 41) rfl (fun _ => rfl) (.run (fun γ ρ B hb hd => ⟨.yes rfl (ltB rfl) (hl hd 31 36 rfl) hc9, OpStep.at ⟨ρ, B, _⟩ (setO ⟨ρ, B, _⟩ _ _) (op_fieldAddr (off := 1) lb tf36_1 (.tmp (hb 3 _ rfl)))⟩)) ?_
      refine DSteps.cons (j := 42) rfl (fun _ => rfl) (.run (fun γ ρ B hb hd => ⟨.yes rfl (ltB rfl) (hl hd 31 36 rfl) hc9, OpStep.at ⟨ρ, (cvar gb_8 r_api_Flight a_1) :: B, _⟩ (setO ⟨ρ, (cvar gb_8 r_api_Flight a_1) :: B, _⟩ _ _) (op_loadS (j := 0) lb tS3 (.tmp (hl hd 40 45 rfl)) rfl (Comp.trans (Comp.self r_api_Flight a_1) (comp_api_Flight_To a_1) (Nat.le_of_ble_eq_true rfl)) rfl rfl)⟩)) ?_
      refine DSteps.cons (j := 43) rfl (fun _ => rfl) (.run (fun γ ρ B hb hd => ⟨.yes rfl (ltB rfl) (hl hd 31 36 rfl) hc9, OpStep.at ⟨ρ, B, _⟩ (setO ⟨ρ, B, _⟩ _ _) (op_cmpI lb (.tmp (hl hd 39 44 rfl)) (.tmp (hl hd 41 46 rfl)) (congrArg some hv_v_19))⟩)) ?_
      refine DSteps.cons (j := 44) rfl (fun _ => rfl) (.run (fun γ ρ B hb hd => ⟨.yes rfl (ltB rfl) (hl hd 19 24 rfl) hc7, OpStep.at ⟨ρ, B, _⟩ (setO ⟨ρ, B, _⟩ _ _) (op_pickT lb (.tmp (hl hd 31 36 rfl)) hc9 (.tmp (hl hd 42 47 rfl)))⟩)) ?_
      refine DSteps.cons (j := 45) rfl (fun _ => rfl) (.run (fun γ ρ B hb hd => ⟨.yes rfl (ltB rfl) (hl hd 7 12 rfl) hc5, OpStep.at ⟨ρ, B, _⟩ (setO ⟨ρ, B, _⟩ _ _) (op_pickF lb (.tmp (hl hd 19 24 rfl)) hc7 (.tmp (hl hd 43 48 rfl)))⟩)) ?_
      refine dS 46 (fun γ ρ B hb hd => op_pickT lb (.tmp (hl hd 7 12 rfl)) hc5 (.tmp (hl hd 44 49 rfl))) ?_
      exact DSteps.nil)
                 (by decide +kernel) (fun _ => rfl) rfl (fun _ => rfl) (fun _ => rfl) rfl (by decide) (by decide) (by decide +kernel) (fun _ d h => by cases h)
                 (ρ' := fun γ => [(0, ov (PTR gb_4 0)), (3, ov (PTR gb_8 0)), (4, ov (S (rI .i64) x_9)), (50, ov (S rB v_19))])
                 (X' := fun γ => [cvar gb_4 (rP (rW (HDR go_6 0 (List.length x_5) gc_7)) (rP (rI .i64) (rP (rI .i64) r0))) ((), (Ends_2, (Lost_3, ()))), cown go_6 r_api_Flight x_5 0 gc_7, cvar gb_8 r_api_Flight a_1])
                 (fun γ ρ hb hd => (.cons (hb 0 _ rfl (by decide)) (.cons (hb 3 _ rfl (by decide)) (.cons (hb 4 _ rfl (by decide)) (.cons (hdq hd 45 50 rfl) .nil))))) (fun _ => rfl) (fun γ => ?_)
             refine JQ.at ⟨[(0, ov (PTR gb_4 0)), (3, ov (PTR gb_8 0)), (4, ov (S (rI .i64) x_9)), (50, ov (S rB v_19))], [cvar gb_4 (rP (rW (HDR go_6 0 (List.length x_5) gc_7)) (rP (rI .i64) (rP (rI .i64) r0))) ((), (Ends_2, (Lost_3, ()))), cown go_6 r_api_Flight x_5 0 gc_7, cvar gb_8 r_api_Flight a_1], []⟩ ?_
             replace hx3 := Option.some.inj hx3
             first | subst hx3 | clear hx3
             exact JQ.join () (Imp.norm (js := [0, 0, 0]) rfl (.cons rfl (.cons rfl (.cons rfl (.cons rfl .nil)))))
           · refine JC.anyE (kl := []) (kk := 0) (base := [(0, ov (PTR gb_4 0)), (3, ov (PTR gb_8 0)), (4, ov (S (rI .i64) x_9))])
                 (fs := fun γ => [⟨some 5, ov (S (rI .i64) x_9)⟩, ⟨some 6, ov (PTR gb_4 0)⟩, ⟨some 7, ov (PTR gb_4 0)⟩, ⟨some 8, ov (PTR gb_4 (0 + 0))⟩, ⟨some 9, ov (HDR go_6 0 (List.length x_5) gc_7)⟩, ⟨some 10, ov (S (rI .i64) (List.length x_5 : Int))⟩, ⟨some 11, ov (S rB v_10)⟩, ⟨some 12, ov (S rB v_10)⟩, ⟨some 13, ov (PTR gb_4 0)⟩, ⟨some 14, ov (PTR gb_4 0)⟩, ⟨some 15, ov (PTR gb_4 (0 + 0))⟩, ⟨some 16, ov (HDR go_6 0 (List.length x_5) gc_7)⟩, ⟨some 17, ov (S (rI .i64) x_9)⟩, ⟨some 18, ov (EPT go_6 (i_11 * 3))⟩, ⟨some 19, ov (EPT go_6 ((i_11 * 3) + 0))⟩, ⟨some 20, ov (S (rI .i64) u_12.From)⟩, ⟨some 21, ov (PTR gb_8 (0 + 0))⟩, ⟨some 22, ov (S (rI .i64) a_1.From)⟩, ⟨some 23, ov (S rB v_13)⟩, ⟨some 24, ov (S rB v_13)⟩, ⟨some 25, ov (PTR gb_4 0)⟩, ⟨some 26, ov (PTR gb_4 0)⟩, ⟨some 27, ov (PTR gb_4 (0 + 0))⟩, ⟨some 28, ov (HDR go_6 0 (List.length x_5) gc_7)⟩, ⟨some 29, ov (S (rI .i64) x_9)⟩, ⟨some 30, ov (EPT go_6 (i_14 * 3))⟩, ⟨some 31, ov (EPT go_6 ((i_14 * 3) + 0))⟩, ⟨some 32, ov (S (rI .i64) u_15.From)⟩, ⟨some 33, ov (PTR gb_8 (0 + 0))⟩, ⟨some 34, ov (S (rI .i64) a_1.From)⟩, ⟨some 35, ov (S rB v_16)⟩, ⟨some 36, ov (S rB v_16)⟩, ⟨some 37, .one .und⟩, ⟨some 38, .one .und⟩, ⟨some 39, .one .und⟩, ⟨some 40, .one .und⟩, ⟨some 41, .one .und⟩, ⟨some 42, .one .und⟩, ⟨some 43, .one .und⟩, ⟨some 44, .one .und⟩, ⟨some 45, .one .und⟩, ⟨some 46, .one .und⟩, ⟨some 47, .one .und⟩, ⟨some 48, ov (S rB false)⟩, ⟨some 49, ov (S rB false)⟩, ⟨some 50, ov (S rB false)⟩])
                 (rs := fun γ => [⟨cvar gb_4 (rP (rW (HDR go_6 0 (List.length x_5) gc_7)) (rP (rI .i64) (rP (rI .i64) r0))) ((), (Ends_2, (Lost_3, ()))), none, none, [4, 11, 23]⟩, ⟨cown go_6 r_api_Flight x_5 0 gc_7, none, none, [13, 15, 25, 27]⟩, ⟨cvar gb_8 r_api_Flight a_1, none, none, [17, 29]⟩])
                 (ds := [5, 6, 7, 8, 9, 10, 11, 12, 13, 14, 15, 16, 17, 18, 19, 20, 21, 22, 23, 24, 25, 26, 27, 28, 29, 30, 31, 32, 33, 34, 35, 36, 37, 38, 39, 40, 41, 42, 43, 44, 45, 46, 47, 48, 49, 50]) (bs := [0, 3, 4]) (afts := [[], [], [], [], [], [], [], [], [], [], [], [], [], [], [], [], [], [], [], [], [], [], [], [], [], [], [], [], [], [], [], [], [], [], [], [], [], [], [], [], [], [], [], [], [], []]) (js := [0, 0, 0]) mixed (.cons rfl (.cons rfl (.cons rfl .nil))) (fun _ => rfl)
                 (by
      refine dS 1 (fun γ ρ B hb hd => op_move lb (.tmp (hb 4 _ rfl))) ?_
      refine dS 2 (fun γ ρ B hb hd => op_move lb (.tmp (hb 0 _ rfl))) ?_
      refine dS 3 (fun γ ρ B hb hd => op_nilCheck lb (.tmp (hl hd 1 6 rfl)) (fun e v h => by subst h; rfl)) ?_
      refine dS 4 (fun γ ρ B hb hd => op_fieldAddr (off := 0) lb tf43_0 (.tmp (hl hd 2 7 rfl))) ?_
      refine DSteps.cons (j := 5) rfl (fun _ => rfl) (.run (fun γ ρ B hb hd => ⟨.none, OpStep.at ⟨ρ, (cvar gb_4 (rP (rW (HDR go_6 0 (List.length x_5) gc_7)) (rP (rI .i64) (rP (rI .i64) r0))) ((), (Ends_2, (Lost_3, ())))) :: B, _⟩ (setO ⟨ρ, (cvar gb_4 (rP (rW (HDR go_6 0 (List.length x_5) gc_7)) (rP (rI .i64) (rP (rI .i64) r0))) ((), (Ends_2, (Lost_3, ())))) :: B, _⟩ _ _) (op_loadW (j := 0) lb tS30 (.tmp (hl hd 3 8 rfl)) rfl (Comp.trans (Comp.self (rP (rW (HDR go_6 0 (List.length x_5) gc_7)) (rP (rI .i64) (rP (rI .i64) r0))) ((), (Ends_2, (Lost_3, ())))) (Comp.at' (Comp.inF (Comp.self (rW (HDR go_6 0 (List.length x_5) gc_7)) ()) (Nat.le_of_ble_eq_true rfl)) (by rfl : _ = 0)) (Nat.le_of_ble_eq_true rfl)))⟩)) ?_
      refine dS 6 (fun γ ρ B hb hd => op_lenH lb tu30 (.tmp (hl hd 4 9 rfl))) ?_
      refine dS 7 (fun γ ρ B hb hd => op_cmpI lb (.tmp (hl hd 0 5 rfl)) (.tmp (hl hd 5 10 rfl)) (congrArg some hv_v_10)) ?_
      refine dS 8 (fun γ ρ B hb hd => op_move lb (.tmp (hl hd 6 11 rfl))) ?_
      refine DSteps.cons (j := 9) rfl (fun _ => rfl) (.run (fun γ ρ B hb hd => ⟨.yes rfl (ltB rfl) (hl hd 7 12 rfl) hc5, OpStep.at ⟨ρ, B, _⟩ (setO ⟨ρ, B, _⟩ _ _) (op_move lb (.tmp (hb 0 _ rfl)))⟩)) ?_
      refine DSteps.cons (j := 10) rfl (fun _ => rfl) (.run (fun γ ρ B hb hd => ⟨.yes rfl (ltB rfl) (hl hd 7 12 rfl) hc5, OpStep.at ⟨ρ, B, _⟩ (setO ⟨ρ, B, _⟩ _ _) (op_nilCheck lb (.tmp (hl hd 8 13 rfl)) (fun e v h => by subst h; rfl))⟩)) ?_
      refine DSteps.cons (j := 11) rfl (fun _ => rfl) (.run (fun γ ρ B hb hd => ⟨.yes rfl (ltB rfl) (hl hd 7 12 rfl) hc5, OpStep.at ⟨ρ, B, _⟩ (setO ⟨ρ, B, _⟩ _ _) (op_fieldAddr (off := 0) lb tf43_0 (.tmp (hl hd 9 14 rfl)))⟩)) ?_
      refine DSteps.cons (j := 12) rfl (fun _ => rfl) (.run (fun γ ρ B hb hd => ⟨.yes rfl (ltB rfl) (hl hd 7 12 rfl) hc5, OpStep.at ⟨ρ, (cvar gb_4 (rP (rW (HDR go_6 0 (List.length x_5) gc_7)) (rP (rI .i64) (rP (rI .i64) r0))) ((), (Ends_2, (Lost_3, ())))) :: B, _⟩ (setO ⟨ρ, (cvar gb_4 (rP (rW (HDR go_6 0 (List.length x_5) gc_7)) (rP (rI .i64) (rP (rI .i64) r0))) ((), (Ends_2, (Lost_3, ())))) :: B, _⟩ _ _) (op_loadW (j := 0) lb tS30 (.tmp (hl hd 10 15 rfl)) rfl (Comp.trans (Comp.self (rP (rW (HDR go_6 0 (List.length x_5) gc_7)) (rP (rI .i64) (rP (rI .i64) r0))) ((), (Ends_2, (Lost_3, ())))) (Comp.at' (Comp.inF (Comp.self (rW (HDR go_6 0 (List.length x_5) gc_7)) ()) (Nat.le_of_ble_eq_true rfl)) (by rfl : _ = 0)) (Nat.le_of_ble_eq_true rfl)))⟩)) ?_
      refine DSteps.cons (j := 13) rfl (fun _ => rfl) (.run (fun γ ρ B hb hd => ⟨.yes rfl (ltB rfl) (hl hd 7 12 rfl) hc5, OpStep.at ⟨ρ, B, _⟩ (setO ⟨ρ, B, _⟩ _ _) (op_move lb (.tmp (hb 4 _ rfl)))⟩)) ?_
      refine DSteps.cons (j := 14) rfl (fun _ => rfl) (.run (fun γ ρ B hb hd => ⟨.yes rfl (ltB rfl) (hl hd 7 12 rfl) hc5, OpStep.at ⟨ρ, (cown go_6 r_api_Flight x_5 0 gc_7) :: B, _⟩ (setO ⟨ρ, (cown go_6 r_api_Flight x_5 0 gc_7) :: B, _⟩ _ _) (op_indexAddrOF (r := r_api_Flight) (j := 0) lb tu30 tz36 rfl (.tmp (hl hd 11 16 rfl)) (.tmp (hl hd 12 17 rfl)) hv_i_11)⟩)) ?_
      refine DSteps.cons (j := 15) rfl (fun _ => rfl) (.run (fun γ ρ B hb hd => ⟨.yes rfl (ltB rfl) (hl hd 7 12 rfl) hc5, OpStep.at ⟨ρ, B, _⟩ (setO ⟨ρ, B, _⟩ _ _) (op_fieldAddrE (off := 0) lb tf36_0 (.tmp (hl hd 13 18 rfl)))⟩)) ?_
      refine DSteps.cons (j := 16) rfl (fun _ => rfl) (.run (fun γ ρ B hb hd => ⟨.yes rfl (ltB rfl) (hl hd 7 12 rfl) hc5, OpStep.at ⟨ρ, (cown go_6 r_api_Flight x_5 0 gc_7) :: B, _⟩ (setO ⟨ρ, (cown go_6 r_api_Flight x_5 0 gc_7) :: B, _⟩ _ _) (op_loadOS (r := r_api_Flight) (i := i_11) (off := 0) (j := 0) lb tS3 rfl rfl (.tmp (hl hd 14 19 rfl)) hv_u_12 (Comp.at' (Comp.trans (Comp.self r_api_Flight u_12) (comp_api_Flight_From u_12) (Nat.le_of_ble_eq_true rfl)) rfl) (by decide))⟩)) ?_
      refine DSteps.cons (j := 17) rfl (fun _ => rfl) (.run (fun γ ρ B hb hd => ⟨.yes rfl (ltB rfl) (hl hd 7 12 rfl) hc5, OpStep.at ⟨ρ, B, _⟩ (setO ⟨ρ, B, _⟩ _ _) (op_fieldAddr (off := 0) lb tf36_0 (.tmp (hb 3 _ rfl)))⟩)) ?_
      refine DSteps.cons (j := 18) rfl (fun _ => rfl) (.run (fun γ ρ B hb hd => ⟨.yes rfl (ltB rfl) (hl hd 7 12 rfl) hc5, OpStep.at ⟨ρ, (cvar gb_8 r_api_Flight a_1) :: B, _⟩ (setO ⟨ρ, (cvar gb_8 r_api_Flight a_1) :: B, _⟩ _ _) (op_loadS (j := 0) lb tS3 (.tmp (hl hd 16 21 rfl)) rfl (Comp.trans (Comp.self r_api_Flight a_1) (comp_api_Flight_From a_1) (Nat.le_of_ble_eq_true rfl)) rfl rfl)⟩)) ?_
      refine DSteps.cons (j := 19) rfl (fun _ => rfl) (.run (fun γ ρ B hb hd => ⟨.yes rfl (ltB rfl) (hl hd 7 12 rfl) hc5, OpStep.at ⟨ρ, B, _⟩ (setO ⟨ρ, B, _⟩ _ _) (op_cmpI lb (.tmp (hl hd 15 20 rfl)) (.tmp (hl hd 17 22 rfl)) (congrArg some hv_v_13))⟩)) ?_
      refine DSteps.cons (j := 20) rfl (fun _ => rfl) (.run (fun γ ρ B hb hd => ⟨.yes rfl (ltB rfl) (hl hd 7 12 rfl) hc5, OpStep.at ⟨ρ, B, _⟩ (setO ⟨ρ, B, _⟩ _ _) (op_move lb (.tmp (hl hd 18 23 rfl)))⟩)) ?_
      refine DSteps.cons (j := 21) rfl (fun _ => rfl) (.run (fun γ ρ B hb hd => ⟨.yes rfl (ltB rfl) (hl hd 19 24 rfl) hc7, OpStep.at ⟨ρ, B, _⟩ (setO ⟨ρ, B, _⟩ _ _) (op_move lb (.tmp (hb 0 _ rfl)))⟩)) ?_
      refine DSteps.cons (j := 22) rfl (fun _ => rfl) (.run (fun γ ρ B hb hd => ⟨.yes rfl (ltB rfl) (hl hd 19 24 rfl) hc7, OpStep.at ⟨ρ, B, _⟩ (setO ⟨ρ, B, _⟩ _ _) (op_nilCheck lb (.tmp (hl hd 20 25 rfl)) (fun e v h => by subst h; rfl))⟩)) ?_
      refine DSteps.cons (j := 23) rfl (fun _ => rfl) (.run (fun γ ρ B hb hd => ⟨.yes rfl (ltB rfl) (hl hd 19 24 rfl) hc7, OpStep.at ⟨ρ, B, _⟩ (setO ⟨ρ, B, _⟩ _ _) (op_fieldAddr (off := 0) lb tf43_0 (.tmp (hl hd 21 26 rfl)))⟩)) ?_
      refine DSteps.cons (j := 24) rfl (fun _ => rfl) (.run (fun γ ρ B hb hd => ⟨.yes rfl (ltB rfl) (hl hd 19 24 rfl) hc7, OpStep.at ⟨ρ, (cvar gb_4 (rP (rW (HDR go_6 0 (List.length x_5) gc_7)) (rP (rI .i64) (rP (rI .i64) r0))) ((), (Ends_2, (Lost_3, ())))) :: B, _⟩ (setO ⟨ρ, (cvar gb_4 (rP (rW (HDR go_6 0 (List.length x_5) gc_7)) (rP (rI .i64) (rP (rI .i64) r0))) ((), (Ends_2, (Lost_3, ())))) :: B, _⟩ _ _) (op_loadW (j := 0) lb tS30 (.tmp (hl hd 22 27 rfl)) rfl (Comp.trans (Comp.self (rP (rW (HDR go_6 0 (List.length x_5) gc_7)) (rP (rI .i64) (rP (rI .i64) r0))) ((), (Ends_2, (Lost_3, ())))) (Comp.at' (Comp.inF (Comp.self (rW (HDR go_6 0 (List.length x_5) gc_7)) ()) (Nat.le_of_ble_eq_true rfl)) (by rfl : _ = 0)) (Nat.le_of_ble_eq_true rfl)))⟩)) ?_
      refine DSteps.cons (j := 25) rfl (fun _ => rfl) (.run (fun γ ρ B hb hd => ⟨.yes rfl (ltB rfl) (hl hd 19 24 rfl) hc7, OpStep.at ⟨ρ, B, _⟩ (setO ⟨ρ, B, _⟩ _ _) (op_move lb (.tmp (hb 4 _ rfl)))⟩)) ?_
      refine DSteps.cons (j := 26) rfl (fun _ => rfl) (.run (fun γ ρ B hb hd => ⟨.yes rfl (ltB rfl) (hl hd 19 24 rfl) hc7, OpStep.at ⟨ρ, (cown go_6 r_api_Flight x_5 0 gc_7) :: B, _⟩ (setO ⟨ρ, (cown go_6 r_api_Flight x_5 0 gc_7) :: B, _⟩ _ _) (op_indexAddrOF (r := r_api_Flight) (j := 0) lb tu30 tz36 rfl (.tmp (hl hd 23 28 rfl)) (.tmp (hl hd 24 29 rfl)) hv_i_14)⟩)) ?_
      refine DSteps.cons (j := 27) rfl (fun _ => rfl) (.run (fun γ ρ B hb hd => ⟨.yes rfl (ltB rfl) (hl hd 19 24 rfl) hc7, OpStep.at ⟨ρ, B, _⟩ (setO ⟨ρ, B, _⟩ _ _) (op_fieldAddrE (off := 0) lb tf36_0 (.tmp (hl hd 25 30 rfl)))⟩)) ?_
      refine DSteps.cons (j := 28) rfl (fun _ => rfl) (.run (fun γ ρ B hb hd => ⟨.yes rfl (ltB rfl) (hl hd 19 24 rfl) hc7, OpStep.at ⟨ρ, (cown go_6 r_api_Flight x_5 0 gc_7) :: B, _⟩ (setO ⟨ρ, (cown go_6 r_api_Flight x_5 0 gc_7) :: B, _⟩ _ _) (op_loadOS (r := r_api_Flight) (i := i_14) (off := 0) (j := 0) lb tS3 rfl rfl (.tmp (hl hd 26 31 rfl)) hv_u_15 (Comp.at' (Comp.trans (Comp.self r_api_Flight u_15) (comp_api_Flight_From u_15) (Nat.le_of_ble_eq_true rfl)) rfl) (by decide))⟩)) ?_
      refine DSteps.cons (j := 29) rfl (fun _ => rfl) (.run (fun γ ρ B hb hd => ⟨.yes rfl (ltB rfl) (hl hd 19 24 rfl) hc7, OpStep.at ⟨ρ, B, _⟩ (setO ⟨ρ, B, _⟩ _ _) (op_fieldAddr (off := 0) lb tf36_0 (.tmp (hb 3 _ rfl)))⟩)) ?_
      refine DSteps.cons (j := 30) rfl (fun _ => rfl) (.run (fun γ ρ B hb hd => ⟨.yes rfl (ltB rfl) (hl hd 19 24 rfl) hc7, OpStep.at ⟨ρ, (cvar gb_8 r_api_Flight a_1) :: B, _⟩ (setO ⟨ρ, (cvar gb_8 r_api_Flight a_1) :: B, _⟩ _ _) (op_loadS (j := 0) lb tS3 (.tmp (hl hd 28 33 rfl)) rfl (Comp.trans (Comp.self r_api_Flight a_1) (comp_api_Flight_From a_1) (Nat.le_of_ble_eq_true rfl)) rfl rfl)⟩)) ?_
      refine DSteps.cons (j := 31) rfl (fun _ => rfl) (.run (fun γ ρ B hb hd => ⟨.yes rfl (ltB rfl) (hl hd 19 24 rfl) hc7, OpStep.at ⟨ρ, B, _⟩ (setO ⟨ρ, B, _⟩ _ _) (op_cmpI lb (.tmp (hl hd 27 32 rfl)) (.tmp (hl hd 29 34 rfl)) (congrArg some hv_v_16))⟩)) ?_
      refine DSteps.cons (j := 32) rfl (fun _ => rfl) (.run (fun γ ρ B hb hd => ⟨.yes rfl (ltB rfl) (hl hd 19 24 rfl) hc7, OpStep.at ⟨ρ, B, _⟩ (setO ⟨ρ, B, _⟩ _ _) (op_move lb (.tmp (hl hd 30 35 rfl)))⟩)) ?_
      refine DSteps.cons (j := 33) rfl (fun _ => rfl) (.skip (fun γ ρ B hb hd => ⟨.no rfl (ltB rfl) (hl hd 31 36 rfl) hc9, rfl, rfl, rfl, fun d h => by cases h; exact ltB rfl⟩)) ?_
      refine DSteps.cons (j := 34) rfl (fun _ => rfl) (.skip (fun γ ρ B hb hd => ⟨.no rfl (ltB rfl) (hl hd 31 36 rfl) hc9, rfl, rfl, rfl, fun d h => by cases h; exact ltB rfl⟩)) ?_
      refine DSteps.cons (j := 35) rfl (fun _ => rfl) (.skip (fun γ ρ B hb hd => ⟨.no rfl (ltB rfl) (hl hd 31 36 rfl) hc9, rfl, rfl, rfl, fun d h => by cases h; exact ltB rfl⟩)) ?_
      refine DSteps.cons (j := 36) rfl (fun _ => rfl) (.skip (fun γ ρ B hb hd => ⟨.no rfl (ltB rfl) (hl hd 31 36 rfl) hc9, rfl, rfl, rfl, fun d h => by cases h; exact ltB rfl⟩)) ?_
      refine DSteps.cons (j := 37) rfl (fun _ => rfl) (.skip (fun γ ρ B hb hd => ⟨.no rfl (ltB rfl) (hl hd 31 36 rfl) hc9, rfl, rfl, rfl, fun d h => by cases h; exact ltB rfl⟩)) ?_
      refine DSteps.cons (j := 38) rfl (fun _ => rfl) (.skip (fun γ ρ B hb hd => ⟨.no rfl (ltB rfl) (hl hd 31 36 rfl) hc9, rfl, rfl, rfl, fun d h => by cases h; exact ltB rfl⟩)) ?_
      refine DSteps.cons (j := 39) rfl (fun _ => rfl) (.skip (fun γ ρ B hb hd => ⟨.no rfl (ltB rfl) (hl hd 31 36 rfl) hc9, rfl, rfl, rfl, fun d h => by cases h; exact ltB rfl⟩)) ?_
      refine DSteps.cons (j := 40) rfl (fun _ => rfl) (.skip (fun γ ρ B hb hd => ⟨.no rfl (ltB rfl) (hl hd 31 36 rfl) hc9, rfl, rfl, rfl, fun d h => by cases h; exact ltB rfl⟩)) ?_
      refine DSteps.cons (j := 41) rfl (fun _ => rfl) (.skip (fun γ ρ B hb hd => ⟨.no rfl (ltB rfl) (hl hd 31 36 rfl) hc9, rfl, rfl, rfl, fun d h => by cases h; exact ltB rfl⟩)) ?_
      refine DSteps.cons (j := 42) rfl (fun _ => rfl) (.skip (fun γ ρ B hb hd => ⟨.no rfl (ltB rfl) (hl hd 31 36 rfl) hc9, rfl, rfl, rfl, fun d h => by cases h; exact ltB rfl⟩)) ?_
      refine DSteps.cons (j := 43) rfl (fun _ => rfl) (.skip (fun γ ρ B hb hd => ⟨.no rfl (ltB rfl) (hl hd 31 36 rfl) hc9, rfl, rfl, rfl, fun d h => by cases h; exact ltB rfl⟩)) ?_
      refine DSteps.cons (j := 44) rfl (fun _ => rfl) (.run (fun γ ρ B hb hd => ⟨.yes rfl (ltB rfl) (hl hd 19 24 rfl) hc7, OpStep.at ⟨ρ, B, _⟩ (setO ⟨ρ, B, _⟩ _ _) (op_pickF lb (.tmp (hl hd 31 36 rfl)) hc9 .cB)⟩)) ?_
      refine DSteps.cons (j := 45) rfl (fun _ => rfl) (.run (fun γ ρ B hb hd => ⟨.yes rfl (ltB rfl) (hl hd 7 12 rfl) hc5, OpStep.at ⟨ρ, B, _⟩ (setO ⟨ρ, B, _⟩ _ _) (op_pickF lb (.tmp (hl hd 19 24 rfl)) hc7 (.tmp (hl hd 43 48 rfl)))⟩)) ?_
      refine dS 46 (fun γ ρ B hb hd => op_pickT lb (.tmp (hl hd 7 12 rfl)) hc5 (.tmp (hl hd 44 49 rfl))) ?_
      exact DSteps.nil)
                 (by decide +kernel) (fun _ => rfl) rfl (fun _ => rfl) (fun _ => rfl) rfl (by decide) (by decide) (by decide +kernel) (fun _ d h => by cases h)
                 (ρ' := fun γ => [(0, ov (PTR gb_4 0)), (3, ov (PTR gb_8 0)), (4, ov (S (rI .i64) x_9)), (50, ov (S rB false))])
                 (X' := fun γ => [cvar gb_4 (rP (rW (HDR go_6 0 (List.length x_5) gc_7)) (rP (rI .i64) (rP (rI .i64) r0))) ((), (Ends_2, (Lost_3, ()))), cown go_6 r_api_Flight x_5 0 gc_7, cvar gb_8 r_api_Flight a_1])
                 (fun γ ρ hb hd => (.cons (hb 0 _ rfl (by decide)) (.cons (hb 3 _ rfl (by decide)) (.cons (hb 4 _ rfl (by decide)) (.cons (hdq hd 45 50 rfl) .nil))))) (fun _ => rfl) (fun γ => ?_)
             refine JQ.at ⟨[(0, ov (PTR gb_4 0)), (3, ov (PTR gb_8 0)), (4, ov (S (rI .i64) x_9)), (50, ov (S rB false))], [cvar gb_4 (rP (rW (HDR go_6 0 (List.length x_5) gc_7)) (rP (rI .i64) (rP (rI .i64) r0))) ((), (Ends_2, (Lost_3, ()))), cown go_6 r_api_Flight x_5 0 gc_7, cvar gb_8 r_api_Flight a_1], []⟩ ?_
             replace hx3 := Option.some.inj hx3
             first | subst hx3 | clear hx3
             exact JQ.join () (Imp.norm (js := [0, 0, 0]) rfl (.cons rfl (.cons rfl (.cons rfl (.cons rfl .nil)))))
       · refine JC.anyE (kl := []) (kk := 0) (base := [(0, ov (PTR gb_4 0)), (3, ov (PTR gb_8 0)), (4, ov (S (rI .i64) x_9))])
             (fs := fun γ => [⟨some 5, ov (S (rI .i64) x_9)⟩, ⟨some 6, ov (PTR gb_4 0)⟩, ⟨some 7, ov (PTR gb_4 0)⟩, ⟨some 8, ov (PTR gb_4 (0 + 0))⟩, ⟨some 9, ov (HDR go_6 0 (List.length x_5) gc_7)⟩, ⟨some 10, ov (S (rI .i64) (List.length x_5 : Int))⟩, ⟨some 11, ov (S rB v_10)⟩, ⟨some 12, ov (S rB v_10)⟩, ⟨some 13, .one .und⟩, ⟨some 14, .one .und⟩, ⟨some 15, .one .und⟩, ⟨some 16, .one .und⟩, ⟨some 17, .one .und⟩, ⟨some 18, .one .und⟩, ⟨some 19, .one .und⟩, ⟨some 20, .one .und⟩, ⟨some 21, .one .und⟩, ⟨some 22, .one .und⟩, ⟨some 23, .one .und⟩, ⟨some 24, .one .und⟩, ⟨some 25, .one .und⟩, ⟨some 26, .one .und⟩, ⟨some 27, .one .und⟩, ⟨some 28, .one .und⟩, ⟨some 29, .one .und⟩, ⟨some 30, .one .und⟩, ⟨some 31, .one .und⟩, ⟨some 32, .one .und⟩, ⟨some 33, .one .und⟩, ⟨some 34, .one .und⟩, ⟨some 35, .one .und⟩, ⟨some 36, .one .und⟩, ⟨some 37, .one .und⟩, ⟨some 38, .one .und⟩, ⟨some 39, .one .und⟩, ⟨some 40, .one .und⟩, ⟨some 41, .one .und⟩, ⟨some 42, .one .und⟩, ⟨some 43, .one .und⟩, ⟨some 44, .one .und⟩, ⟨some 45, .one .und⟩, ⟨some 46, .one .und⟩, ⟨some 47, .one .und⟩, ⟨some 48, .one .und⟩, ⟨some 49, .one .und⟩, ⟨some 50, ov (S rB false)⟩])
             (rs := fun γ => [⟨cvar gb_4 (rP (rW (HDR go_6 0 (List.length x_5) gc_7)) (rP (rI .i64) (rP (rI .i64) r0))) ((), (Ends_2, (Lost_3, ()))), none, none, [4]⟩, ⟨cown go_6 r_api_Flight x_5 0 gc_7, none, none, []⟩, ⟨cvar gb_8 r_api_Flight a_1, none, none, []⟩])
             (ds := [5, 6, 7, 8, 9, 10, 11, 12, 13, 14, 15, 16, 17, 18, 19, 20, 21, 22, 23, 24, 25, 26, 27, 28, 29, 30, 31, 32, 33, 34, 35, 36, 37, 38, 39, 40, 41, 42, 43, 44, 45, 46, 47, 48, 49, 50]) (bs := [0, 3, 4]) (afts := [[], [], [], [], [], [], [], [], [], [], [], [], [], [], [], [], [], [], [], [], [], [], [], [], [], [], [], [], [], [], [], [], [], [], [], [], [], [], [], [], [], [], [], [], [], []]) (js := [0, 0, 0]) mixed (.cons rfl (.cons rfl (.cons rfl .nil))) (fun _ => rfl)
             (by
      refine dS 1 (fun γ ρ B hb hd => op_move lb (.tmp (hb 4 _ rfl))) ?_
      refine dS 2 (fun γ ρ B hb hd => op_move lb (.tmp (hb 0 _ rfl))) ?_
      refine dS 3 (fun γ ρ B hb hd => op_nilCheck lb (.tmp (hl hd 1 6 rfl)) (fun e v h => by subst h; rfl)) ?_
      refine dS 4 (fun γ ρ B hb hd => op_fieldAddr (off := 0) lb tf43_0 (.tmp (hl hd 2 7 rfl))) ?_
      refine DSteps.cons (j := 5) rfl (fun _ => rfl) (.run (fun γ ρ B hb hd => ⟨.none, OpStep.at ⟨ρ, (cvar gb_4 (rP (rW (HDR go_6 0 (List.length x_5) gc_7)) (rP (rI .i64) (rP (rI .i64) r0))) ((), (Ends_2, (Lost_3, ())))) :: B, _⟩ (setO ⟨ρ, (cvar gb_4 (rP (rW (HDR go_6 0 (List.length x_5) gc_7)) (rP (rI .i64) (rP (rI .i64) r0))) ((), (Ends_2, (Lost_3, ())))) :: B, _⟩ _ _) (op_loadW (j := 0) lb tS30 (.tmp (hl hd 3 8 rfl)) rfl (Comp.trans (Comp.self (rP (rW (HDR go_6 0 (List.length x_5) gc_7)) (rP (rI .i64) (rP (rI .i64) r0))) ((), (Ends_2, (Lost_3, ())))) (Comp.at' (Comp.inF (Comp.self (rW (HDR go_6 0 (List.length x_5) gc_7)) ()) (Nat.le_of_ble_eq_true rfl)) (by rfl : _ = 0)) (Nat.le_of_ble_eq_true rfl)))⟩)) ?_
      refine dS 6 (fun γ ρ B hb hd => op_lenH lb tu30 (.tmp (hl hd 4 9 rfl))) ?_
      refine dS 7 (fun γ ρ B hb hd => op_cmpI lb (.tmp (hl hd 0 5 rfl)) (.tmp (hl hd 5 10 rfl)) (congrArg some hv_v_10)) ?_
      refine dS 8 (fun γ ρ B hb hd => op_move lb (.tmp (hl hd 6 11 rfl))) ?_
      refine DSteps.cons (j := 9) rfl (fun _ => rfl) (.skip (fun γ ρ B hb hd => ⟨.no rfl (ltB rfl) (hl hd 7 12 rfl) hc5, rfl, rfl, rfl, fun d h => by cases h; exact ltB rfl⟩)) ?_
      refine DSteps.cons (j := 10) rfl (fun _ => rfl) (.skip (fun γ ρ B hb hd => ⟨.no rfl (ltB rfl) (hl hd 7 12 rfl) hc5, rfl, rfl, rfl, fun d h => by cases h; exact ltB rfl⟩)) ?_
      refine DSteps.cons (j := 11) rfl (fun _ => rfl) (.skip (fun γ ρ B hb hd => ⟨.no rfl (ltB rfl) (hl hd 7 12 rfl) hc5, rfl, rfl, rfl, fun d h => by cases h; exact ltB rfl⟩)) ?_
      refine DSteps.cons (j := 12) rfl (fun _ => rfl) (.skip (fun γ ρ B hb hd => ⟨.no rfl (ltB rfl) (hl hd 7 12 rfl) hc5, rfl, rfl, rfl, fun d h => by cases h; exact ltB rfl⟩)) ?_
      refine DSteps.cons (j := 13) rfl (fun _ => rfl) (.skip (fun γ ρ B hb hd => ⟨.no rfl (ltB rfl) (hl hd 7 12 rfl) hc5, rfl, rfl, rfl, fun d h => by cases h; exact ltB rfl⟩)) ?_
      refine DSteps.cons (j := 14) rfl (fun _ => rfl) (.skip (fun γ ρ B hb hd => ⟨.no rfl (ltB rfl) (hl hd 7 12 rfl) hc5, rfl, rfl, rfl, fun d h => by cases h; exact ltB rfl⟩)) ?_
      refine DSteps.cons (j := 15) rfl (fun _ => rfl) (.skip (fun γ ρ B hb hd => ⟨.no rfl (ltB rfl) (hl hd 7 12 rfl) hc5, rfl, rfl, rfl, fun d h => by cases h; exact ltB rfl⟩)) ?_
      refine DSteps.cons (j := 16) rfl (fun _ => rfl) (.skip (fun γ ρ B hb hd => ⟨.no rfl (ltB rfl) (hl hd 7 12 rfl) hc5, rfl, rfl, rfl, fun d h => by cases h; exact ltB rfl⟩)) ?_
      refine DSteps.cons (j := 17) rfl (fun _ => rfl) (.skip (fun γ ρ B hb hd => ⟨.no rfl (ltB rfl) (hl hd 7 12 rfl) hc5, rfl, rfl, rfl, fun d h => by cases h; exact ltB rfl⟩)) ?_
      refine DSteps.cons (j := 18) rfl (fun _ => rfl) (.skip (fun γ ρ B hb hd => ⟨.no rfl (ltB rfl) (hl hd 7 12 rfl) hc5, rfl, rfl, rfl, fun d h => by cases h; exact ltB rfl⟩)) ?_
      refine DSteps.cons (j := 19) rfl (fun _ => rfl) (.skip (fun γ ρ B hb hd => ⟨.no rfl (ltB rfl) (hl hd 7 12 rfl) hc5, rfl, rfl, rfl, fun d h => by cases h; exact ltB rfl⟩)) ?_
      refine DSteps.cons (j := 20) rfl (fun _ => rfl) (.skip (fun γ ρ B hb hd => ⟨.no rfl (ltB rfl) (hl hd 7 12 rfl) hc5, rfl, rfl, rfl, fun d h => by cases h; exact ltB rfl⟩)) ?_
      refine DSteps.cons (j := 21) rfl (fun _ => rfl) (.skip (fun γ ρ B hb hd => ⟨.und rfl (ltB rfl) (hl hd 19 24 rfl), rfl, rfl, rfl, fun d h => by cases h; exact ltB rfl⟩)) ?_
      refine DSteps.cons (j := 22) rfl (fun _ => rfl) (.skip (fun γ ρ B hb hd => ⟨.und rfl (ltB rfl) (hl hd 19 24 rfl), rfl, rfl, rfl, fun d h => by cases h; exact ltB rfl⟩)) ?_
      refine DSteps.cons (j := 23) rfl (fun _ => rfl) (.skip (fun γ ρ B hb hd => ⟨.und rfl (ltB rfl) (hl hd 19 24 rfl), rfl, rfl, rfl, fun d h => by cases h; exact ltB rfl⟩)) ?_
      refine DSteps.cons (j := 24) rfl (fun _ => rfl) (.skip (fun γ ρ B hb hd => ⟨.und rfl (ltB rfl) (hl hd 19 24 rfl), rfl, rfl, rfl, fun d h => by cases h; exact ltB rfl⟩)) ?_
      refine DSteps.cons (j := 25) rfl (fun _ => rfl) (.skip (fun γ ρ B hb hd => ⟨.und rfl (ltB rfl) (hl hd 19 24 rfl), rfl, rfl, rfl, fun d h => by cases h; exact ltB rfl⟩)) ?_
      refine DSteps.cons (j := 26) rfl (fun _ => rfl) (.skip (fun γ ρ B hb hd => ⟨.und rfl (ltB rfl) (hl hd 19 24 rfl), rfl, rfl, rfl, fun d h => by cases h; exact ltB rfl⟩)) ?_
      refine DSteps.cons (j := 27) rfl (fun _ => rfl) (.skip (fun γ ρ B hb hd => ⟨.und rfl (ltB rfl) (hl hd 19 24 rfl), rfl, rfl, rfl, fun d h => by cases h; exact ltB rfl⟩)) ?_
      refine DSteps.cons (j := 28) rfl (fun _ => rfl) (.skip (fun γ ρ B hb hd => ⟨.und rfl (ltB rfl) (hl hd 19 24 rfl), rfl, rfl, rfl, fun d h => by cases h; exact ltB rfl⟩)) ?_
      refine DSteps.cons (j := 29) rfl (fun _ => rfl) (.skip (fun γ ρ B hb hd => ⟨.und rfl (ltB rfl) (hl hd 19 24 rfl), rfl, rfl, rfl, fun d h => by cases h; exact ltB rfl⟩)) ?_
      refine DSteps.cons (j := 30) rfl (fun _ => rfl) (.skip (fun γ ρ B hb hd => ⟨.und rfl (ltB rfl) (hl hd 19 24 rfl), rfl, rfl, rfl, fun d h => by cases h; exact ltB rfl⟩)) ?_
      refine DSteps.cons (j := 31) rfl (fun _ => rfl) (.skip (fun γ ρ B hb hd => ⟨.und rfl (ltB rfl) (hl hd 19 24 rfl), rfl, rfl, rfl, fun d h => by cases h; exact ltB rfl⟩)) ?_
      refine DSteps.cons (j := 32) rfl (fun _ => rfl) (.skip (fun γ ρ B hb hd => ⟨.und rfl (ltB rfl) (hl hd 19 24 rfl), rfl, rfl, rfl, fun d h => by cases h; exact ltB rfl⟩)) ?_
      refine DSteps.cons (j := 33) rfl (fun _ => rfl) (.skip (fun γ ρ B hb hd => ⟨.und rfl (ltB rfl) (hl hd 31 36 rfl), rfl, rfl, rfl, fun d h => by cases h; exact ltB rfl⟩)) ?_
      refine DSteps.cons (j := 34) rfl (fun _ => rfl) (.skip (fun γ ρ B hb hd => ⟨.und rfl (ltB rfl) (hl hd 31 36 rfl), rfl, rfl, rfl, fun d h => by cases h; exact ltB rfl⟩)) ?_
      refine DSteps.cons (j := 35) rfl (fun _ => rfl) (.skip (fun γ ρ B hb hd => ⟨.und rfl (ltB rfl) (hl hd 31 36 rfl), rfl, rfl, rfl, fun d h => by cases h; exact ltB rfl⟩)) ?_
      refine DSteps.cons (j := 36) rfl (fun _ => rfl) (.skip (fun γ ρ B hb hd => ⟨.und rfl (ltB rfl) (hl hd 31 36 rfl), rfl, rfl, rfl, fun d h => by cases h; exact ltB rfl⟩)) ?_
      refine DSteps.cons (j := 37) rfl (fun _ => rfl) (.skip (fun γ ρ B hb hd => ⟨.und rfl (ltB rfl) (hl hd 31 36 rfl), rfl, rfl, rfl, fun d h => by cases h; exact ltB rfl⟩)) ?_
      refine DSteps.cons (j := 38) rfl (fun _ => rfl) (.skip (fun γ ρ B hb hd => ⟨.und rfl (ltB rfl) (hl hd 31 36 rfl), rfl, rfl, rfl, fun d h => by cases h; exact ltB rfl⟩)) ?_
      refine DSteps.cons (j := 39) rfl (fun _ => rfl) (.skip (fun γ ρ B hb hd => ⟨.und rfl (ltB rfl) (hl hd 31 36 rfl), rfl, rfl, rfl, fun d h => by cases h; exact ltB rfl⟩)) ?_
      refine DSteps.cons (j := 40) rfl (fun _ => rfl) (.skip (fun γ ρ B hb hd => ⟨.und rfl (ltB rfl) (hl hd 31 36 rfl), rfl, rfl, rfl, fun d h => by cases h; exact ltB rfl⟩)) ?_
      refine DSteps.cons (j := 41) rfl (fun _ => rfl) (.skip (fun γ ρ B hb hd => ⟨.und rfl (ltB rfl) (hl hd 31 36 rfl), rfl, rfl, rfl, fun d h => by cases h; exact ltB rfl⟩)) ?_
      refine DSteps.cons (j := 42) rfl (fun _ => rfl) (.skip (fun γ ρ B hb hd => ⟨.und rfl (ltB rfl) (hl hd 31 36 rfl), rfl, rfl, rfl, fun d h => by cases h; exact ltB rfl⟩)) ?_
      refine DSteps.cons (j := 43) rfl (fun _ => rfl) (.skip (fun γ ρ B hb hd => ⟨.und rfl (ltB rfl) (hl hd 31 36 rfl), rfl, rfl, rfl, fun d h => by cases h; exact ltB rfl⟩)) ?_
      refine DSteps.cons (j := 44) rfl (fun _ => rfl) (.skip (fun γ ρ B hb hd => ⟨.und rfl (ltB rfl) (hl hd 19 24 rfl), rfl, rfl, rfl, fun d h => by cases h; exact ltB rfl⟩)) ?_
      refine DSteps.cons (j := 45) rfl (fun _ => rfl) (.skip (fun γ ρ B hb hd => ⟨.no rfl (ltB rfl) (hl hd 7 12 rfl) hc5, rfl, rfl, rfl, fun d h => by cases h; exact ltB rfl⟩)) ?_
      refine dS 46 (fun γ ρ B hb hd => op_pickF lb (.tmp (hl hd 7 12 rfl)) hc5 .cB) ?_
      exact DSteps.nil)
             (by decide +kernel) (fun _ => rfl) rfl (fun _ => rfl) (fun _ => rfl) rfl (by decide) (by decide) (by decide +kernel) (fun _ d h => by cases h)
             (ρ' := fun γ => [(0, ov (PTR gb_4 0)), (3, ov (PTR gb_8 0)), (4, ov (S (rI .i64) x_9)), (50, ov (S rB false))])
             (X' := fun γ => [cvar gb_4 (rP (rW (HDR go_6 0 (List.length x_5) gc_7)) (rP (rI .i64) (rP (rI .i64) r0))) ((), (Ends_2, (Lost_3, ()))), cown go_6 r_api_Flight x_5 0 gc_7, cvar gb_8 r_api_Flight a_1])
             (fun γ ρ hb hd => (.cons (hb 0 _ rfl (by decide)) (.cons (hb 3 _ rfl (by decide)) (.cons (hb 4 _ rfl (by decide)) (.cons (hdq hd 45 50 rfl) .nil))))) (fun _ => rfl) (fun γ => ?_)
         refine JQ.at ⟨[(0, ov (PTR gb_4 0)), (3, ov (PTR gb_8 0)), (4, ov (S (rI .i64) x_9)), (50, ov (S rB false))], [cvar gb_4 (rP (rW (HDR go_6 0 (List.length x_5) gc_7)) (rP (rI .i64) (rP (rI .i64) r0))) ((), (Ends_2, (Lost_3, ()))), cown go_6 r_api_Flight x_5 0 gc_7, cvar gb_8 r_api_Flight a_1], []⟩ ?_
         replace hx3 := Option.some.inj hx3
         first | subst hx3 | clear hx3
         exact JQ.join () (Imp.norm (js := [0, 0, 0]) rfl (.cons rfl (.cons rfl (.cons rfl (.cons rfl .nil)))))

end Go.Proofs.Ytnadeehdnmgebaa
