/- Walks. -/
import Derived.Test.YtnadeehdnmgebaaT
import Derived.Test.YtnadeehdnmgebaaW0
import Derived.Test.YtnadeehdnmgebaaW1
import Derived.Test.YtnadeehdnmgebaaW10
import Derived.Test.YtnadeehdnmgebaaW14
import Derived.Test.YtnadeehdnmgebaaW15
import Derived.Test.YtnadeehdnmgebaaW3
import Derived.Test.YtnadeehdnmgebaaW4
import Derived.Test.YtnadeehdnmgebaaW7
namespace Go.Proofs.Ytnadeehdnmgebaa
open Go Fw
set_option linter.unusedVariables false
set_option maxRecDepth 100000
set_option maxHeartbeats 4000000

theorem sim_law12_do'2 (k : Nat) (a_1 : law12_Act) (ends_2 : Int) (lost_3 : Int) (x_5 : (List (net_pair × (List (List UInt8))))) (Ends_7 : Int) (Lost_8 : Int) (x_10 : (List api_Flight)) (gb_4 : Nat) (go_6 : Option Nat) (gb_9 : Nat) (go_11 : Option Nat) (gc_12 : Nat) (r : Bool × (List (net_pair × (List (List UInt8)))) × Int × (List api_Flight) × Int) (hm : law12_do'2 k a_1 ends_2 lost_3 x_5 Ends_7 Lost_8 x_10 = some r) : Sim Try.prog 18 [PTR gb_4 0, PTR gb_9 0, A r_law12_Act a_1] [cvar gb_4 (rP (rW (MPV go_6)) (rP (rI .i64) (rP (rI .i64) r0))) ((), (ends_2, (lost_3, ()))), cmap go_6 (A r_net_pair) (S (rL (rL (rU UInt8)))) (some x_5), cvar gb_9 (rP (rW (HDR go_11 0 (List.length x_10) gc_12)) (rP (rI .i64) (rP (rI .i64) r0))) ((), (Ends_7, (Lost_8, ()))), cown go_11 r_api_Flight x_10 0 gc_12] (γ := Option Nat × Nat) (fun q => [cvar gb_4 (rP (rW (MPV go_6)) (rP (rI .i64) (rP (rI .i64) r0))) ((), (ends_2, (r.2.2.1, ()))), cmap go_6 (A r_net_pair) (S (rL (rL (rU UInt8)))) (some r.2.1), cvar gb_9 (rP (rW (HDR q.1 0 (List.length r.2.2.2.1) q.2)) (rP (rI .i64) (rP (rI .i64) r0))) ((), (Ends_7, (r.2.2.2.2, ()))), cown q.1 r_api_Flight r.2.2.2.1 0 q.2]) (fun q => .one (.val (S rB r.1))) := by
 unfold law12_do'2 at hm
 refine Sim.of Try.func18 rfl rfl (Nat.le_of_ble_eq_true rfl) (fun e0 w0 => ?_)
 refine JC.at ⟨[(0, ov (PTR gb_4 0)), (1, ov (PTR gb_9 0)), (2, ov (A r_law12_Act a_1))], [cvar gb_4 (rP (rW (MPV go_6)) (rP (rI .i64) (rP (rI .i64) r0))) ((), (ends_2, (lost_3, ()))), cmap go_6 (A r_net_pair) (S (rL (rL (rU UInt8)))) (some x_5), cvar gb_9 (rP (rW (HDR go_11 0 (List.length x_10) gc_12)) (rP (rI .i64) (rP (rI .i64) r0))) ((), (Ends_7, (Lost_8, ()))), cown go_11 r_api_Flight x_10 0 gc_12], []⟩ ?_
 refine JC.seq ?_
 refine JC.region ?_
 refine jx (op_boxA lb (.tmp rfl)) (fun q => ?_)
 obtain ⟨gb_13, hqq⟩ : ∃ z, z = q := ⟨_, rfl⟩
 subst hqq
 refine jc (op_assign lb .cB) ?_
 refine JL.nil ?_
 refine JQ.then ?_
 replace hm := bnd_inv hm
 obtain ⟨tv1, hx1, hq1⟩ := hm
 refine JC.seqK (α := (List (net_pair × (List (List UInt8)))) × Int × (List api_Flight) × Int) (γ := Option Nat × Nat) (stj := fun v q => ⟨[], [cvar gb_4 (rP (rW (MPV go_6)) (rP (rI .i64) (rP (rI .i64) r0))) ((), (ends_2, (v.2.1, ()))), cmap go_6 (A r_net_pair) (S (rL (rL (rU UInt8)))) (some v.1), cvar gb_9 (rP (rW (HDR q.1 0 (List.length v.2.2.1) q.2)) (rP (rI .i64) (rP (rI .i64) r0))) ((), (Ends_7, (v.2.2.2, ()))), cown q.1 r_api_Flight v.2.2.1 0 q.2], []⟩) (p := fun v => tv1 = (.inl v)) (fun v q hv => ?_) ?_
 · subst hv
   obtain ⟨x_109, x_110, x_111, x_112⟩ := v
   obtain ⟨go_113, gc_114⟩ := q
   dsimp only at hq1
   refine JC.at ⟨[], [cvar gb_4 (rP (rW (MPV go_6)) (rP (rI .i64) (rP (rI .i64) r0))) ((), (ends_2, (x_110, ()))), cmap go_6 (A r_net_pair) (S (rL (rL (rU UInt8)))) (some x_109), cvar gb_9 (rP (rW (HDR go_113 0 (List.length x_111) gc_114)) (rP (rI .i64) (rP (rI .i64) r0))) ((), (Ends_7, (x_112, ()))), cown go_113 r_api_Flight x_111 0 gc_114], []⟩ ?_
   refine JC.seq ?_
   refine JC.region ?_
   refine jc (op_assign lb .cB) ?_
   refine JL.nil ?_
   refine JQ.then ?_
   refine JC.ret ?_
   replace hq1 := Option.some.inj hq1
   subst hq1
   exact JQ.done (js := [0, 0, 0, 0]) (ss := [.val (S rB true)]) (go_113, gc_114) (.inl rfl) (.nil rfl) rfl (.cons (.tmp rfl) .nil) rfl rfl rfl
 · refine JC.seq ?_
   refine JC.region ?_
   refine jc (op_fieldAddr (off := 0) lb tf33_0 (.tmp rfl)) ?_
   refine jc (op_loadS (j := 4) lb tS3 (.tmp rfl) rfl (Comp.trans (Comp.self r_law12_Act a_1) (comp_law12_Act_Kind a_1) (Nat.le_of_ble_eq_true rfl)) rfl rfl) ?_
   refine JL.nil ?_
   refine JQ.then ?_
   refine JC.block ?_
   refine JC.seq ?_
   refine JC.region ?_
   replace hx1 := lt1_inv hx1
   obtain ⟨v_14, hv_v_14, hx1⟩ := hx1
   refine jc (op_cmpI lb (.tmp rfl) .cI (congrArg some hv_v_14)) ?_
   refine jc (op_assign lb (.tmp rfl)) ?_
   refine JL.nil ?_
   refine JQ.then ?_
   replace hx1 := iteB_inv hx1
   rcases hx1 with ⟨hc2, hx1⟩ | ⟨hc2, hx1⟩
   · refine JC.condT (.tmp rfl) hc2 ?_
     refine JC.seq ?_
     refine JC.region ?_
     refine jc (op_fieldAddr (off := 3) lb tf33_3 (.tmp rfl)) ?_
     refine jc (op_loadS (j := 4) lb tS31 (.tmp rfl) rfl (Comp.trans (Comp.self r_law12_Act a_1) (comp_law12_Act_Bytes a_1) (Nat.le_of_ble_eq_true rfl)) rfl rfl) ?_
     replace hx1 := bnd_inv hx1
     obtain ⟨v_15, hv_v_15, hx1⟩ := hx1
     refine JL.pre (Imp.nilown (rU UInt8)) ?_
     refine jx (op_appendL (j := 5) lb tu31 tu31 rfl tB5 rfl (Nat.lt_of_lt_of_le Nat.zero_lt_one (Nat.le_of_ble_eq_true rfl)) (Nat.lt_of_lt_of_le Nat.zero_lt_one (Nat.le_of_ble_eq_true rfl))  rfl HasO.nilH (.tmp rfl) hv_v_15) (fun q => ?_)
     obtain ⟨go_16, gc_17⟩ := q
     refine JL.sub ⟨[(0, ov (PTR gb_4 0)), (1, ov (PTR gb_9 0)), (5, ov (PTR gb_13 0)), (23, ov (HDR go_16 0 (List.length v_15) gc_17))], [cvar gb_4 (rP (rW (MPV go_6)) (rP (rI .i64) (rP (rI .i64) r0))) ((), (ends_2, (lost_3, ()))), cmap go_6 (A r_net_pair) (S (rL (rL (rU UInt8)))) (some x_5), cvar gb_9 (rP (rW (HDR go_11 0 (List.length x_10) gc_12)) (rP (rI .i64) (rP (rI .i64) r0))) ((), (Ends_7, (Lost_8, ()))), cown go_11 r_api_Flight x_10 0 gc_12, cvar gb_13 r_law12_Act a_1, cown go_16 (rU UInt8) v_15 0 gc_17], []⟩ (.cons rfl (.cons rfl (.cons rfl (.cons rfl .nil)))) rfl rfl ?_
     refine jc (op_buildF (r := (rU UInt8)) lb tu31 tz5 tZ5 rfl (Nat.le_of_ble_eq_true rfl) (.S rfl (HasO.cU (x := (7 : UInt8)) rfl (by decide)) .nil) rfl) ?_
     replace hx1 := bnd_inv hx1
     obtain ⟨x_18, hv_x_18, hx1⟩ := hx1
     refine jx (op_appendL (j := 5) lb tu31 tu31 rfl tB5 rfl (Nat.lt_of_lt_of_le Nat.zero_lt_one (Nat.le_of_ble_eq_true rfl)) (Nat.lt_of_lt_of_le Nat.zero_lt_one (Nat.le_of_ble_eq_true rfl))  rfl (.tmp rfl) (.tmp rfl) hv_x_18) (fun q => ?_)
     obtain ⟨go_19, gc_20⟩ := q
     refine jc (op_assign lb (.tmp rfl)) ?_
     refine JL.nil ?_
     refine JQ.then ?_
     refine JC.seq ?_
     replace hx1 := bnd_inv hx1
     obtain ⟨⟨o_21, n_22⟩, hv_o_21, hx1⟩ := hx1
     replace hx1 := bnd_inv hx1
     obtain ⟨⟨v_23, x_24, x_25⟩, hv_v_23, hx1⟩ := hx1
     refine JC.anyE (kl := []) (kk := 0) (base := [(0, ov (PTR gb_4 0)), (1, ov (PTR gb_9 0)), (5, ov (PTR gb_13 0)), (7, ov (HDR go_19 0 (List.length x_18) gc_20))])
         (fs := fun γ => [⟨some 26, ov (PTR gb_4 0)⟩, ⟨some 27, ov (PTR gb_13 (0 + 1))⟩, ⟨some 28, ov (S (rI .i64) a_1.A)⟩, ⟨some 29, ov (PTR gb_13 (0 + 2))⟩, ⟨some 30, ov (S (rI .i64) a_1.B)⟩, ⟨some 31, ov (HDR go_19 0 (List.length x_18) gc_20)⟩, ⟨some 32, ov (PTR gb_13 (0 + 3))⟩, ⟨some 33, ov (S (rL (rU UInt8)) a_1.Bytes)⟩, ⟨some 34, ov (S (rI .i64) (List.length a_1.Bytes : Int))⟩, ⟨some 35, ov (HDX go_19 (o_21 * 1) n_22)⟩, ⟨some 36, ov (S (rI .i64) v_23)⟩, ⟨some 8, ov (S (rI .i64) v_23)⟩])
         (rs := fun γ => [⟨cvar gb_4 (rP (rW (MPV go_6)) (rP (rI .i64) (rP (rI .i64) r0))) ((), (ends_2, (lost_3, ()))), none, (some 10), []⟩, ⟨cmap go_6 (A r_net_pair) (S (rL (rL (rU UInt8)))) (some x_5), none, (some 10), []⟩, ⟨cvar gb_9 (rP (rW (HDR go_11 0 (List.length x_10) gc_12)) (rP (rI .i64) (rP (rI .i64) r0))) ((), (Ends_7, (Lost_8, ()))), none, none, []⟩, ⟨cown go_11 r_api_Flight x_10 0 gc_12, none, none, []⟩, ⟨cvar gb_13 r_law12_Act a_1, none, none, [2, 4, 7]⟩, ⟨cown go_19 (rU UInt8) x_18 0 gc_20, none, none, [9, 10]⟩, ⟨cvar gb_4 (rP (rW (MPV go_6)) (rP (rI .i64) (rP (rI .i64) r0))) ((), (ends_2, (x_25, ()))), (some 10), none, []⟩, ⟨cmap go_6 (A r_net_pair) (S (rL (rL (rU UInt8)))) (some (x_24)), (some 10), none, []⟩])
         (ds := [26, 27, 28, 29, 30, 31, 32, 33, 34, 35, 36, 8]) (bs := [0, 1, 5, 7]) (afts := [[], [], [], [], [], [], [], [], [], [], [], []]) (js := [0, 0, 0, 0, 0, 0]) mixed (.cons rfl (.cons rfl (.cons rfl (.cons rfl .nil)))) (fun _ => rfl)
         (by
      refine dS 1 (fun γ ρ B hb hd => op_move lb (.tmp (hb 0 _ rfl))) ?_
      refine dS 2 (fun γ ρ B hb hd => op_fieldAddr (off := 1) lb tf33_1 (.tmp (hb 5 _ rfl))) ?_
      refine DSteps.cons (j := 3) rfl (fun _ => rfl) (.run (fun γ ρ B hb hd => ⟨.none, OpStep.at ⟨ρ, (cvar gb_13 r_law12_Act a_1) :: B, _⟩ (setO ⟨ρ, (cvar gb_13 r_law12_Act a_1) :: B, _⟩ _ _) (op_loadS (j := 0) lb tS3 (.tmp (hl hd 1 27 rfl)) rfl (Comp.trans (Comp.self r_law12_Act a_1) (comp_law12_Act_A a_1) (Nat.le_of_ble_eq_true rfl)) rfl rfl)⟩)) ?_
      refine dS 4 (fun γ ρ B hb hd => op_fieldAddr (off := 2) lb tf33_2 (.tmp (hb 5 _ rfl))) ?_
      refine DSteps.cons (j := 5) rfl (fun _ => rfl) (.run (fun γ ρ B hb hd => ⟨.none, OpStep.at ⟨ρ, (cvar gb_13 r_law12_Act a_1) :: B, _⟩ (setO ⟨ρ, (cvar gb_13 r_law12_Act a_1) :: B, _⟩ _ _) (op_loadS (j := 0) lb tS3 (.tmp (hl hd 3 29 rfl)) rfl (Comp.trans (Comp.self r_law12_Act a_1) (comp_law12_Act_B a_1) (Nat.le_of_ble_eq_true rfl)) rfl rfl)⟩)) ?_
      refine dS 6 (fun γ ρ B hb hd => op_move lb (.tmp (hb 7 _ rfl))) ?_
      refine dS 7 (fun γ ρ B hb hd => op_fieldAddr (off := 3) lb tf33_3 (.tmp (hb 5 _ rfl))) ?_
      refine DSteps.cons (j := 8) rfl (fun _ => rfl) (.run (fun γ ρ B hb hd => ⟨.none, OpStep.at ⟨ρ, (cvar gb_13 r_law12_Act a_1) :: B, _⟩ (setO ⟨ρ, (cvar gb_13 r_law12_Act a_1) :: B, _⟩ _ _) (op_loadS (j := 0) lb tS31 (.tmp (hl hd 6 32 rfl)) rfl (Comp.trans (Comp.self r_law12_Act a_1) (comp_law12_Act_Bytes a_1) (Nat.le_of_ble_eq_true rfl)) rfl rfl)⟩)) ?_
      refine dS 9 (fun γ ρ B hb hd => op_lenL lb tu31 (.tmp (hl hd 7 33 rfl))) ?_
      refine DSteps.cons (j := 10) rfl (fun _ => rfl) (.run (fun γ ρ B hb hd => ⟨.none, OpStep.at ⟨ρ, (cown go_19 (rU UInt8) x_18 0 gc_20) :: B, _⟩ (setO ⟨ρ, (cown go_19 (rU UInt8) x_18 0 gc_20) :: B, _⟩ _ _) (op_sliceE (r := (rU UInt8)) (j := 0) lb tu31 tz5 rfl (HasO.wk (q := HDE go_19 (List.length x_18) gc_20) (.tmp (hl hd 5 31 rfl)) wkTE) .none (.some (.tmp (hl hd 8 34 rfl))) hv_o_21)⟩)) ?_
      refine DSteps.cons (j := 11) rfl (fun _ => rfl) (.run (fun γ ρ B hb hd => ⟨.none, OpStep.at ⟨ρ, (cvar gb_4 (rP (rW (MPV go_6)) (rP (rI .i64) (rP (rI .i64) r0))) ((), (ends_2, (lost_3, ())))) :: (cmap go_6 (A r_net_pair) (S (rL (rL (rU UInt8)))) (some x_5)) :: (cown go_19 (rU UInt8) x_18 0 gc_20) :: B, _⟩ (setO ⟨ρ, (cvar gb_4 (rP (rW (MPV go_6)) (rP (rI .i64) (rP (rI .i64) r0))) ((), (ends_2, (x_25, ())))) :: (cmap go_6 (A r_net_pair) (S (rL (rL (rU UInt8)))) (some (x_24))) :: (cown go_19 (rU UInt8) x_18 0 gc_20) :: B, _⟩ _ _) ((op_call (js := [0, 0, 0]) ld cl13 (sim_net_Net_Send'2 k a_1.A a_1.B o_21 n_22 ends_2 lost_3 x_5 x_18 gb_4 go_6 go_19 gc_20 (v_23, x_24, x_25) hv_v_23) .func (.cons (.tmp (hl hd 0 26 rfl)) (.cons (.tmp (hl hd 2 28 rfl)) (.cons (.tmp (hl hd 4 30 rfl)) (.cons (.tmp (hl hd 9 35 rfl)) .nil)))) rfl).post (fun _ => Imp.pick (js := [0, 0, 0]) rfl rfl))⟩)) ?_
      refine dS 12 (fun γ ρ B hb hd => op_assign lb (.tmp (hl hd 10 36 rfl))) ?_
      exact DSteps.nil)
         (by decide +kernel) (fun _ => rfl) rfl (fun _ => rfl) (fun _ => rfl) rfl (by decide) (by decide) (by decide +kernel) (fun _ d h => by cases h)
         (ρ' := fun γ => [(1, ov (PTR gb_9 0)), (5, ov (PTR gb_13 0)), (7, ov (HDR go_19 0 (List.length x_18) gc_20)), (8, ov (S (rI .i64) v_23))])
         (X' := fun γ => [cvar gb_9 (rP (rW (HDR go_11 0 (List.length x_10) gc_12)) (rP (rI .i64) (rP (rI .i64) r0))) ((), (Ends_7, (Lost_8, ()))), cown go_11 r_api_Flight x_10 0 gc_12, cvar gb_13 r_law12_Act a_1, cown go_19 (rU UInt8) x_18 0 gc_20, cvar gb_4 (rP (rW (MPV go_6)) (rP (rI .i64) (rP (rI .i64) r0))) ((), (ends_2, (x_25, ()))), cmap go_6 (A r_net_pair) (S (rL (rL (rU UInt8)))) (some (x_24))])
         (fun γ ρ hb hd => (.cons (hb 1 _ rfl (by decide)) (.cons (hb 5 _ rfl (by decide)) (.cons (hb 7 _ rfl (by decide)) (.cons (hdq hd 11 8 rfl) .nil))))) (fun _ => rfl) (fun γ => ?_)
     refine JQ.at ⟨[(1, ov (PTR gb_9 0)), (5, ov (PTR gb_13 0)), (7, ov (HDR go_19 0 (List.length x_18) gc_20)), (8, ov (S (rI .i64) v_23))], [cvar gb_9 (rP (rW (HDR go_11 0 (List.length x_10) gc_12)) (rP (rI .i64) (rP (rI .i64) r0))) ((), (Ends_7, (Lost_8, ()))), cown go_11 r_api_Flight x_10 0 gc_12, cvar gb_13 r_law12_Act a_1, cown go_19 (rU UInt8) x_18 0 gc_20, cvar gb_4 (rP (rW (MPV go_6)) (rP (rI .i64) (rP (rI .i64) r0))) ((), (ends_2, (x_25, ()))), cmap go_6 (A r_net_pair) (S (rL (rL (rU UInt8)))) (some (x_24))], []⟩ ?_
     refine JQ.then ?_
     replace hx1 := bnd_inv hx1
     obtain ⟨_, hx3, hq3⟩ := hx1
     refine JC.seqJ (γ := Unit) (stj := fun q => ⟨[(1, ov (PTR gb_9 0)), (5, ov (PTR gb_13 0)), (8, ov (S (rI .i64) v_23))], [cvar gb_9 (rP (rW (HDR go_11 0 (List.length x_10) gc_12)) (rP (rI .i64) (rP (rI .i64) r0))) ((), (Ends_7, (Lost_8, ()))), cown go_11 r_api_Flight x_10 0 gc_12, cvar gb_13 r_law12_Act a_1, cvar gb_4 (rP (rW (MPV go_6)) (rP (rI .i64) (rP (rI .i64) r0))) ((), (ends_2, (x_25, ()))), cmap go_6 (A r_net_pair) (S (rL (rL (rU UInt8)))) (some (x_24))], []⟩) (fun q => ?_) ?_
     · obtain _ := q
       refine JC.at ⟨[(1, ov (PTR gb_9 0)), (5, ov (PTR gb_13 0)), (8, ov (S (rI .i64) v_23))], [cvar gb_9 (rP (rW (HDR go_11 0 (List.length x_10) gc_12)) (rP (rI .i64) (rP (rI .i64) r0))) ((), (Ends_7, (Lost_8, ()))), cown go_11 r_api_Flight x_10 0 gc_12, cvar gb_13 r_law12_Act a_1, cvar gb_4 (rP (rW (MPV go_6)) (rP (rI .i64) (rP (rI .i64) r0))) ((), (ends_2, (x_25, ()))), cmap go_6 (A r_net_pair) (S (rL (rL (rU UInt8)))) (some (x_24))], []⟩ ?_
       refine JC.seq ?_
       replace hq3 := bnd_inv hq3
       obtain ⟨_, hv_u_32, hq3⟩ := hq3
       replace hq3 := bnd_inv hq3
       obtain ⟨⟨v_33, x_34, x_35⟩, hv_v_33, hq3⟩ := hq3
       replace hq3 := lt1_inv hq3
       obtain ⟨v_38, hv_v_38, hq3⟩ := hq3
       refine JC.anyE (kl := []) (kk := 0) (base := [(1, ov (PTR gb_9 0)), (5, ov (PTR gb_13 0)), (8, ov (S (rI .i64) v_23))])
           (fs := fun γ => [⟨some 46, ov (S (rI .i64) v_23)⟩, ⟨some 47, ov (S (rI .i64) v_23)⟩, ⟨some 48, ov (PTR gb_9 0)⟩, ⟨some 49, ov (PTR gb_13 (0 + 1))⟩, ⟨some 50, ov (S (rI .i64) a_1.A)⟩, ⟨some 51, ov (PTR gb_13 (0 + 2))⟩, ⟨some 52, ov (S (rI .i64) a_1.B)⟩, ⟨some 53, ov (PTR gb_13 (0 + 3))⟩, ⟨some 54, ov (S (rL (rU UInt8)) a_1.Bytes)⟩, ⟨some 55, ov (S (rI .i64) v_33)⟩, ⟨some 56, ov (S rB v_38)⟩, ⟨some 6, ov (S rB v_38)⟩])
           (rs := fun γ => [⟨cvar gb_9 (rP (rW (HDR go_11 0 (List.length x_10) gc_12)) (rP (rI .i64) (rP (rI .i64) r0))) ((), (Ends_7, (Lost_8, ()))), none, (some 9), []⟩, ⟨cown go_11 r_api_Flight x_10 0 gc_12, none, (some 9), []⟩, ⟨cvar gb_13 r_law12_Act a_1, none, none, [4, 6, 8]⟩, ⟨cvar gb_4 (rP (rW (MPV go_6)) (rP (rI .i64) (rP (rI .i64) r0))) ((), (ends_2, (x_25, ()))), none, none, []⟩, ⟨cmap go_6 (A r_net_pair) (S (rL (rL (rU UInt8)))) (some (x_24)), none, none, []⟩, ⟨cvar gb_9 (rP (rW (HDR (deo (γ 9 0)) 0 (List.length x_34) (γ 9 1))) (rP (rI .i64) (rP (rI .i64) r0))) ((), (Ends_7, (x_35, ()))), (some 9), none, []⟩, ⟨cown (deo (γ 9 0)) r_api_Flight x_34 0 (γ 9 1), (some 9), none, []⟩])
           (ds := [46, 47, 48, 49, 50, 51, 52, 53, 54, 55, 56, 6]) (bs := [1, 5, 8]) (afts := [[], [], [], [], [], [], [], [], [], [9, 10, 11], [], []]) (js := [0, 0, 0, 0, 0]) mixed (.cons rfl (.cons rfl (.cons rfl .nil))) (fun _ => rfl)
           (by
      refine dS 1 (fun γ ρ B hb hd => op_move lb (.tmp (hb 8 _ rfl))) ?_
      refine dS 2 (fun γ ρ B hb hd => (op_call (js := []) ld cl12 (sim_law12_num k v_23 () hv_u_32) .func (.cons (.tmp (hl hd 0 46 rfl)) .nil) rfl).post (fun _ => Imp.refl)) ?_
      refine dS 3 (fun γ ρ B hb hd => op_move lb (.tmp (hb 1 _ rfl))) ?_
      refine dS 4 (fun γ ρ B hb hd => op_fieldAddr (off := 1) lb tf33_1 (.tmp (hb 5 _ rfl))) ?_
      refine DSteps.cons (j := 5) rfl (fun _ => rfl) (.run (fun γ ρ B hb hd => ⟨.none, OpStep.at ⟨ρ, (cvar gb_13 r_law12_Act a_1) :: B, _⟩ (setO ⟨ρ, (cvar gb_13 r_law12_Act a_1) :: B, _⟩ _ _) (op_loadS (j := 0) lb tS3 (.tmp (hl hd 3 49 rfl)) rfl (Comp.trans (Comp.self r_law12_Act a_1) (comp_law12_Act_A a_1) (Nat.le_of_ble_eq_true rfl)) rfl rfl)⟩)) ?_
      refine dS 6 (fun γ ρ B hb hd => op_fieldAddr (off := 2) lb tf33_2 (.tmp (hb 5 _ rfl))) ?_
      refine DSteps.cons (j := 7) rfl (fun _ => rfl) (.run (fun γ ρ B hb hd => ⟨.none, OpStep.at ⟨ρ, (cvar gb_13 r_law12_Act a_1) :: B, _⟩ (setO ⟨ρ, (cvar gb_13 r_law12_Act a_1) :: B, _⟩ _ _) (op_loadS (j := 0) lb tS3 (.tmp (hl hd 5 51 rfl)) rfl (Comp.trans (Comp.self r_law12_Act a_1) (comp_law12_Act_B a_1) (Nat.le_of_ble_eq_true rfl)) rfl rfl)⟩)) ?_
      refine dS 8 (fun γ ρ B hb hd => op_fieldAddr (off := 3) lb tf33_3 (.tmp (hb 5 _ rfl))) ?_
      refine DSteps.cons (j := 9) rfl (fun _ => rfl) (.run (fun γ ρ B hb hd => ⟨.none, OpStep.at ⟨ρ, (cvar gb_13 r_law12_Act a_1) :: B, _⟩ (setO ⟨ρ, (cvar gb_13 r_law12_Act a_1) :: B, _⟩ _ _) (op_loadS (j := 0) lb tS31 (.tmp (hl hd 7 53 rfl)) rfl (Comp.trans (Comp.self r_law12_Act a_1) (comp_law12_Act_Bytes a_1) (Nat.le_of_ble_eq_true rfl)) rfl rfl)⟩)) ?_
      refine DSteps.cons (j := 10) rfl (fun _ => rfl) (.runX (fun _ _ => rfl) (fun γ ρ B hb hd => ⟨.none, OpX.ghost (γ := Option Nat × Nat) (st' := fun q => setO ⟨ρ, (cvar gb_9 (rP (rW (HDR q.1 0 (List.length x_34) q.2)) (rP (rI .i64) (rP (rI .i64) r0))) ((), (Ends_7, (x_35, ())))) :: (cown q.1 r_api_Flight x_34 0 q.2) :: B, _⟩ (some 55) (ov (S (rI .i64) v_33))) (fun q c => bif Nat.beq c 0 then eno q.1 else q.2) (op_call (js := [0, 0]) ld cl34 (sim_ref12_Net_Send'2 k a_1.A a_1.B a_1.Bytes Ends_7 Lost_8 x_10 gb_9 go_11 gc_12 (v_33, x_34, x_35) hv_v_33) .func (.cons (.tmp (hl hd 2 48 rfl)) (.cons (.tmp (hl hd 4 50 rfl)) (.cons (.tmp (hl hd 6 52 rfl)) (.cons (.tmp (hl hd 8 54 rfl)) .nil)))) rfl) (fun q => by obtain ⟨q0, q1⟩ := q; cases q0 <;> exact Imp.refl)⟩) (fun _ _ => rfl) (fun _ _ => rfl)) ?_
      refine dS 11 (fun γ ρ B hb hd => op_cmpI lb (.tmp (hl hd 1 47 rfl)) (.tmp (hl hd 9 55 rfl)) (congrArg some hv_v_38)) ?_
      refine dS 12 (fun γ ρ B hb hd => op_assign lb (.tmp (hl hd 10 56 rfl))) ?_
      exact DSteps.nil)
           (by decide +kernel) (fun _ => rfl) rfl (fun _ => rfl) (fun _ => rfl) rfl (by decide) (by decide) (by decide +kernel) (fun _ d h => by cases h)
           (ρ' := fun γ => [(6, ov (S rB v_38))])
           (X' := fun γ => [cvar gb_13 r_law12_Act a_1, cvar gb_4 (rP (rW (MPV go_6)) (rP (rI .i64) (rP (rI .i64) r0))) ((), (ends_2, (x_25, ()))), cmap go_6 (A r_net_pair) (S (rL (rL (rU UInt8)))) (some (x_24)), cvar gb_9 (rP (rW (HDR (deo (γ 9 0)) 0 (List.length x_34) (γ 9 1))) (rP (rI .i64) (rP (rI .i64) r0))) ((), (Ends_7, (x_35, ()))), cown (deo (γ 9 0)) r_api_Flight x_34 0 (γ 9 1)])
           (fun γ ρ hb hd => (.cons (hdq hd 11 6 rfl) .nil)) (fun _ => rfl) (fun γ => ?_)
       generalize (deo (γ 9 0)) = go_36
       generalize (γ 9 1) = gc_37
       clear γ
       refine JQ.at ⟨[(6, ov (S rB v_38))], [cvar gb_13 r_law12_Act a_1, cvar gb_4 (rP (rW (MPV go_6)) (rP (rI .i64) (rP (rI .i64) r0))) ((), (ends_2, (x_25, ()))), cmap go_6 (A r_net_pair) (S (rL (rL (rU UInt8)))) (some (x_24)), cvar gb_9 (rP (rW (HDR go_36 0 (List.length x_34) gc_37)) (rP (rI .i64) (rP (rI .i64) r0))) ((), (Ends_7, (x_35, ()))), cown go_36 r_api_Flight x_34 0 gc_37], []⟩ ?_
       refine JQ.then ?_
       refine JC.ret ?_
       refine JQ.outRB ?_
       replace hq3 := Option.some.inj hq3
       first | subst hq3 | clear hq3
       dsimp only at hq1
       refine JQ.outR ?_
       replace hq1 := Option.some.inj hq1
       subst hq1
       exact JQ.done (js := [1, 1, 1, 1]) (ss := [.val (S rB v_38)]) (go_36, gc_37) (.inl rfl) (.nil rfl) rfl (.cons (.tmp rfl) .nil) rfl rfl rfl
     · refine JC.seq ?_
       refine JC.region ?_
       refine jc (op_assign lb .cI) ?_
       refine JL.nil ?_
       refine JQ.then ?_
       refine JC.block ?_
       refine JC.pre (Imp.var (j := 0) (q := (rP (rW (HDR go_11 0 (List.length x_10) gc_12)) (rP (rI .i64) (rP (rI .i64) r0)))) (y := ((), (Ends_7, (Lost_8, ())))) rfl Wk.refl) ?_
       refine JC.pre ?_ (JC.loop (γ := Unit) (stf := fun s q => ⟨[(1, ov (PTR gb_9 0)), (5, ov (PTR gb_13 0)), (7, ov (HDR go_19 0 (List.length s.1) gc_20)), (8, ov (S (rI .i64) v_23)), (9, ov (S (rI .i64) s.2))], [cvar gb_9 (rP (rW (HDR go_11 0 (List.length x_10) gc_12)) (rP (rI .i64) (rP (rI .i64) r0))) ((), (Ends_7, (Lost_8, ()))), cown go_11 r_api_Flight x_10 0 gc_12, cvar gb_13 r_law12_Act a_1, cown go_19 (rU UInt8) s.1 0 gc_20, cvar gb_4 (rP (rW (MPV go_6)) (rP (rI .i64) (rP (rI .i64) r0))) ((), (ends_2, (x_25, ()))), cmap go_6 (A r_net_pair) (S (rL (rL (rU UInt8)))) (some (x_24))], []⟩) (q := ()) hx3 ?_)
       · exact (Imp.norm (js := [0, 0, 0, 0, 0, 0]) rfl (.cons rfl (.cons rfl (.cons rfl (.cons rfl (.cons rfl .nil))))))
       · intro s q x hx hr
         obtain ⟨x_26, x_27⟩ := s
         obtain _ := q
         change law12_do'2.b1 k x_26 x_27 = some x at hx
         unfold law12_do'2.b1 at hx
         refine JC.at ⟨[(1, ov (PTR gb_9 0)), (5, ov (PTR gb_13 0)), (7, ov (HDR go_19 0 (List.length x_26) gc_20)), (8, ov (S (rI .i64) v_23)), (9, ov (S (rI .i64) x_27))], [cvar gb_9 (rP (rW (HDR go_11 0 (List.length x_10) gc_12)) (rP (rI .i64) (rP (rI .i64) r0))) ((), (Ends_7, (Lost_8, ()))), cown go_11 r_api_Flight x_10 0 gc_12, cvar gb_13 r_law12_Act a_1, cown go_19 (rU UInt8) x_26 0 gc_20, cvar gb_4 (rP (rW (MPV go_6)) (rP (rI .i64) (rP (rI .i64) r0))) ((), (ends_2, (x_25, ()))), cmap go_6 (A r_net_pair) (S (rL (rL (rU UInt8)))) (some (x_24))], []⟩ ?_
         refine JC.seq ?_
         refine JC.seq ?_
         refine JC.region ?_
         refine jc (op_move lb (.tmp rfl)) ?_
         refine jc (op_move lb (.tmp rfl)) ?_
         refine jc (op_lenH lb tu31 (.tmp rfl)) ?_
         replace hx := lt1_inv hx
         obtain ⟨v_28, hv_v_28, hx⟩ := hx
         refine jc (op_cmpI lb (.tmp rfl) (.tmp rfl) (congrArg some hv_v_28)) ?_
         refine JL.nil ?_
         refine JQ.then ?_
         replace hx := iteB_inv hx
         rcases hx with ⟨hc5, hx⟩ | ⟨hc5, hx⟩
         · refine JC.condT (.tmp rfl) hc5 ?_
           refine JC.skip ?_
           refine JQ.then ?_
           refine JC.seq ?_
           refine JC.block ?_
           refine JC.region ?_
           refine jc (op_move lb (.tmp rfl)) ?_
           refine jc (op_move lb (.tmp rfl)) ?_
           replace hx := bnd_inv hx
           obtain ⟨i_29, hv_i_29, hx⟩ := hx
           refine jc (op_indexAddrOF (r := (rU UInt8)) (j := 3) lb tu31 tz5 rfl (.tmp rfl) (.tmp rfl) hv_i_29) ?_
           replace hx := bnd_inv hx
           obtain ⟨x_30, hv_x_30, hx⟩ := hx
           refine jc (op_storeOSg (r := (rU UInt8)) (j := 3) tS5 rfl rfl (.tmp rfl) (HasO.cU (x := (9 : UInt8)) rfl (by decide)) hv_x_30) ?_
           refine JL.pre (Imp.slot (s := 7) (q := HDR go_19 0 (List.length x_30) gc_20) rfl (wkLen (setO'_len hv_x_30))) ?_
           refine JL.pre (Imp.slot (s := 38) (q := HDR go_19 0 (List.length x_30) gc_20) rfl (wkLen (setO'_len hv_x_30))) ?_
           refine JL.pre (Imp.slot (s := 43) (q := HDR go_19 0 (List.length x_30) gc_20) rfl (wkLen (setO'_len hv_x_30))) ?_
           refine JL.nil ?_
           refine JQ.outNB ?_
           refine JQ.then ?_
           refine JC.region ?_
           refine jc (op_move lb (.tmp rfl)) ?_
           replace hx := lt1_inv hx
           obtain ⟨v_31, hv_v_31, hx⟩ := hx
           refine jc (op_arI lb (.tmp rfl) .cI (congrArg some hv_v_31)) ?_
           refine JL.sub ⟨[(1, ov (PTR gb_9 0)), (5, ov (PTR gb_13 0)), (7, ov (HDR go_19 0 (List.length x_30) gc_20)), (8, ov (S (rI .i64) v_23)), (9, ov (S (rI .i64) x_27)), (42, ov (S (rI .i64) v_31))], [cvar gb_9 (rP (rW (HDR go_11 0 (List.length x_10) gc_12)) (rP (rI .i64) (rP (rI .i64) r0))) ((), (Ends_7, (Lost_8, ()))), cown go_11 r_api_Flight x_10 0 gc_12, cvar gb_13 r_law12_Act a_1, cown go_19 (rU UInt8) x_30 0 gc_20, cvar gb_4 (rP (rW (MPV go_6)) (rP (rI .i64) (rP (rI .i64) r0))) ((), (ends_2, (x_25, ()))), cmap go_6 (A r_net_pair) (S (rL (rL (rU UInt8)))) (some (x_24))], []⟩ (.cons rfl (.cons rfl (.cons rfl (.cons rfl (.cons rfl (.cons rfl .nil)))))) rfl rfl ?_
           refine jc (op_assign lb (.tmp rfl)) ?_
           refine JL.nil ?_
           replace hx := Option.some.inj hx
           first | subst hx | clear hx
           exact JQ.next () rfl (Imp.norm (js := [0, 0, 0, 0, 0, 0]) rfl (.cons rfl (.cons rfl (.cons rfl (.cons rfl (.cons rfl .nil))))))
         · refine JC.condF (.tmp rfl) hc5 ?_
           refine JC.exit ?_
           refine JQ.outX ?_
           replace hx := Option.some.inj hx
           first | subst hx | clear hx
           have ht := hr _ rfl
           have hq4 := congrArg some ht
           clear hr ht
           refine JQ.outX ?_
           refine JQ.here ?_
           exact JQ.join () (Imp.norm (js := [0, 0, 0, 1, 1]) rfl (.cons rfl (.cons rfl (.cons rfl .nil))))
   · refine JC.condF (.tmp rfl) hc2 ?_
     refine JC.seq ?_
     refine JC.region ?_
     replace hx1 := lt1_inv hx1
     obtain ⟨v_39, hv_v_39, hx1⟩ := hx1
     refine jc (op_cmpI lb (.tmp rfl) .cI (congrArg some hv_v_39)) ?_
     refine jc (op_assign lb (.tmp rfl)) ?_
     refine JL.nil ?_
     refine JQ.then ?_
     replace hx1 := iteB_inv hx1
     rcases hx1 with ⟨hc6, hx1⟩ | ⟨hc6, hx1⟩
     · refine JC.condT (.tmp rfl) hc6 ?_
       refine JC.seq ?_
       refine JC.region ?_
       refine jc (op_move lb (.tmp rfl)) ?_
       refine jc (op_fieldAddr (off := 1) lb tf33_1 (.tmp rfl)) ?_
       refine JL.sub ⟨[(1, ov (PTR gb_9 0)), (5, ov (PTR gb_13 0)), (60, ov (PTR gb_4 0)), (61, ov (PTR gb_13 (0 + 1)))], [cvar gb_4 (rP (rW (MPV go_6)) (rP (rI .i64) (rP (rI .i64) r0))) ((), (ends_2, (lost_3, ()))), cmap go_6 (A r_net_pair) (S (rL (rL (rU UInt8)))) (some x_5), cvar gb_9 (rP (rW (HDR go_11 0 (List.length x_10) gc_12)) (rP (rI .i64) (rP (rI .i64) r0))) ((), (Ends_7, (Lost_8, ()))), cown go_11 r_api_Flight x_10 0 gc_12, cvar gb_13 r_law12_Act a_1], []⟩ (.cons rfl (.cons rfl (.cons rfl (.cons rfl .nil)))) rfl rfl ?_
       refine jc (op_loadS (j := 4) lb tS3 (.tmp rfl) rfl (Comp.trans (Comp.self r_law12_Act a_1) (comp_law12_Act_A a_1) (Nat.le_of_ble_eq_true rfl)) rfl rfl) ?_
       replace hx1 := bnd_inv hx1
       obtain ⟨⟨v_40, v_41, x_42⟩, hv_v_40, hx1⟩ := hx1
       refine jx (op_call (js := [0, 0]) ld cl15 (sim_net_Net_Take'2 k a_1.A ends_2 lost_3 x_5 gb_4 go_6 (v_40, v_41, x_42) hv_v_40) .func (.cons (.tmp rfl) (.cons (.tmp rfl) .nil)) rfl) (fun _ => ?_)
       refine jc (op_move lb (.tmp rfl)) ?_
       refine jc (op_extract (i := 0) lb (.tmp rfl) rfl) ?_
       refine jc (op_extract (i := 1) lb (.tmp rfl) rfl) ?_
       refine jx (op_alloc lb tZ36 zr36) (fun q => ?_)
       obtain ⟨gb_43, hqq⟩ : ∃ z, z = q := ⟨_, rfl⟩
       subst hqq
       refine jc (op_storeA (j := 5) tA36 (.tmp rfl) (.tmp rfl) rfl (UpdR.self (by rfl)) rfl) ?_
       refine JL.sub ⟨[(1, ov (PTR gb_9 0)), (5, ov (PTR gb_13 0)), (10, ov (PTR gb_43 0)), (65, ov (S (rI .i64) v_41))], [cvar gb_4 (rP (rW (MPV go_6)) (rP (rI .i64) (rP (rI .i64) r0))) ((), (ends_2, (lost_3, ()))), cmap go_6 (A r_net_pair) (S (rL (rL (rU UInt8)))) (some (x_42)), cvar gb_9 (rP (rW (HDR go_11 0 (List.length x_10) gc_12)) (rP (rI .i64) (rP (rI .i64) r0))) ((), (Ends_7, (Lost_8, ()))), cown go_11 r_api_Flight x_10 0 gc_12, cvar gb_13 r_law12_Act a_1, cvar gb_43 r_api_Flight v_40], []⟩ (.cons rfl (.cons rfl (.cons rfl (.cons rfl .nil)))) rfl rfl ?_
       refine jc (op_assign lb (.tmp rfl)) ?_
       refine JL.nil ?_
       refine JQ.then ?_
       refine JC.seq ?_
       refine JC.region ?_
       refine jc (op_move lb (.tmp rfl)) ?_
       refine jc (op_fieldAddr (off := 1) lb tf33_1 (.tmp rfl)) ?_
       refine jc (op_loadS (j := 4) lb tS3 (.tmp rfl) rfl (Comp.trans (Comp.self r_law12_Act a_1) (comp_law12_Act_A a_1) (Nat.le_of_ble_eq_true rfl)) rfl rfl) ?_
       replace hx1 := bnd_inv hx1
       obtain ⟨⟨v_44, v_45, x_46⟩, hv_v_44, hx1⟩ := hx1
       refine jx (op_call (js := [2, 2]) ld cl35 (sim_ref12_Net_Take'2 k a_1.A Ends_7 Lost_8 x_10 gb_9 go_11 gc_12 (v_44, v_45, x_46) hv_v_44) .func (.cons (.tmp rfl) (.cons (.tmp rfl) .nil)) rfl) (fun q => ?_)
       obtain ⟨go_47, gc_48⟩ := q
       refine jc (op_move lb (.tmp rfl)) ?_
       refine jc (op_extract (i := 0) lb (.tmp rfl) rfl) ?_
       refine jc (op_extract (i := 1) lb (.tmp rfl) rfl) ?_
       refine jx (op_alloc lb tZ36 zr36) (fun q => ?_)
       obtain ⟨gb_49, hqq⟩ : ∃ z, z = q := ⟨_, rfl⟩
       subst hqq
       refine JL.nrm ⟨[(10, ov (PTR gb_43 0)), (11, ov (S (rI .i64) v_41)), (12, ov (PTR gb_49 0)), (71, ov (A r_api_Flight v_44)), (72, ov (S (rI .i64) v_45))], [cvar gb_9 (rP (rW (HDR go_47 0 (List.length x_46) gc_48)) (rP (rI .i64) (rP (rI .i64) r0))) ((), (Ends_7, (Lost_8, ()))), cown go_47 r_api_Flight x_46 0 gc_48, cvar gb_4 (rP (rW (MPV go_6)) (rP (rI .i64) (rP (rI .i64) r0))) ((), (ends_2, (lost_3, ()))), cmap go_6 (A r_net_pair) (S (rL (rL (rU UInt8)))) (some (x_42)), cvar gb_43 r_api_Flight v_40, cvar gb_49 (rP (rI .i64) (rP (rI .i64) (rP (rW (HDR none 0 0 0)) r0))) ((0 : Int), ((0 : Int), ((), ())))], []⟩ [0, 0, 0, 0, 1, 1] rfl (.cons rfl (.cons rfl (.cons rfl (.cons rfl (.cons rfl .nil))))) rfl ?_
       refine jc (op_storeA (j := 5) tA36 (.tmp rfl) (.tmp rfl) rfl (UpdR.self (by rfl)) rfl) ?_
       refine jc (op_assign lb (.tmp rfl)) ?_
       refine JL.nil ?_
       refine JQ.then ?_
       replace hx1 := bnd_inv hx1
       obtain ⟨x_54, hx7, hq7⟩ := hx1
       refine JC.seqJ (γ := Unit) (stj := fun q => ⟨[(6, ov (S rB x_54))], [cvar gb_4 (rP (rW (MPV go_6)) (rP (rI .i64) (rP (rI .i64) r0))) ((), (ends_2, (lost_3, ()))), cmap go_6 (A r_net_pair) (S (rL (rL (rU UInt8)))) (some (x_42)), cvar gb_9 (rP (rW (HDR go_47 0 (List.length x_46) gc_48)) (rP (rI .i64) (rP (rI .i64) r0))) ((), (Ends_7, (Lost_8, ()))), cown go_47 r_api_Flight x_46 0 gc_48], []⟩) (fun q => ?_) ?_
       · obtain _ := q
         refine JC.at ⟨[(6, ov (S rB x_54))], [cvar gb_4 (rP (rW (MPV go_6)) (rP (rI .i64) (rP (rI .i64) r0))) ((), (ends_2, (lost_3, ()))), cmap go_6 (A r_net_pair) (S (rL (rL (rU UInt8)))) (some (x_42)), cvar gb_9 (rP (rW (HDR go_47 0 (List.length x_46) gc_48)) (rP (rI .i64) (rP (rI .i64) r0))) ((), (Ends_7, (Lost_8, ()))), cown go_47 r_api_Flight x_46 0 gc_48], []⟩ ?_
         refine JC.ret ?_
         refine JQ.outRB ?_
         replace hq7 := Option.some.inj hq7
         first | subst hq7 | clear hq7
         dsimp only at hq1
         refine JQ.outR ?_
         replace hq1 := Option.some.inj hq1
         subst hq1
         exact JQ.done (js := [0, 0, 0, 0]) (ss := [.val (S rB x_54)]) (go_47, gc_48) (.inl rfl) (.nil rfl) rfl (.cons (.tmp rfl) .nil) rfl rfl rfl
       · refine JC.region ?_
         refine jc (op_loadA (j := 4) lb tA36 (.tmp rfl) rfl (Comp.self r_api_Flight v_40) rfl) ?_
         refine jc (op_loadA (j := 5) lb tA36 (.tmp rfl) rfl (Comp.self r_api_Flight v_44) rfl) ?_
         replace hx7 := bnd_inv hx7
         obtain ⟨v_50, hv_v_50, hx7⟩ := hx7
         refine jx (op_call (js := []) ld cl17 (sim_ref12_Same k v_40 v_44 v_50 hv_v_50) .func (.cons (.tmp rfl) (.cons (.tmp rfl) .nil)) rfl) (fun _ => ?_)
         refine jc (op_move lb (.tmp rfl)) ?_
         refine JL.cnd (sv := ov (S (rI .i64) v_41)) (Guard.isT (ltB rfl) rfl rfl) rfl (ltB rfl) (fun hq_8 => op_move lb (.tmp rfl)) ?_
         replace hx7 := bnd_inv hx7
         obtain ⟨_, hv_u_51, hx7⟩ := hx7
         refine JL.cnd (sv := ov (S (rI .i64) v_41)) (Guard.isT (ltB rfl) rfl rfl) rfl (ltB rfl) (fun hq_9 => (op_call (js := []) ld cl12 (sim_law12_num k v_41 () (ifT hv_u_51 hq_9)) .func (.cons (HasO.cnd (.tmp rfl) hq_9) .nil) rfl).post (fun _ => Imp.refl)) ?_
         refine JL.cnd (sv := ov (S (rI .i64) v_45)) (Guard.isT (ltB rfl) rfl rfl) rfl (ltB rfl) (fun hq_10 => op_move lb (.tmp rfl)) ?_
         replace hx7 := lt1_inv hx7
         obtain ⟨v_52, hv_v_52, hx7⟩ := hx7
         refine JL.cnd (sv := ov (S rB v_52)) (Guard.isT (ltB rfl) rfl rfl) rfl (ltB rfl) (fun hq_11 => op_cmpI lb (HasO.cnd (.tmp rfl) hq_11) (HasO.cnd (.tmp rfl) hq_11) (congrArg some hv_v_52)) ?_
         refine JL.nrm ⟨[(76, ov (S rB v_50)), (80, bif v_50 then ov (S rB v_52) else .one .und)], [cvar gb_9 (rP (rW (HDR go_47 0 (List.length x_46) gc_48)) (rP (rI .i64) (rP (rI .i64) r0))) ((), (Ends_7, (Lost_8, ()))), cown go_47 r_api_Flight x_46 0 gc_48, cvar gb_4 (rP (rW (MPV go_6)) (rP (rI .i64) (rP (rI .i64) r0))) ((), (ends_2, (lost_3, ()))), cmap go_6 (A r_net_pair) (S (rL (rL (rU UInt8)))) (some (x_42))], []⟩ [0, 0, 0, 0] rfl (.cons rfl (.cons rfl .nil)) rfl ?_
         replace hx7 := lt1_inv hx7
         obtain ⟨v_53, hv_v_53, hx7⟩ := hx7
         refine jc (op_pickCS lb (.tmp rfl) (fun hb12 => (HasO.cnd (.tmp rfl) hb12)) (fun hb12 => .cB) hv_v_53) ?_
         refine jc (op_assign lb (.tmp rfl)) ?_
         refine JL.nil ?_
         replace hx7 := Option.some.inj hx7
         first | subst hx7 | clear hx7
         exact JQ.join () (Imp.norm (js := [2, 2, 0, 0]) rfl (.cons rfl .nil))
     · refine JC.condF (.tmp rfl) hc6 ?_
       refine JC.seq ?_
       refine JC.region ?_
       replace hx1 := lt1_inv hx1
       obtain ⟨v_55, hv_v_55, hx1⟩ := hx1
       refine jc (op_cmpI lb (.tmp rfl) .cI (congrArg some hv_v_55)) ?_
       refine jc (op_assign lb (.tmp rfl)) ?_
       refine JL.sub ⟨[(0, ov (PTR gb_4 0)), (1, ov (PTR gb_9 0)), (5, ov (PTR gb_13 0)), (18, ov (S (rI .i64) a_1.Kind)), (82, ov (S rB v_55))], [cvar gb_4 (rP (rW (MPV go_6)) (rP (rI .i64) (rP (rI .i64) r0))) ((), (ends_2, (lost_3, ()))), cmap go_6 (A r_net_pair) (S (rL (rL (rU UInt8)))) (some x_5), cvar gb_9 (rP (rW (HDR go_11 0 (List.length x_10) gc_12)) (rP (rI .i64) (rP (rI .i64) r0))) ((), (Ends_7, (Lost_8, ()))), cown go_11 r_api_Flight x_10 0 gc_12, cvar gb_13 r_law12_Act a_1], []⟩ (.cons rfl (.cons rfl (.cons rfl (.cons rfl (.cons rfl .nil))))) rfl rfl ?_
       refine JL.nil ?_
       refine JQ.then ?_
       replace hx1 := iteB_inv hx1
       rcases hx1 with ⟨hc13, hx1⟩ | ⟨hc13, hx1⟩
       · refine JC.condT (.tmp rfl) hc13 ?_
         refine JC.seq ?_
         refine JC.region ?_
         refine jc (op_move lb (.tmp rfl)) ?_
         refine jc (op_fieldAddr (off := 1) lb tf33_1 (.tmp rfl)) ?_
         refine jc (op_loadS (j := 4) lb tS3 (.tmp rfl) rfl (Comp.trans (Comp.self r_law12_Act a_1) (comp_law12_Act_A a_1) (Nat.le_of_ble_eq_true rfl)) rfl rfl) ?_
         replace hx1 := bnd_inv hx1
         obtain ⟨⟨v_56, v_57, x_58⟩, hv_v_56, hx1⟩ := hx1
         refine jx (op_call (js := [2, 2]) ld cl35 (sim_ref12_Net_Take'2 k a_1.A Ends_7 Lost_8 x_10 gb_9 go_11 gc_12 (v_56, v_57, x_58) hv_v_56) .func (.cons (.tmp rfl) (.cons (.tmp rfl) .nil)) rfl) (fun q => ?_)
         obtain ⟨go_59, gc_60⟩ := q
         refine jc (op_move lb (.tmp rfl)) ?_
         refine jc (op_extract (i := 0) lb (.tmp rfl) rfl) ?_
         refine jc (op_extract (i := 1) lb (.tmp rfl) rfl) ?_
         refine jx (op_alloc lb tZ36 zr36) (fun q => ?_)
         obtain ⟨gb_61, hqq⟩ : ∃ z, z = q := ⟨_, rfl⟩
         subst hqq
         refine JL.sub ⟨[(0, ov (PTR gb_4 0)), (5, ov (PTR gb_13 0)), (14, ov (PTR gb_61 0)), (89, ov (A r_api_Flight v_56)), (90, ov (S (rI .i64) v_57))], [cvar gb_9 (rP (rW (HDR go_59 0 (List.length x_58) gc_60)) (rP (rI .i64) (rP (rI .i64) r0))) ((), (Ends_7, (Lost_8, ()))), cown go_59 r_api_Flight x_58 0 gc_60, cvar gb_4 (rP (rW (MPV go_6)) (rP (rI .i64) (rP (rI .i64) r0))) ((), (ends_2, (lost_3, ()))), cmap go_6 (A r_net_pair) (S (rL (rL (rU UInt8)))) (some x_5), cvar gb_13 r_law12_Act a_1, cvar gb_61 (rP (rI .i64) (rP (rI .i64) (rP (rW (HDR none 0 0 0)) r0))) ((0 : Int), ((0 : Int), ((), ())))], []⟩ (.cons rfl (.cons rfl (.cons rfl (.cons rfl (.cons rfl .nil))))) rfl rfl ?_
         refine jc (op_storeA (j := 5) tA36 (.tmp rfl) (.tmp rfl) rfl (UpdR.self (by rfl)) rfl) ?_
         refine jc (op_assign lb (.tmp rfl)) ?_
         refine JL.nil ?_
         refine JQ.then ?_
         refine JC.seq ?_
         refine JC.region ?_
         refine jc (op_move lb (.tmp rfl)) ?_
         refine jc (op_fieldAddr (off := 1) lb tf33_1 (.tmp rfl)) ?_
         refine jc (op_loadS (j := 4) lb tS3 (.tmp rfl) rfl (Comp.trans (Comp.self r_law12_Act a_1) (comp_law12_Act_A a_1) (Nat.le_of_ble_eq_true rfl)) rfl rfl) ?_
         replace hx1 := bnd_inv hx1
         obtain ⟨⟨v_62, x_63⟩, hv_v_62, hx1⟩ := hx1
         refine jx (op_call (js := [2, 2]) ld cl28 (sim_net_Net_Drop k a_1.A ends_2 lost_3 x_5 gb_4 go_6 (v_62, x_63) hv_v_62) .func (.cons (.tmp rfl) (.cons (.tmp rfl) .nil)) rfl) (fun _ => ?_)
         replace hx1 := bnd_inv hx1
         obtain ⟨_, hv_u_64, hx1⟩ := hx1
         refine jx (op_call (js := []) ld cl12 (sim_law12_num k v_62 () hv_u_64) .func (.cons (.tmp rfl) .nil) rfl) (fun _ => ?_)
         refine jc (op_move lb (.tmp rfl)) ?_
         refine JL.nrm ⟨[(95, ov (S (rI .i64) v_62)), (96, ov (S (rI .i64) v_57))], [cvar gb_4 (rP (rW (MPV go_6)) (rP (rI .i64) (rP (rI .i64) r0))) ((), (ends_2, (lost_3, ()))), cmap go_6 (A r_net_pair) (S (rL (rL (rU UInt8)))) (some (x_63)), cvar gb_9 (rP (rW (HDR go_59 0 (List.length x_58) gc_60)) (rP (rI .i64) (rP (rI .i64) r0))) ((), (Ends_7, (Lost_8, ()))), cown go_59 r_api_Flight x_58 0 gc_60], []⟩ [0, 0, 0, 0] rfl (.cons rfl (.cons rfl .nil)) rfl ?_
         replace hx1 := lt1_inv hx1
         obtain ⟨v_65, hv_v_65, hx1⟩ := hx1
         refine jc (op_cmpI lb (.tmp rfl) (.tmp rfl) (congrArg some hv_v_65)) ?_
         refine jc (op_assign lb (.tmp rfl)) ?_
         refine JL.nil ?_
         refine JQ.then ?_
         refine JC.ret ?_
         refine JQ.outRB ?_
         replace hx1 := Option.some.inj hx1
         first | subst hx1 | clear hx1
         dsimp only at hq1
         refine JQ.outR ?_
         replace hq1 := Option.some.inj hq1
         subst hq1
         exact JQ.done (js := [0, 0, 0, 0]) (ss := [.val (S rB v_65)]) (go_59, gc_60) (.inl rfl) (.nil rfl) rfl (.cons (.tmp rfl) .nil) rfl rfl rfl
       · refine JC.condF (.tmp rfl) hc13 ?_
         refine JC.seq ?_
         refine JC.region ?_
         replace hx1 := lt1_inv hx1
         obtain ⟨v_66, hv_v_66, hx1⟩ := hx1
         refine jc (op_cmpI lb (.tmp rfl) .cI (congrArg some hv_v_66)) ?_
         refine jc (op_assign lb (.tmp rfl)) ?_
         refine JL.nil ?_
         refine JQ.then ?_
         replace hx1 := iteB_inv hx1
         rcases hx1 with ⟨hc14, hx1⟩ | ⟨hc14, hx1⟩
         · refine JC.condT (.tmp rfl) hc14 ?_
           refine JC.seq ?_
           replace hx1 := bnd_inv hx1
           obtain ⟨⟨v_67, x_68⟩, hv_v_67, hx1⟩ := hx1
           replace hx1 := bnd_inv hx1
           obtain ⟨_, hv_u_69, hx1⟩ := hx1
           replace hx1 := bnd_inv hx1
           obtain ⟨⟨v_70, x_71⟩, hv_v_70, hx1⟩ := hx1
           replace hx1 := lt1_inv hx1
           obtain ⟨v_74, hv_v_74, hx1⟩ := hx1
           refine JC.anyE (kl := []) (kk := 0) (base := [(0, ov (PTR gb_4 0)), (1, ov (PTR gb_9 0)), (5, ov (PTR gb_13 0))])
               (fs := fun γ => [⟨some 100, ov (PTR gb_4 0)⟩, ⟨some 101, ov (PTR gb_13 (0 + 1))⟩, ⟨some 102, ov (S (rI .i64) a_1.A)⟩, ⟨some 103, ov (S (rI .i64) v_67)⟩, ⟨some 104, ov (S (rI .i64) v_67)⟩, ⟨some 105, ov (PTR gb_9 0)⟩, ⟨some 106, ov (PTR gb_13 (0 + 1))⟩, ⟨some 107, ov (S (rI .i64) a_1.A)⟩, ⟨some 108, ov (S (rI .i64) v_70)⟩, ⟨some 109, ov (S rB v_74)⟩, ⟨some 6, ov (S rB v_74)⟩])
               (rs := fun γ => [⟨cvar gb_4 (rP (rW (MPV go_6)) (rP (rI .i64) (rP (rI .i64) r0))) ((), (ends_2, (lost_3, ()))), none, none, [3]⟩, ⟨cmap go_6 (A r_net_pair) (S (rL (rL (rU UInt8)))) (some x_5), none, (some 3), []⟩, ⟨cvar gb_9 (rP (rW (HDR go_11 0 (List.length x_10) gc_12)) (rP (rI .i64) (rP (rI .i64) r0))) ((), (Ends_7, (Lost_8, ()))), none, (some 8), []⟩, ⟨cown go_11 r_api_Flight x_10 0 gc_12, none, (some 8), []⟩, ⟨cvar gb_13 r_law12_Act a_1, none, none, [2, 7]⟩, ⟨cmap go_6 (A r_net_pair) (S (rL (rL (rU UInt8)))) (some (x_68)), (some 3), none, []⟩, ⟨cvar gb_9 (rP (rW (HDR (deo (γ 8 0)) 0 (List.length x_71) (γ 8 1))) (rP (rI .i64) (rP (rI .i64) r0))) ((), (Ends_7, (Lost_8, ()))), (some 8), none, []⟩, ⟨cown (deo (γ 8 0)) r_api_Flight x_71 0 (γ 8 1), (some 8), none, []⟩])
               (ds := [100, 101, 102, 103, 104, 105, 106, 107, 108, 109, 6]) (bs := [0, 1, 5]) (afts := [[], [], [], [], [], [], [], [], [8, 9, 10], [], []]) (js := [0, 0, 0, 0, 0]) mixed (.cons rfl (.cons rfl (.cons rfl .nil))) (fun _ => rfl)
               (by
      refine dS 1 (fun γ ρ B hb hd => op_move lb (.tmp (hb 0 _ rfl))) ?_
      refine dS 2 (fun γ ρ B hb hd => op_fieldAddr (off := 1) lb tf33_1 (.tmp (hb 5 _ rfl))) ?_
      refine DSteps.cons (j := 3) rfl (fun _ => rfl) (.run (fun γ ρ B hb hd => ⟨.none, OpStep.at ⟨ρ, (cvar gb_13 r_law12_Act a_1) :: B, _⟩ (setO ⟨ρ, (cvar gb_13 r_law12_Act a_1) :: B, _⟩ _ _) (op_loadS (j := 0) lb tS3 (.tmp (hl hd 1 101 rfl)) rfl (Comp.trans (Comp.self r_law12_Act a_1) (comp_law12_Act_A a_1) (Nat.le_of_ble_eq_true rfl)) rfl rfl)⟩)) ?_
      refine DSteps.cons (j := 4) rfl (fun _ => rfl) (.run (fun γ ρ B hb hd => ⟨.none, OpStep.at ⟨ρ, (cmap go_6 (A r_net_pair) (S (rL (rL (rU UInt8)))) (some x_5)) :: (cvar gb_4 (rP (rW (MPV go_6)) (rP (rI .i64) (rP (rI .i64) r0))) ((), (ends_2, (lost_3, ())))) :: B, _⟩ (setO ⟨ρ, (cmap go_6 (A r_net_pair) (S (rL (rL (rU UInt8)))) (some (x_68))) :: (cvar gb_4 (rP (rW (MPV go_6)) (rP (rI .i64) (rP (rI .i64) r0))) ((), (ends_2, (lost_3, ())))) :: B, _⟩ _ _) ((op_call (js := [1, 0]) ld cl21 (sim_net_Net_Double k a_1.A ends_2 lost_3 x_5 gb_4 go_6 (v_67, x_68) hv_v_67) .func (.cons (.tmp (hl hd 0 100 rfl)) (.cons (.tmp (hl hd 2 102 rfl)) .nil)) rfl).post (fun _ => Imp.pick (js := [1, 0]) rfl rfl))⟩)) ?_
      refine dS 5 (fun γ ρ B hb hd => (op_call (js := []) ld cl12 (sim_law12_num k v_67 () hv_u_69) .func (.cons (.tmp (hl hd 3 103 rfl)) .nil) rfl).post (fun _ => Imp.refl)) ?_
      refine dS 6 (fun γ ρ B hb hd => op_move lb (.tmp (hb 1 _ rfl))) ?_
      refine dS 7 (fun γ ρ B hb hd => op_fieldAddr (off := 1) lb tf33_1 (.tmp (hb 5 _ rfl))) ?_
      refine DSteps.cons (j := 8) rfl (fun _ => rfl) (.run (fun γ ρ B hb hd => ⟨.none, OpStep.at ⟨ρ, (cvar gb_13 r_law12_Act a_1) :: B, _⟩ (setO ⟨ρ, (cvar gb_13 r_law12_Act a_1) :: B, _⟩ _ _) (op_loadS (j := 0) lb tS3 (.tmp (hl hd 6 106 rfl)) rfl (Comp.trans (Comp.self r_law12_Act a_1) (comp_law12_Act_A a_1) (Nat.le_of_ble_eq_true rfl)) rfl rfl)⟩)) ?_
      refine DSteps.cons (j := 9) rfl (fun _ => rfl) (.runX (fun _ _ => rfl) (fun γ ρ B hb hd => ⟨.none, OpX.ghost (γ := Option Nat × Nat) (st' := fun q => setO ⟨ρ, (cvar gb_9 (rP (rW (HDR q.1 0 (List.length x_71) q.2)) (rP (rI .i64) (rP (rI .i64) r0))) ((), (Ends_7, (Lost_8, ())))) :: (cown q.1 r_api_Flight x_71 0 q.2) :: B, _⟩ (some 108) (ov (S (rI .i64) v_70))) (fun q c => bif Nat.beq c 0 then eno q.1 else q.2) (op_call (js := [0, 0]) ld cl36 (sim_ref12_Net_Double'2 k a_1.A Ends_7 Lost_8 x_10 gb_9 go_11 gc_12 (v_70, x_71) hv_v_70) .func (.cons (.tmp (hl hd 5 105 rfl)) (.cons (.tmp (hl hd 7 107 rfl)) .nil)) rfl) (fun q => by obtain ⟨q0, q1⟩ := q; cases q0 <;> exact Imp.refl)⟩) (fun _ _ => rfl) (fun _ _ => rfl)) ?_
      refine dS 10 (fun γ ρ B hb hd => op_cmpI lb (.tmp (hl hd 4 104 rfl)) (.tmp (hl hd 8 108 rfl)) (congrArg some hv_v_74)) ?_
      refine dS 11 (fun γ ρ B hb hd => op_assign lb (.tmp (hl hd 9 109 rfl))) ?_
      exact DSteps.nil)
               (by decide +kernel) (fun _ => rfl) rfl (fun _ => rfl) (fun _ => rfl) rfl (by decide) (by decide) (by decide +kernel) (fun _ d h => by cases h)
               (ρ' := fun γ => [(6, ov (S rB v_74))])
               (X' := fun γ => [cvar gb_4 (rP (rW (MPV go_6)) (rP (rI .i64) (rP (rI .i64) r0))) ((), (ends_2, (lost_3, ()))), cvar gb_13 r_law12_Act a_1, cmap go_6 (A r_net_pair) (S (rL (rL (rU UInt8)))) (some (x_68)), cvar gb_9 (rP (rW (HDR (deo (γ 8 0)) 0 (List.length x_71) (γ 8 1))) (rP (rI .i64) (rP (rI .i64) r0))) ((), (Ends_7, (Lost_8, ()))), cown (deo (γ 8 0)) r_api_Flight x_71 0 (γ 8 1)])
               (fun γ ρ hb hd => (.cons (hdq hd 10 6 rfl) .nil)) (fun _ => rfl) (fun γ => ?_)
           generalize (deo (γ 8 0)) = go_72
           generalize (γ 8 1) = gc_73
           clear γ
           refine JQ.at ⟨[(6, ov (S rB v_74))], [cvar gb_4 (rP (rW (MPV go_6)) (rP (rI .i64) (rP (rI .i64) r0))) ((), (ends_2, (lost_3, ()))), cvar gb_13 r_law12_Act a_1, cmap go_6 (A r_net_pair) (S (rL (rL (rU UInt8)))) (some (x_68)), cvar gb_9 (rP (rW (HDR go_72 0 (List.length x_71) gc_73)) (rP (rI .i64) (rP (rI .i64) r0))) ((), (Ends_7, (Lost_8, ()))), cown go_72 r_api_Flight x_71 0 gc_73], []⟩ ?_
           refine JQ.then ?_
           refine JC.ret ?_
           refine JQ.outRB ?_
           replace hx1 := Option.some.inj hx1
           first | subst hx1 | clear hx1
           dsimp only at hq1
           refine JQ.outR ?_
           replace hq1 := Option.some.inj hq1
           subst hq1
           exact JQ.done (js := [0, 1, 1, 1]) (ss := [.val (S rB v_74)]) (go_72, gc_73) (.inl rfl) (.nil rfl) rfl (.cons (.tmp rfl) .nil) rfl rfl rfl
         · refine JC.condF (.tmp rfl) hc14 ?_
           refine JC.seq ?_
           refine JC.region ?_
           replace hx1 := lt1_inv hx1
           obtain ⟨v_75, hv_v_75, hx1⟩ := hx1
           refine jc (op_cmpI lb (.tmp rfl) .cI (congrArg some hv_v_75)) ?_
           refine jc (op_assign lb (.tmp rfl)) ?_
           refine JL.nil ?_
           refine JQ.then ?_
           replace hx1 := iteB_inv hx1
           rcases hx1 with ⟨hc15, hx1⟩ | ⟨hc15, hx1⟩
           · refine JC.condT (.tmp rfl) hc15 ?_
             refine JC.seq ?_
             replace hx1 := bnd_inv hx1
             obtain ⟨⟨v_76, x_77⟩, hv_v_76, hx1⟩ := hx1
             replace hx1 := bnd_inv hx1
             obtain ⟨⟨v_78, x_79⟩, hv_v_78, hx1⟩ := hx1
             replace hx1 := lt1_inv hx1
             obtain ⟨v_82, hv_v_82, hx1⟩ := hx1
             refine JC.anyE (kl := []) (kk := 0) (base := [(0, ov (PTR gb_4 0)), (1, ov (PTR gb_9 0)), (5, ov (PTR gb_13 0))])
                 (fs := fun γ => [⟨some 112, ov (PTR gb_4 0)⟩, ⟨some 113, ov (PTR gb_13 (0 + 1))⟩, ⟨some 114, ov (S (rI .i64) a_1.A)⟩, ⟨some 115, ov (S (rI .i64) v_76)⟩, ⟨some 116, ov (PTR gb_9 0)⟩, ⟨some 117, ov (PTR gb_13 (0 + 1))⟩, ⟨some 118, ov (S (rI .i64) a_1.A)⟩, ⟨some 119, ov (S (rI .i64) v_78)⟩, ⟨some 120, ov (S rB v_82)⟩, ⟨some 6, ov (S rB v_82)⟩])
                 (rs := fun γ => [⟨cvar gb_4 (rP (rW (MPV go_6)) (rP (rI .i64) (rP (rI .i64) r0))) ((), (ends_2, (lost_3, ()))), none, none, [3]⟩, ⟨cmap go_6 (A r_net_pair) (S (rL (rL (rU UInt8)))) (some x_5), none, (some 3), []⟩, ⟨cvar gb_9 (rP (rW (HDR go_11 0 (List.length x_10) gc_12)) (rP (rI .i64) (rP (rI .i64) r0))) ((), (Ends_7, (Lost_8, ()))), none, (some 7), []⟩, ⟨cown go_11 r_api_Flight x_10 0 gc_12, none, (some 7), []⟩, ⟨cvar gb_13 r_law12_Act a_1, none, none, [2, 6]⟩, ⟨cmap go_6 (A r_net_pair) (S (rL (rL (rU UInt8)))) (some (x_77)), (some 3), none, []⟩, ⟨cvar gb_9 (rP (rW (HDR (deo (γ 7 0)) 0 (List.length x_79) (γ 7 1))) (rP (rI .i64) (rP (rI .i64) r0))) ((), (Ends_7, (Lost_8, ()))), (some 7), none, []⟩, ⟨cown (deo (γ 7 0)) r_api_Flight x_79 0 (γ 7 1), (some 7), none, []⟩, ⟨cown go_11 r_api_Flight x_10 0 gc_12, (some 7), none, []⟩])
                 (ds := [112, 113, 114, 115, 116, 117, 118, 119, 120, 6]) (bs := [0, 1, 5]) (afts := [[], [], [], [], [], [], [], [7, 8, 9], [], []]) (js := [0, 0, 0, 0, 0]) mixed (.cons rfl (.cons rfl (.cons rfl .nil))) (fun _ => rfl)
                 (by
      refine dS 1 (fun γ ρ B hb hd => op_move lb (.tmp (hb 0 _ rfl))) ?_
      refine dS 2 (fun γ ρ B hb hd => op_fieldAddr (off := 1) lb tf33_1 (.tmp (hb 5 _ rfl))) ?_
      refine DSteps.cons (j := 3) rfl (fun _ => rfl) (.run (fun γ ρ B hb hd => ⟨.none, OpStep.at ⟨ρ, (cvar gb_13 r_law12_Act a_1) :: B, _⟩ (setO ⟨ρ, (cvar gb_13 r_law12_Act a_1) :: B, _⟩ _ _) (op_loadS (j := 0) lb tS3 (.tmp (hl hd 1 113 rfl)) rfl (Comp.trans (Comp.self r_law12_Act a_1) (comp_law12_Act_A a_1) (Nat.le_of_ble_eq_true rfl)) rfl rfl)⟩)) ?_
      refine DSteps.cons (j := 4) rfl (fun _ => rfl) (.run (fun γ ρ B hb hd => ⟨.none, OpStep.at ⟨ρ, (cmap go_6 (A r_net_pair) (S (rL (rL (rU UInt8)))) (some x_5)) :: (cvar gb_4 (rP (rW (MPV go_6)) (rP (rI .i64) (rP (rI .i64) r0))) ((), (ends_2, (lost_3, ())))) :: B, _⟩ (setO ⟨ρ, (cmap go_6 (A r_net_pair) (S (rL (rL (rU UInt8)))) (some (x_77))) :: (cvar gb_4 (rP (rW (MPV go_6)) (rP (rI .i64) (rP (rI .i64) r0))) ((), (ends_2, (lost_3, ())))) :: B, _⟩ _ _) ((op_call (js := [1, 0]) ld cl20 (sim_net_Net_Clear k a_1.A ends_2 lost_3 x_5 gb_4 go_6 (v_76, x_77) hv_v_76) .func (.cons (.tmp (hl hd 0 112 rfl)) (.cons (.tmp (hl hd 2 114 rfl)) .nil)) rfl).post (fun _ => Imp.pick (js := [1, 0]) rfl rfl))⟩)) ?_
      refine dS 5 (fun γ ρ B hb hd => op_move lb (.tmp (hb 1 _ rfl))) ?_
      refine dS 6 (fun γ ρ B hb hd => op_fieldAddr (off := 1) lb tf33_1 (.tmp (hb 5 _ rfl))) ?_
      refine DSteps.cons (j := 7) rfl (fun _ => rfl) (.run (fun γ ρ B hb hd => ⟨.none, OpStep.at ⟨ρ, (cvar gb_13 r_law12_Act a_1) :: B, _⟩ (setO ⟨ρ, (cvar gb_13 r_law12_Act a_1) :: B, _⟩ _ _) (op_loadS (j := 0) lb tS3 (.tmp (hl hd 5 117 rfl)) rfl (Comp.trans (Comp.self r_law12_Act a_1) (comp_law12_Act_A a_1) (Nat.le_of_ble_eq_true rfl)) rfl rfl)⟩)) ?_
      refine DSteps.cons (j := 8) rfl (fun _ => rfl) (.runX (fun _ _ => rfl) (fun γ ρ B hb hd => ⟨.none, OpX.ghost (γ := Option Nat × Nat) (st' := fun q => setO ⟨ρ, (cvar gb_9 (rP (rW (HDR q.1 0 (List.length x_79) q.2)) (rP (rI .i64) (rP (rI .i64) r0))) ((), (Ends_7, (Lost_8, ())))) :: (cown q.1 r_api_Flight x_79 0 q.2) :: (cown go_11 r_api_Flight x_10 0 gc_12) :: B, _⟩ (some 119) (ov (S (rI .i64) v_78))) (fun q c => bif Nat.beq c 0 then eno q.1 else q.2) (op_call (js := [0, 0]) ld cl37 (sim_ref12_Net_Clear'2 k a_1.A Ends_7 Lost_8 x_10 gb_9 go_11 gc_12 (v_78, x_79) hv_v_78) .func (.cons (.tmp (hl hd 4 116 rfl)) (.cons (.tmp (hl hd 6 118 rfl)) .nil)) rfl) (fun q => by obtain ⟨q0, q1⟩ := q; cases q0 <;> exact Imp.refl)⟩) (fun _ _ => rfl) (fun _ _ => rfl)) ?_
      refine dS 9 (fun γ ρ B hb hd => op_cmpI lb (.tmp (hl hd 3 115 rfl)) (.tmp (hl hd 7 119 rfl)) (congrArg some hv_v_82)) ?_
      refine dS 10 (fun γ ρ B hb hd => op_assign lb (.tmp (hl hd 8 120 rfl))) ?_
      exact DSteps.nil)
                 (by decide +kernel) (fun _ => rfl) rfl (fun _ => rfl) (fun _ => rfl) rfl (by decide) (by decide) (by decide +kernel) (fun _ d h => by cases h)
                 (ρ' := fun γ => [(6, ov (S rB v_82))])
                 (X' := fun γ => [cvar gb_4 (rP (rW (MPV go_6)) (rP (rI .i64) (rP (rI .i64) r0))) ((), (ends_2, (lost_3, ()))), cvar gb_13 r_law12_Act a_1, cmap go_6 (A r_net_pair) (S (rL (rL (rU UInt8)))) (some (x_77)), cvar gb_9 (rP (rW (HDR (deo (γ 7 0)) 0 (List.length x_79) (γ 7 1))) (rP (rI .i64) (rP (rI .i64) r0))) ((), (Ends_7, (Lost_8, ()))), cown (deo (γ 7 0)) r_api_Flight x_79 0 (γ 7 1), cown go_11 r_api_Flight x_10 0 gc_12])
                 (fun γ ρ hb hd => (.cons (hdq hd 9 6 rfl) .nil)) (fun _ => rfl) (fun γ => ?_)
             generalize (deo (γ 7 0)) = go_80
             generalize (γ 7 1) = gc_81
             clear γ
             refine JQ.at ⟨[(6, ov (S rB v_82))], [cvar gb_4 (rP (rW (MPV go_6)) (rP (rI .i64) (rP (rI .i64) r0))) ((), (ends_2, (lost_3, ()))), cvar gb_13 r_law12_Act a_1, cmap go_6 (A r_net_pair) (S (rL (rL (rU UInt8)))) (some (x_77)), cvar gb_9 (rP (rW (HDR go_80 0 (List.length x_79) gc_81)) (rP (rI .i64) (rP (rI .i64) r0))) ((), (Ends_7, (Lost_8, ()))), cown go_80 r_api_Flight x_79 0 gc_81, cown go_11 r_api_Flight x_10 0 gc_12], []⟩ ?_
             refine JQ.then ?_
             refine JC.ret ?_
             refine JQ.outRB ?_
             replace hx1 := Option.some.inj hx1
             first | subst hx1 | clear hx1
             dsimp only at hq1
             refine JQ.outR ?_
             replace hq1 := Option.some.inj hq1
             subst hq1
             exact JQ.done (js := [0, 1, 1, 1]) (ss := [.val (S rB v_82)]) (go_80, gc_81) (.inl rfl) (.nil rfl) rfl (.cons (.tmp rfl) .nil) rfl rfl rfl
           · refine JC.condF (.tmp rfl) hc15 ?_
             refine JC.seq ?_
             refine JC.region ?_
             replace hx1 := lt1_inv hx1
             obtain ⟨v_83, hv_v_83, hx1⟩ := hx1
             refine jc (op_cmpI lb (.tmp rfl) .cI (congrArg some hv_v_83)) ?_
             refine jc (op_assign lb (.tmp rfl)) ?_
             refine JL.nil ?_
             refine JQ.then ?_
             replace hx1 := iteB_inv hx1
             rcases hx1 with ⟨hc16, hx1⟩ | ⟨hc16, hx1⟩
             · refine JC.condT (.tmp rfl) hc16 ?_
               refine JC.seq ?_
               refine JC.region ?_
               refine jc (op_assign lb .cI) ?_
               refine JL.nil ?_
               refine JQ.then ?_
               refine JC.block ?_
               replace hx1 := bnd_inv hx1
               obtain ⟨tv17, hL17, hq17⟩ := hx1
               refine JC.pre (Imp.var (j := 0) (q := (rP (rW (MPV go_6)) (rP (rI .i64) (rP (rI .i64) r0)))) (y := ((), (ends_2, (lost_3, ())))) rfl Wk.refl) ?_
               refine JC.pre (Imp.var (j := 2) (q := (rP (rW (HDR go_11 0 (List.length x_10) gc_12)) (rP (rI .i64) (rP (rI .i64) r0)))) (y := ((), (Ends_7, (Lost_8, ())))) rfl Wk.refl) ?_
               refine JC.pre ?_ (JC.loop (γ := Option Nat × Nat) (stf := fun s q => ⟨[(0, ov (PTR gb_4 0)), (1, ov (PTR gb_9 0)), (5, ov (PTR gb_13 0)), (16, ov (S (rI .i64) s.2.2.2.2))], [cvar gb_4 (rP (rW (MPV go_6)) (rP (rI .i64) (rP (rI .i64) r0))) ((), (ends_2, (s.2.1, ()))), cmap go_6 (A r_net_pair) (S (rL (rL (rU UInt8)))) (some s.1), cvar gb_9 (rP (rW (HDR q.1 0 (List.length s.2.2.1) q.2)) (rP (rI .i64) (rP (rI .i64) r0))) ((), (Ends_7, (s.2.2.2.1, ()))), cown q.1 r_api_Flight s.2.2.1 0 q.2, cvar gb_13 r_law12_Act a_1], []⟩) (q := (go_11, gc_12)) hL17 ?_)
               · exact (Imp.norm (js := [0, 0, 0, 0, 0]) rfl (.cons rfl (.cons rfl (.cons rfl (.cons rfl .nil)))))
               · intro s q x hx hr
                 obtain ⟨x_84, lost_85, L_86, Lost_87, x_88⟩ := s
                 obtain ⟨go_89, gc_90⟩ := q
                 change law12_do'2.b2 k a_1 ends_2 Ends_7 x_84 lost_85 L_86 Lost_87 x_88 = some x at hx
                 unfold law12_do'2.b2 at hx
                 refine JC.at ⟨[(0, ov (PTR gb_4 0)), (1, ov (PTR gb_9 0)), (5, ov (PTR gb_13 0)), (16, ov (S (rI .i64) x_88))], [cvar gb_4 (rP (rW (MPV go_6)) (rP (rI .i64) (rP (rI .i64) r0))) ((), (ends_2, (lost_85, ()))), cmap go_6 (A r_net_pair) (S (rL (rL (rU UInt8)))) (some x_84), cvar gb_9 (rP (rW (HDR go_89 0 (List.length L_86) gc_90)) (rP (rI .i64) (rP (rI .i64) r0))) ((), (Ends_7, (Lost_87, ()))), cown go_89 r_api_Flight L_86 0 gc_90, cvar gb_13 r_law12_Act a_1], []⟩ ?_
                 refine JC.seq ?_
                 refine JC.seq ?_
                 refine JC.region ?_
                 refine jc (op_move lb (.tmp rfl)) ?_
                 replace hx := lt1_inv hx
                 obtain ⟨v_91, hv_v_91, hx⟩ := hx
                 refine jc (op_cmpI lb (.tmp rfl) .cI (congrArg some hv_v_91)) ?_
                 refine JL.nil ?_
                 refine JQ.then ?_
                 replace hx := iteB_inv hx
                 rcases hx with ⟨hc18, hx⟩ | ⟨hc18, hx⟩
                 · refine JC.condT (.tmp rfl) hc18 ?_
                   refine JC.skip ?_
                   refine JQ.then ?_
                   refine JC.seq ?_
                   refine JC.block ?_
                   refine JC.seq ?_
                   replace hx := bnd_inv hx
                   obtain ⟨⟨v_92, x_93, x_94⟩, hv_v_92, hx⟩ := hx
                   replace hx := bnd_inv hx
                   obtain ⟨_, hv_u_95, hx⟩ := hx
                   replace hx := bnd_inv hx
                   obtain ⟨⟨v_96, x_97, x_98⟩, hv_v_96, hx⟩ := hx
                   replace hx := lt1_inv hx
                   obtain ⟨v_101, hv_v_101, hx⟩ := hx
                   refine JC.anyE (kl := []) (kk := 0) (base := [(0, ov (PTR gb_4 0)), (1, ov (PTR gb_9 0)), (5, ov (PTR gb_13 0)), (16, ov (S (rI .i64) x_88))])
                       (fs := fun γ => [⟨some 127, ov (PTR gb_4 0)⟩, ⟨some 128, ov (PTR gb_13 (0 + 1))⟩, ⟨some 129, ov (S (rI .i64) a_1.A)⟩, ⟨some 130, ov (PTR gb_13 (0 + 2))⟩, ⟨some 131, ov (S (rI .i64) a_1.B)⟩, ⟨some 132, ov (PTR gb_13 (0 + 3))⟩, ⟨some 133, ov (S (rL (rU UInt8)) a_1.Bytes)⟩, ⟨some 134, ov (S (rI .i64) v_92)⟩, ⟨some 135, ov (S (rI .i64) v_92)⟩, ⟨some 136, ov (PTR gb_9 0)⟩, ⟨some 137, ov (PTR gb_13 (0 + 1))⟩, ⟨some 138, ov (S (rI .i64) a_1.A)⟩, ⟨some 139, ov (PTR gb_13 (0 + 2))⟩, ⟨some 140, ov (S (rI .i64) a_1.B)⟩, ⟨some 141, ov (PTR gb_13 (0 + 3))⟩, ⟨some 142, ov (S (rL (rU UInt8)) a_1.Bytes)⟩, ⟨some 143, ov (S (rI .i64) v_96)⟩, ⟨some 144, ov (S rB v_101)⟩])
                       (rs := fun γ => [⟨cvar gb_4 (rP (rW (MPV go_6)) (rP (rI .i64) (rP (rI .i64) r0))) ((), (ends_2, (lost_85, ()))), none, (some 7), []⟩, ⟨cmap go_6 (A r_net_pair) (S (rL (rL (rU UInt8)))) (some x_84), none, (some 7), []⟩, ⟨cvar gb_9 (rP (rW (HDR go_89 0 (List.length L_86) gc_90)) (rP (rI .i64) (rP (rI .i64) r0))) ((), (Ends_7, (Lost_87, ()))), none, (some 16), []⟩, ⟨cown go_89 r_api_Flight L_86 0 gc_90, none, (some 16), []⟩, ⟨cvar gb_13 r_law12_Act a_1, none, none, [2, 4, 6, 11, 13, 15]⟩, ⟨cvar gb_4 (rP (rW (MPV go_6)) (rP (rI .i64) (rP (rI .i64) r0))) ((), (ends_2, (x_94, ()))), (some 7), none, []⟩, ⟨cmap go_6 (A r_net_pair) (S (rL (rL (rU UInt8)))) (some (x_93)), (some 7), none, []⟩, ⟨cvar gb_9 (rP (rW (HDR (deo (γ 16 0)) 0 (List.length x_97) (γ 16 1))) (rP (rI .i64) (rP (rI .i64) r0))) ((), (Ends_7, (x_98, ()))), (some 16), none, []⟩, ⟨cown (deo (γ 16 0)) r_api_Flight x_97 0 (γ 16 1), (some 16), none, []⟩])
                       (ds := [127, 128, 129, 130, 131, 132, 133, 134, 135, 136, 137, 138, 139, 140, 141, 142, 143, 144]) (bs := [0, 1, 5, 16]) (afts := [[], [], [], [], [], [], [], [], [], [], [], [], [], [], [], [], [16, 17], []]) (js := [0, 0, 0, 0, 0]) mixed (.cons rfl (.cons rfl (.cons rfl (.cons rfl .nil)))) (fun _ => rfl)
                       (by
      refine dS 1 (fun γ ρ B hb hd => op_move lb (.tmp (hb 0 _ rfl))) ?_
      refine dS 2 (fun γ ρ B hb hd => op_fieldAddr (off := 1) lb tf33_1 (.tmp (hb 5 _ rfl))) ?_
      refine DSteps.cons (j := 3) rfl (fun _ => rfl) (.run (fun γ ρ B hb hd => ⟨.none, OpStep.at ⟨ρ, (cvar gb_13 r_law12_Act a_1) :: B, _⟩ (setO ⟨ρ, (cvar gb_13 r_law12_Act a_1) :: B, _⟩ _ _) (op_loadS (j := 0) lb tS3 (.tmp (hl hd 1 128 rfl)) rfl (Comp.trans (Comp.self r_law12_Act a_1) (comp_law12_Act_A a_1) (Nat.le_of_ble_eq_true rfl)) rfl rfl)⟩)) ?_
      refine dS 4 (fun γ ρ B hb hd => op_fieldAddr (off := 2) lb tf33_2 (.tmp (hb 5 _ rfl))) ?_
      refine DSteps.cons (j := 5) rfl (fun _ => rfl) (.run (fun γ ρ B hb hd => ⟨.none, OpStep.at ⟨ρ, (cvar gb_13 r_law12_Act a_1) :: B, _⟩ (setO ⟨ρ, (cvar gb_13 r_law12_Act a_1) :: B, _⟩ _ _) (op_loadS (j := 0) lb tS3 (.tmp (hl hd 3 130 rfl)) rfl (Comp.trans (Comp.self r_law12_Act a_1) (comp_law12_Act_B a_1) (Nat.le_of_ble_eq_true rfl)) rfl rfl)⟩)) ?_
      refine dS 6 (fun γ ρ B hb hd => op_fieldAddr (off := 3) lb tf33_3 (.tmp (hb 5 _ rfl))) ?_
      refine DSteps.cons (j := 7) rfl (fun _ => rfl) (.run (fun γ ρ B hb hd => ⟨.none, OpStep.at ⟨ρ, (cvar gb_13 r_law12_Act a_1) :: B, _⟩ (setO ⟨ρ, (cvar gb_13 r_law12_Act a_1) :: B, _⟩ _ _) (op_loadS (j := 0) lb tS31 (.tmp (hl hd 5 132 rfl)) rfl (Comp.trans (Comp.self r_law12_Act a_1) (comp_law12_Act_Bytes a_1) (Nat.le_of_ble_eq_true rfl)) rfl rfl)⟩)) ?_
      refine DSteps.cons (j := 8) rfl (fun _ => rfl) (.run (fun γ ρ B hb hd => ⟨.none, OpStep.at ⟨ρ, (cvar gb_4 (rP (rW (MPV go_6)) (rP (rI .i64) (rP (rI .i64) r0))) ((), (ends_2, (lost_85, ())))) :: (cmap go_6 (A r_net_pair) (S (rL (rL (rU UInt8)))) (some x_84)) :: B, _⟩ (setO ⟨ρ, (cvar gb_4 (rP (rW (MPV go_6)) (rP (rI .i64) (rP (rI .i64) r0))) ((), (ends_2, (x_94, ())))) :: (cmap go_6 (A r_net_pair) (S (rL (rL (rU UInt8)))) (some (x_93))) :: B, _⟩ _ _) ((op_call (js := [0, 0]) ld cl13 (sim_net_Net_Send k a_1.A a_1.B a_1.Bytes ends_2 lost_85 x_84 gb_4 go_6 (v_92, x_93, x_94) hv_v_92) .func (.cons (.tmp (hl hd 0 127 rfl)) (.cons (.tmp (hl hd 2 129 rfl)) (.cons (.tmp (hl hd 4 131 rfl)) (.cons (.tmp (hl hd 6 133 rfl)) .nil)))) rfl).post (fun _ => Imp.refl))⟩)) ?_
      refine dS 9 (fun γ ρ B hb hd => (op_call (js := []) ld cl12 (sim_law12_num k v_92 () hv_u_95) .func (.cons (.tmp (hl hd 7 134 rfl)) .nil) rfl).post (fun _ => Imp.refl)) ?_
      refine dS 10 (fun γ ρ B hb hd => op_move lb (.tmp (hb 1 _ rfl))) ?_
      refine dS 11 (fun γ ρ B hb hd => op_fieldAddr (off := 1) lb tf33_1 (.tmp (hb 5 _ rfl))) ?_
      refine DSteps.cons (j := 12) rfl (fun _ => rfl) (.run (fun γ ρ B hb hd => ⟨.none, OpStep.at ⟨ρ, (cvar gb_13 r_law12_Act a_1) :: B, _⟩ (setO ⟨ρ, (cvar gb_13 r_law12_Act a_1) :: B, _⟩ _ _) (op_loadS (j := 0) lb tS3 (.tmp (hl hd 10 137 rfl)) rfl (Comp.trans (Comp.self r_law12_Act a_1) (comp_law12_Act_A a_1) (Nat.le_of_ble_eq_true rfl)) rfl rfl)⟩)) ?_
      refine dS 13 (fun γ ρ B hb hd => op_fieldAddr (off := 2) lb tf33_2 (.tmp (hb 5 _ rfl))) ?_
      refine DSteps.cons (j := 14) rfl (fun _ => rfl) (.run (fun γ ρ B hb hd => ⟨.none, OpStep.at ⟨ρ, (cvar gb_13 r_law12_Act a_1) :: B, _⟩ (setO ⟨ρ, (cvar gb_13 r_law12_Act a_1) :: B, _⟩ _ _) (op_loadS (j := 0) lb tS3 (.tmp (hl hd 12 139 rfl)) rfl (Comp.trans (Comp.self r_law12_Act a_1) (comp_law12_Act_B a_1) (Nat.le_of_ble_eq_true rfl)) rfl rfl)⟩)) ?_
      refine dS 15 (fun γ ρ B hb hd => op_fieldAddr (off := 3) lb tf33_3 (.tmp (hb 5 _ rfl))) ?_
      refine DSteps.cons (j := 16) rfl (fun _ => rfl) (.run (fun γ ρ B hb hd => ⟨.none, OpStep.at ⟨ρ, (cvar gb_13 r_law12_Act a_1) :: B, _⟩ (setO ⟨ρ, (cvar gb_13 r_law12_Act a_1) :: B, _⟩ _ _) (op_loadS (j := 0) lb tS31 (.tmp (hl hd 14 141 rfl)) rfl (Comp.trans (Comp.self r_law12_Act a_1) (comp_law12_Act_Bytes a_1) (Nat.le_of_ble_eq_true rfl)) rfl rfl)⟩)) ?_
      refine DSteps.cons (j := 17) rfl (fun _ => rfl) (.runX (fun _ _ => rfl) (fun γ ρ B hb hd => ⟨.none, OpX.ghost (γ := Option Nat × Nat) (st' := fun q => setO ⟨ρ, (cvar gb_9 (rP (rW (HDR q.1 0 (List.length x_97) q.2)) (rP (rI .i64) (rP (rI .i64) r0))) ((), (Ends_7, (x_98, ())))) :: (cown q.1 r_api_Flight x_97 0 q.2) :: B, _⟩ (some 143) (ov (S (rI .i64) v_96))) (fun q c => bif Nat.beq c 0 then eno q.1 else q.2) (op_call (js := [0, 0]) ld cl34 (sim_ref12_Net_Send'2 k a_1.A a_1.B a_1.Bytes Ends_7 Lost_87 L_86 gb_9 go_89 gc_90 (v_96, x_97, x_98) hv_v_96) .func (.cons (.tmp (hl hd 9 136 rfl)) (.cons (.tmp (hl hd 11 138 rfl)) (.cons (.tmp (hl hd 13 140 rfl)) (.cons (.tmp (hl hd 15 142 rfl)) .nil)))) rfl) (fun q => by obtain ⟨q0, q1⟩ := q; cases q0 <;> exact Imp.refl)⟩) (fun _ _ => rfl) (fun _ _ => rfl)) ?_
      refine dS 18 (fun γ ρ B hb hd => op_cmpI lb (.tmp (hl hd 8 135 rfl)) (.tmp (hl hd 16 143 rfl)) (congrArg some hv_v_101)) ?_
      exact DSteps.nil)
                       (by decide +kernel) (fun _ => rfl) rfl (fun _ => rfl) (fun _ => rfl) rfl (by decide) (by decide) (by decide +kernel) (fun _ d h => by cases h)
                       (ρ' := fun γ => [(0, ov (PTR gb_4 0)), (1, ov (PTR gb_9 0)), (5, ov (PTR gb_13 0)), (16, ov (S (rI .i64) x_88)), (144, ov (S rB v_101))])
                       (X' := fun γ => [cvar gb_13 r_law12_Act a_1, cvar gb_4 (rP (rW (MPV go_6)) (rP (rI .i64) (rP (rI .i64) r0))) ((), (ends_2, (x_94, ()))), cmap go_6 (A r_net_pair) (S (rL (rL (rU UInt8)))) (some (x_93)), cvar gb_9 (rP (rW (HDR (deo (γ 16 0)) 0 (List.length x_97) (γ 16 1))) (rP (rI .i64) (rP (rI .i64) r0))) ((), (Ends_7, (x_98, ()))), cown (deo (γ 16 0)) r_api_Flight x_97 0 (γ 16 1)])
                       (fun γ ρ hb hd => (.cons (hb 0 _ rfl (by decide)) (.cons (hb 1 _ rfl (by decide)) (.cons (hb 5 _ rfl (by decide)) (.cons (hb 16 _ rfl (by decide)) (.cons (hdq hd 17 144 rfl) .nil)))))) (fun _ => rfl) (fun γ => ?_)
                   generalize (deo (γ 16 0)) = go_99
                   generalize (γ 16 1) = gc_100
                   clear γ
                   refine JQ.at ⟨[(0, ov (PTR gb_4 0)), (1, ov (PTR gb_9 0)), (5, ov (PTR gb_13 0)), (16, ov (S (rI .i64) x_88)), (144, ov (S rB v_101))], [cvar gb_13 r_law12_Act a_1, cvar gb_4 (rP (rW (MPV go_6)) (rP (rI .i64) (rP (rI .i64) r0))) ((), (ends_2, (x_94, ()))), cmap go_6 (A r_net_pair) (S (rL (rL (rU UInt8)))) (some (x_93)), cvar gb_9 (rP (rW (HDR go_99 0 (List.length x_97) gc_100)) (rP (rI .i64) (rP (rI .i64) r0))) ((), (Ends_7, (x_98, ()))), cown go_99 r_api_Flight x_97 0 gc_100], []⟩ ?_
                   refine JQ.then ?_
                   replace hx := iteB_inv hx
                   rcases hx with ⟨hc19, hx⟩ | ⟨hc19, hx⟩
                   · refine JC.condT (.tmp rfl) hc19 ?_
                     refine JC.seq ?_
                     refine JC.region ?_
                     refine jc (op_assign lb .cB) ?_
                     refine JL.nil ?_
                     refine JQ.then ?_
                     refine JC.ret ?_
                     refine JQ.outRB ?_
                     refine JQ.outR ?_
                     replace hx := Option.some.inj hx
                     first | subst hx | clear hx
                     have ht := hr _ rfl
                     clear hr
                     first | subst ht | clear ht
                     dsimp only at hq17
                     refine JQ.outR ?_
                     refine JQ.outRB ?_
                     refine JQ.outRB ?_
                     replace hq17 := Option.some.inj hq17
                     first | subst hq17 | clear hq17
                     dsimp only at hq1
                     refine JQ.outR ?_
                     replace hq1 := Option.some.inj hq1
                     subst hq1
                     exact JQ.done (js := [1, 1, 1, 1]) (ss := [.val (S rB false)]) (go_99, gc_100) (.inl rfl) (.nil rfl) rfl (.cons (.tmp rfl) .nil) rfl rfl rfl
                   · refine JC.condF (.tmp rfl) hc19 ?_
                     refine JC.skip ?_
                     refine JQ.outNB ?_
                     refine JQ.then ?_
                     refine JC.region ?_
                     refine jc (op_move lb (.tmp rfl)) ?_
                     replace hx := lt1_inv hx
                     obtain ⟨v_102, hv_v_102, hx⟩ := hx
                     refine jc (op_arI lb (.tmp rfl) .cI (congrArg some hv_v_102)) ?_
                     refine jc (op_assign lb (.tmp rfl)) ?_
                     refine JL.nil ?_
                     replace hx := Option.some.inj hx
                     first | subst hx | clear hx
                     exact JQ.next (go_99, gc_100) rfl (Imp.norm (js := [1, 1, 1, 1, 0]) rfl (.cons rfl (.cons rfl (.cons rfl (.cons rfl .nil)))))
                 · refine JC.condF (.tmp rfl) hc18 ?_
                   refine JC.exit ?_
                   refine JQ.outX ?_
                   replace hx := Option.some.inj hx
                   first | subst hx | clear hx
                   have ht := hr _ rfl
                   clear hr
                   first | subst ht | clear ht
                   dsimp only at hq17
                   refine JQ.outX ?_
                   refine JQ.here ?_
                   refine JQ.outNB ?_
                   replace hq17 := Option.some.inj hq17
                   first | subst hq17 | clear hq17
                   exact JQ.joinK (x_84, lost_85, L_86, Lost_87) (go_89, gc_90) rfl (Imp.norm (js := [0, 0, 0, 0]) rfl .nil)
             · refine JC.condF (.tmp rfl) hc16 ?_
               refine JC.skip ?_
               refine JQ.outNB ?_
               replace hx1 := Option.some.inj hx1
               first | subst hx1 | clear hx1
               refine JQ.pre (Imp.var (j := 0) (q := (rP (rW (MPV go_6)) (rP (rI .i64) (rP (rI .i64) r0)))) (y := ((), (ends_2, (lost_3, ())))) rfl Wk.refl) ?_
               refine JQ.pre (Imp.var (j := 2) (q := (rP (rW (HDR go_11 0 (List.length x_10) gc_12)) (rP (rI .i64) (rP (rI .i64) r0)))) (y := ((), (Ends_7, (Lost_8, ())))) rfl Wk.refl) ?_
               exact JQ.joinK (x_5, lost_3, x_10, Lost_8) (go_11, gc_12) rfl (Imp.norm (js := [0, 0, 0, 0]) rfl .nil)

end Go.Proofs.Ytnadeehdnmgebaa
