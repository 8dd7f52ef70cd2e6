/- Walks. -/
import Derived.Test.YtnadeehdnmgebaaT
import Derived.Test.YtnadeehdnmgebaaW0
namespace Go.Proofs.Ytnadeehdnmgebaa
open Go Fw
set_option linter.unusedVariables false
set_option maxRecDepth 100000
set_option maxHeartbeats 4000000

theorem sim_slices_Clonebyte_byte'3 (k : Nat) (o_1 : Nat) (n_2 : Nat) (x_3 : (List UInt8)) (go_4 : Option Nat) (gc_5 : Nat) (r : (List UInt8)) (hm : slices_Clonebyte_byte'3 k o_1 n_2 x_3 = some r) : Sim Try.prog 40 [HDX go_4 (o_1 * 1) n_2] [cown go_4 (rU UInt8) x_3 0 gc_5] (γ := Option Nat × Nat) (fun q => [cown q.1 (rU UInt8) r 0 q.2, cown go_4 (rU UInt8) x_3 0 gc_5]) (fun q => .one (.val (HDR q.1 0 (List.length r) q.2))) := by
 unfold slices_Clonebyte_byte'3 at hm
 refine Sim.of Try.func40 rfl rfl (Nat.le_of_ble_eq_true rfl) (fun e0 w0 => ?_)
 refine JC.at ⟨[(0, ov (HDX go_4 (o_1 * 1) n_2))], [cown go_4 (rU UInt8) x_3 0 gc_5], []⟩ ?_
 refine JC.seq ?_
 refine JC.region ?_
 refine jc (op_assign lb HasO.nilH) ?_
 refine JL.nil ?_
 refine JQ.then ?_
 refine JC.seq ?_
 refine JC.seq ?_
 refine JC.region ?_
 refine jc (op_move lb (.tmp rfl)) ?_
 refine JL.consX rfl (op_isNilX (neg := false) lb tu31 (.tmp rfl) HasO.nilH) (fun q => ?_)
 obtain ⟨hb1, hb1_⟩ := q
 cases hb1
 · refine JL.nil ?_
   refine JQ.then ?_
   refine JC.condF (.tmp rfl) rfl ?_
   refine JC.skip ?_
   refine JQ.then ?_
   refine JC.seq ?_
   refine JC.region ?_
   refine jx (op_buildO (r := (rU UInt8)) lb tu31 tz5 tZ5 rfl (Nat.le_of_ble_eq_true rfl) .nil rfl) (fun q => ?_)
   obtain ⟨gb_6, hqq⟩ : ∃ z, z = q := ⟨_, rfl⟩
   subst hqq
   refine jc (op_move lb (.tmp rfl)) ?_
   replace hm := bnd_inv hm
   obtain ⟨v_7, hv_v_7, hm⟩ := hm
   refine jx (op_appendXV (j := 1) (j' := 0) (o := o_1) lb tu31 tu31 rfl tB5 rfl (Nat.lt_of_lt_of_le Nat.zero_lt_one (Nat.le_of_ble_eq_true rfl)) (Nat.lt_of_lt_of_le Nat.zero_lt_one (Nat.le_of_ble_eq_true rfl)) rfl (.tmp rfl) rfl (.tmp rfl) hv_v_7) (fun q => ?_)
   obtain ⟨go_8, gc_9⟩ := q
   refine jc (op_assign lb (.tmp rfl)) ?_
   refine JL.nil ?_
   refine JQ.then ?_
   refine JC.ret ?_
   replace hm := Option.some.inj hm
   subst hm
   exact JQ.done (js := [1, 0]) (ss := [.val (HDR go_8 0 (List.length v_7) gc_9)]) (go_8, gc_9) (.inl rfl) (.nil rfl) rfl (.cons (.tmp rfl) .nil) rfl rfl rfl
 · replace hm := nilK hm (show _ = (
         some ([] : (List UInt8))
         ) by simp [hb1_ rfl, viewL, apV, apEV, apE, subL, apL])
   refine JL.nil ?_
   refine JQ.then ?_
   refine JC.condT (.tmp rfl) rfl ?_
   refine JC.seq ?_
   refine JC.region ?_
   refine jc (op_assign lb HasO.nilH) ?_
   refine JL.nil ?_
   refine JQ.then ?_
   refine JC.ret ?_
   refine JQ.outR ?_
   replace hm := Option.some.inj hm
   subst hm
   refine JQ.pre (Imp.nilown (rU UInt8)) ?_
   exact JQ.done (js := [1, 0]) (ss := [.val (HDR none 0 (List.length ([] : (List UInt8))) (0))]) (none, 0) (.inl rfl) (.nil rfl) rfl (.cons (.tmp rfl) .nil) rfl rfl rfl

theorem sim_net_Net_lay'2 (k : Nat) (p_1 : net_pair) (o_2 : Nat) (n_3 : Nat) (ends_4 : Int) (lost_5 : Int) (x_7 : (List (net_pair × (List (List UInt8))))) (x_9 : (List UInt8)) (gb_6 : Nat) (go_8 : Option Nat) (go_10 : Option Nat) (gc_11 : Nat) (r : (List (net_pair × (List (List UInt8))))) (hm : net_Net_lay'2 k p_1 o_2 n_3 ends_4 lost_5 x_7 x_9 = some r) : Sim Try.prog 30 [PTR gb_6 0, A r_net_pair p_1, HDX go_10 (o_2 * 1) n_3] [cvar gb_6 (rP (rW (MPV go_8)) (rP (rI .i64) (rP (rI .i64) r0))) ((), (ends_4, (lost_5, ()))), cmap go_8 (A r_net_pair) (S (rL (rL (rU UInt8)))) (some x_7), cown go_10 (rU UInt8) x_9 0 gc_11] (γ := Unit) (fun q => [cvar gb_6 (rP (rW (MPV go_8)) (rP (rI .i64) (rP (rI .i64) r0))) ((), (ends_4, (lost_5, ()))), cmap go_8 (A r_net_pair) (S (rL (rL (rU UInt8)))) (some r), cown go_10 (rU UInt8) x_9 0 gc_11]) (fun q => .tup []) := by
 unfold net_Net_lay'2 at hm
 refine Sim.of Try.func30 rfl rfl (Nat.le_of_ble_eq_true rfl) (fun e0 w0 => ?_)
 refine JC.at ⟨[(0, ov (PTR gb_6 0)), (1, ov (A r_net_pair p_1)), (2, ov (HDX go_10 (o_2 * 1) n_3))], [cvar gb_6 (rP (rW (MPV go_8)) (rP (rI .i64) (rP (rI .i64) r0))) ((), (ends_4, (lost_5, ()))), cmap go_8 (A r_net_pair) (S (rL (rL (rU UInt8)))) (some x_7), cown go_10 (rU UInt8) x_9 0 gc_11], []⟩ ?_
 refine JC.seq ?_
 refine JC.region ?_
 refine jx (op_boxA lb (.tmp rfl)) (fun q => ?_)
 obtain ⟨gb_12, hqq⟩ : ∃ z, z = q := ⟨_, rfl⟩
 subst hqq
 refine JL.nil ?_
 refine JQ.then ?_
 refine JC.seq ?_
 replace hm := lt1_inv hm
 obtain ⟨v_13, hv_v_13, hm⟩ := hm
 refine JC.anyE (kl := []) (kk := 0) (base := [(0, ov (PTR gb_6 0)), (2, ov (HDX go_10 (o_2 * 1) n_3)), (4, ov (PTR gb_12 0))])
     (fs := fun γ => [⟨some 7, ov (PTR gb_6 0)⟩, ⟨some 8, ov (PTR gb_6 0)⟩, ⟨some 9, ov (PTR gb_6 (0 + 0))⟩, ⟨some 10, ov (MPV go_8)⟩, ⟨some 11, ov (A r_net_pair p_1)⟩, ⟨some 12, ov (S (rL (rL (rU UInt8))) v_13)⟩, ⟨some 6, ov (S (rL (rL (rU UInt8))) v_13)⟩])
     (rs := fun γ => [⟨cvar gb_6 (rP (rW (MPV go_8)) (rP (rI .i64) (rP (rI .i64) r0))) ((), (ends_4, (lost_5, ()))), none, none, [3]⟩, ⟨cmap go_8 (A r_net_pair) (S (rL (rL (rU UInt8)))) (some x_7), none, none, [5]⟩, ⟨cown go_10 (rU UInt8) x_9 0 gc_11, none, none, []⟩, ⟨cvar gb_12 r_net_pair p_1, none, none, [4]⟩])
     (ds := [7, 8, 9, 10, 11, 12, 6]) (bs := [0, 2, 4]) (afts := [[], [], [], [], [], [], []]) (js := [0, 0, 0, 0]) mixed (.cons rfl (.cons rfl (.cons rfl .nil))) (fun _ => rfl)
     (by
      refine dS 1 (fun γ ρ B hb hd => op_move lb (.tmp (hb 0 _ rfl))) ?_
      refine dS 2 (fun γ ρ B hb hd => op_nilCheck lb (.tmp (hl hd 0 7 rfl)) (fun e v h => by subst h; rfl)) ?_
      refine dS 3 (fun γ ρ B hb hd => op_fieldAddr (off := 0) lb tf57_0 (.tmp (hl hd 1 8 rfl))) ?_
      refine DSteps.cons (j := 4) rfl (fun _ => rfl) (.run (fun γ ρ B hb hd => ⟨.none, OpStep.at ⟨ρ, (cvar gb_6 (rP (rW (MPV go_8)) (rP (rI .i64) (rP (rI .i64) r0))) ((), (ends_4, (lost_5, ())))) :: B, _⟩ (setO ⟨ρ, (cvar gb_6 (rP (rW (MPV go_8)) (rP (rI .i64) (rP (rI .i64) r0))) ((), (ends_4, (lost_5, ())))) :: B, _⟩ _ _) (op_loadW (j := 0) lb tS55 (.tmp (hl hd 2 9 rfl)) rfl (Comp.trans (Comp.self (rP (rW (MPV go_8)) (rP (rI .i64) (rP (rI .i64) r0))) ((), (ends_4, (lost_5, ())))) (Comp.at' (Comp.inF (Comp.self (rW (MPV go_8)) ()) (Nat.le_of_ble_eq_true rfl)) (by rfl : _ = 0)) (Nat.le_of_ble_eq_true rfl)))⟩)) ?_
      refine DSteps.cons (j := 5) rfl (fun _ => rfl) (.run (fun γ ρ B hb hd => ⟨.none, OpStep.at ⟨ρ, (cvar gb_12 r_net_pair p_1) :: B, _⟩ (setO ⟨ρ, (cvar gb_12 r_net_pair p_1) :: B, _⟩ _ _) (op_loadA (j := 0) lb tA60 (.tmp (hb 4 _ rfl)) rfl (Comp.self r_net_pair p_1) rfl)⟩)) ?_
      refine DSteps.cons (j := 6) rfl (fun _ => rfl) (.run (fun γ ρ B hb hd => ⟨.none, OpStep.at ⟨ρ, (cmap go_8 (A r_net_pair) (S (rL (rL (rU UInt8)))) (some x_7)) :: B, _⟩ (setO ⟨ρ, (cmap go_8 (A r_net_pair) (S (rL (rL (rU UInt8)))) (some x_7)) :: B, _⟩ _ _) (op_lookup (z0 := ([] : (List (List UInt8)))) (j := 0) lb tu55 ky60 tZ58 (fun e => zv58 e) rfl (.tmp (hl hd 3 10 rfl)) (.tmp (hl hd 4 11 rfl)) hv_v_13)⟩)) ?_
      refine dS 7 (fun γ ρ B hb hd => op_assign lb (.tmp (hl hd 5 12 rfl))) ?_
      exact DSteps.nil)
     (by decide +kernel) (fun _ => rfl) rfl (fun _ => rfl) (fun _ => rfl) rfl (by decide) (by decide) (by decide +kernel) (fun _ d h => by cases h)
     (ρ' := fun γ => [(0, ov (PTR gb_6 0)), (2, ov (HDX go_10 (o_2 * 1) n_3)), (4, ov (PTR gb_12 0)), (6, ov (S (rL (rL (rU UInt8))) v_13))])
     (X' := fun γ => [cvar gb_6 (rP (rW (MPV go_8)) (rP (rI .i64) (rP (rI .i64) r0))) ((), (ends_4, (lost_5, ()))), cmap go_8 (A r_net_pair) (S (rL (rL (rU UInt8)))) (some x_7), cown go_10 (rU UInt8) x_9 0 gc_11, cvar gb_12 r_net_pair p_1])
     (fun γ ρ hb hd => (.cons (hb 0 _ rfl (by decide)) (.cons (hb 2 _ rfl (by decide)) (.cons (hb 4 _ rfl (by decide)) (.cons (hdq hd 6 6 rfl) .nil))))) (fun _ => rfl) (fun γ => ?_)
 refine JQ.at ⟨[(0, ov (PTR gb_6 0)), (2, ov (HDX go_10 (o_2 * 1) n_3)), (4, ov (PTR gb_12 0)), (6, ov (S (rL (rL (rU UInt8))) v_13))], [cvar gb_6 (rP (rW (MPV go_8)) (rP (rI .i64) (rP (rI .i64) r0))) ((), (ends_4, (lost_5, ()))), cmap go_8 (A r_net_pair) (S (rL (rL (rU UInt8)))) (some x_7), cown go_10 (rU UInt8) x_9 0 gc_11, cvar gb_12 r_net_pair p_1], []⟩ ?_
 refine JQ.then ?_
 replace hm := bnd_inv hm
 obtain ⟨v_14, hv_v_14, hm⟩ := hm
 replace hm := bnd_inv hm
 obtain ⟨v_15, hv_v_15, hm⟩ := hm
 replace hm := bnd_inv hm
 obtain ⟨v_18, hv_v_18, hm⟩ := hm
 replace hm := lt1_inv hm
 obtain ⟨x_19, hv_x_19, hm⟩ := hm
 refine JC.anyE (kl := []) (kk := 0) (base := [(0, ov (PTR gb_6 0)), (2, ov (HDX go_10 (o_2 * 1) n_3)), (4, ov (PTR gb_12 0)), (6, ov (S (rL (rL (rU UInt8))) v_13))])
     (fs := fun γ => [⟨some 13, ov (PTR gb_6 0)⟩, ⟨some 14, ov (PTR gb_6 0)⟩, ⟨some 15, ov (PTR gb_6 (0 + 0))⟩, ⟨some 16, ov (MPV go_8)⟩, ⟨some 17, ov (A r_net_pair p_1)⟩, ⟨some 18, ov (S (rL (rL (rU UInt8))) v_13)⟩, ⟨some 19, ov (S (rL (rL (rU UInt8))) v_13)⟩, ⟨some 20, ov (S (rI .i64) (List.length v_13 : Int))⟩, ⟨some 21, ov (S (rL (rL (rU UInt8))) v_13)⟩, ⟨some 22, ov (S (rI .i64) (List.length v_13 : Int))⟩, ⟨some 23, ov (S (rLc (rL (rU UInt8))) v_14)⟩, ⟨some 24, ov (HDX go_10 (o_2 * 1) n_3)⟩, ⟨some 25, ov (S (rL (rU UInt8)) v_15)⟩, ⟨some 26, ov (S (rL (rL (rU UInt8))) ([v_15] : (List (List UInt8))))⟩, ⟨some 27, ov (S (rL (rL (rU UInt8))) v_18)⟩, ⟨none, .one .any⟩])
     (rs := fun γ => [⟨cvar gb_6 (rP (rW (MPV go_8)) (rP (rI .i64) (rP (rI .i64) r0))) ((), (ends_4, (lost_5, ()))), none, none, [3]⟩, ⟨cmap go_8 (A r_net_pair) (S (rL (rL (rU UInt8)))) (some x_7), none, (some 15), []⟩, ⟨cown go_10 (rU UInt8) x_9 0 gc_11, none, (some 12), []⟩, ⟨cvar gb_12 r_net_pair p_1, none, none, [4]⟩, ⟨cown go_10 (rU UInt8) x_9 0 gc_11, (some 12), none, []⟩, ⟨cmap go_8 (A r_net_pair) (S (rL (rL (rU UInt8)))) (some x_19), (some 15), none, []⟩])
     (ds := [13, 14, 15, 16, 17, 18, 19, 20, 21, 22, 23, 24, 25, 26, 27]) (bs := [0, 2, 4, 6]) (afts := [[], [], [], [], [], [], [], [], [], [], [], [], [], [], [], []]) (js := [0, 0, 0, 0]) mixed (.cons rfl (.cons rfl (.cons rfl (.cons rfl .nil)))) (fun _ => rfl)
     (by
      refine dS 1 (fun γ ρ B hb hd => op_move lb (.tmp (hb 0 _ rfl))) ?_
      refine dS 2 (fun γ ρ B hb hd => op_nilCheck lb (.tmp (hl hd 0 13 rfl)) (fun e v h => by subst h; rfl)) ?_
      refine dS 3 (fun γ ρ B hb hd => op_fieldAddr (off := 0) lb tf57_0 (.tmp (hl hd 1 14 rfl))) ?_
      refine DSteps.cons (j := 4) rfl (fun _ => rfl) (.run (fun γ ρ B hb hd => ⟨.none, OpStep.at ⟨ρ, (cvar gb_6 (rP (rW (MPV go_8)) (rP (rI .i64) (rP (rI .i64) r0))) ((), (ends_4, (lost_5, ())))) :: B, _⟩ (setO ⟨ρ, (cvar gb_6 (rP (rW (MPV go_8)) (rP (rI .i64) (rP (rI .i64) r0))) ((), (ends_4, (lost_5, ())))) :: B, _⟩ _ _) (op_loadW (j := 0) lb tS55 (.tmp (hl hd 2 15 rfl)) rfl (Comp.trans (Comp.self (rP (rW (MPV go_8)) (rP (rI .i64) (rP (rI .i64) r0))) ((), (ends_4, (lost_5, ())))) (Comp.at' (Comp.inF (Comp.self (rW (MPV go_8)) ()) (Nat.le_of_ble_eq_true rfl)) (by rfl : _ = 0)) (Nat.le_of_ble_eq_true rfl)))⟩)) ?_
      refine DSteps.cons (j := 5) rfl (fun _ => rfl) (.run (fun γ ρ B hb hd => ⟨.none, OpStep.at ⟨ρ, (cvar gb_12 r_net_pair p_1) :: B, _⟩ (setO ⟨ρ, (cvar gb_12 r_net_pair p_1) :: B, _⟩ _ _) (op_loadA (j := 0) lb tA60 (.tmp (hb 4 _ rfl)) rfl (Comp.self r_net_pair p_1) rfl)⟩)) ?_
      refine dS 6 (fun γ ρ B hb hd => op_move lb (.tmp (hb 6 _ rfl))) ?_
      refine dS 7 (fun γ ρ B hb hd => op_move lb (.tmp (hb 6 _ rfl))) ?_
      refine dS 8 (fun γ ρ B hb hd => op_lenL lb tu58 (.tmp (hl hd 6 19 rfl))) ?_
      refine dS 9 (fun γ ρ B hb hd => op_move lb (.tmp (hb 6 _ rfl))) ?_
      refine dS 10 (fun γ ρ B hb hd => op_lenL lb tu58 (.tmp (hl hd 8 21 rfl))) ?_
      refine dS 11 (fun γ ρ B hb hd => op_sliceLcg lb tu58 tz31 (.tmp (hl hd 5 18 rfl)) .none (.some (.tmp (hl hd 7 20 rfl))) (.some (.tmp (hl hd 9 22 rfl))) hv_v_14) ?_
      refine dS 12 (fun γ ρ B hb hd => op_move lb (.tmp (hb 2 _ rfl))) ?_
      refine DSteps.cons (j := 13) rfl (fun _ => rfl) (.run (fun γ ρ B hb hd => ⟨.none, OpStep.at ⟨ρ, (cown go_10 (rU UInt8) x_9 0 gc_11) :: B, _⟩ (setO ⟨ρ, (cown go_10 (rU UInt8) x_9 0 gc_11) :: B, _⟩ _ _) ((op_call (js := [0]) ld cl40 (sim_slices_Clonebyte_byte'3 k o_2 n_3 x_9 go_10 gc_11 v_15 hv_v_15) .func (.cons (.tmp (hl hd 11 24 rfl)) .nil) rfl).post (fun q => Imp.dropF (j := 0) rfl))⟩)) ?_
      refine dS 14 (fun γ ρ B hb hd => op_buildF (r := (rL (rU UInt8))) lb tu58 tz31 tZ31 rfl (Nat.le_of_ble_eq_true rfl) (.S rfl (.tmp (hl hd 12 25 rfl)) .nil) rfl) ?_
      refine dS 15 (fun γ ρ B hb hd => op_appendCL lb tu58 tu58 rfl tB31 rfl (Nat.lt_of_lt_of_le Nat.zero_lt_one (Nat.le_of_ble_eq_true rfl)) (.tmp (hl hd 10 23 rfl)) (.tmp (hl hd 13 26 rfl)) hv_v_18) ?_
      refine DSteps.cons (j := 16) rfl (fun _ => rfl) (.run (fun γ ρ B hb hd => ⟨.none, OpStep.at ⟨ρ, (cmap go_8 (A r_net_pair) (S (rL (rL (rU UInt8)))) (some x_7)) :: B, _⟩ (setO ⟨ρ, (cmap go_8 (A r_net_pair) (S (rL (rL (rU UInt8)))) (some x_19)) :: B, _⟩ _ _) (op_mapUpdate (j := 0) tu55 ky60 rfl (.tmp (hl hd 3 16 rfl)) (.tmp (hl hd 4 17 rfl)) (.tmp (hl hd 14 27 rfl)) (congrArg (fun z => some (some z)) hv_x_19))⟩)) ?_
      exact DSteps.nil)
     (by decide +kernel) (fun _ => rfl) rfl (fun _ => rfl) (fun _ => rfl) rfl (by decide) (by decide) (by decide +kernel) (fun _ d h => by cases h)
     (ρ' := fun γ => [])
     (X' := fun γ => [cvar gb_6 (rP (rW (MPV go_8)) (rP (rI .i64) (rP (rI .i64) r0))) ((), (ends_4, (lost_5, ()))), cvar gb_12 r_net_pair p_1, cown go_10 (rU UInt8) x_9 0 gc_11, cmap go_8 (A r_net_pair) (S (rL (rL (rU UInt8)))) (some x_19)])
     (fun γ ρ hb hd => .nil) (fun _ => rfl) (fun γ => ?_)
 refine JQ.at ⟨[], [cvar gb_6 (rP (rW (MPV go_8)) (rP (rI .i64) (rP (rI .i64) r0))) ((), (ends_4, (lost_5, ()))), cvar gb_12 r_net_pair p_1, cown go_10 (rU UInt8) x_9 0 gc_11, cmap go_8 (A r_net_pair) (S (rL (rL (rU UInt8)))) (some x_19)], []⟩ ?_
 replace hm := Option.some.inj hm
 subst hm
 refine JQ.pre (Imp.var (j := 0) (q := (rP (rW (MPV go_8)) (rP (rI .i64) (rP (rI .i64) r0)))) (y := ((), (ends_4, (lost_5, ())))) rfl Wk.refl) ?_
 exact JQ.done (js := [0, 2, 1]) (ss := []) () (.inr rfl) (.nil rfl) rfl .nil rfl rfl rfl

theorem sim_net_Net_Send'2 (k : Nat) (a_1 : Int) (a_2 : Int) (o_3 : Nat) (n_4 : Nat) (ends_5 : Int) (lost_6 : Int) (x_8 : (List (net_pair × (List (List UInt8))))) (x_10 : (List UInt8)) (gb_7 : Nat) (go_9 : Option Nat) (go_11 : Option Nat) (gc_12 : Nat) (r : Int × (List (net_pair × (List (List UInt8)))) × Int) (hm : net_Net_Send'2 k a_1 a_2 o_3 n_4 ends_5 lost_6 x_8 x_10 = some r) : Sim Try.prog 13 [PTR gb_7 0, S (rI .i64) a_1, S (rI .i64) a_2, HDX go_11 (o_3 * 1) n_4] [cvar gb_7 (rP (rW (MPV go_9)) (rP (rI .i64) (rP (rI .i64) r0))) ((), (ends_5, (lost_6, ()))), cmap go_9 (A r_net_pair) (S (rL (rL (rU UInt8)))) (some x_8), cown go_11 (rU UInt8) x_10 0 gc_12] (γ := Unit) (fun q => [cvar gb_7 (rP (rW (MPV go_9)) (rP (rI .i64) (rP (rI .i64) r0))) ((), (ends_5, (r.2.2, ()))), cmap go_9 (A r_net_pair) (S (rL (rL (rU UInt8)))) (some r.2.1), cown go_11 (rU UInt8) x_10 0 gc_12]) (fun q => .one (.val (S (rI .i64) r.1))) := by
 unfold net_Net_Send'2 at hm
 refine Sim.of Try.func13 rfl rfl (Nat.le_of_ble_eq_true rfl) (fun e0 w0 => ?_)
 refine JC.at ⟨[(0, ov (PTR gb_7 0)), (1, ov (S (rI .i64) a_1)), (2, ov (S (rI .i64) a_2)), (3, ov (HDX go_11 (o_3 * 1) n_4))], [cvar gb_7 (rP (rW (MPV go_9)) (rP (rI .i64) (rP (rI .i64) r0))) ((), (ends_5, (lost_6, ()))), cmap go_9 (A r_net_pair) (S (rL (rL (rU UInt8)))) (some x_8), cown go_11 (rU UInt8) x_10 0 gc_12], []⟩ ?_
 refine JC.seq ?_
 refine JC.region ?_
 refine jc (op_assign lb .cI) ?_
 refine JL.nil ?_
 refine JQ.then ?_
 refine JC.seq ?_
 refine JC.block ?_
 refine JC.seq ?_
 refine JC.region ?_
 refine jc (op_move lb (.tmp rfl)) ?_
 replace hm := bnd_inv hm
 obtain ⟨_, hv_u_13, hm⟩ := hm
 refine jx (op_call (js := [0, 0]) ld cl29 (sim_net_Net_there k ends_5 lost_6 x_8 gb_7 go_9 () hv_u_13) .func (.cons (.tmp rfl) .nil) rfl) (fun _ => ?_)
 refine jc (op_not lb (.tmp rfl) rfl) ?_
 refine jc (op_assign lb (.tmp rfl)) ?_
 refine JL.nil ?_
 refine JQ.then ?_
 refine JC.condF (.tmp rfl) rfl ?_
 replace hm := bnd_inv hm
 obtain ⟨x_22, hx1, hq1⟩ := hm
 refine JC.seqJ (γ := Unit) (stj := fun q => ⟨[(0, ov (PTR gb_7 0)), (1, ov (S (rI .i64) a_1)), (2, ov (S (rI .i64) a_2)), (3, ov (HDX go_11 (o_3 * 1) n_4)), (13, ov (S rB x_22))], [cvar gb_7 (rP (rW (MPV go_9)) (rP (rI .i64) (rP (rI .i64) r0))) ((), (ends_5, (lost_6, ()))), cmap go_9 (A r_net_pair) (S (rL (rL (rU UInt8)))) (some x_8), cown go_11 (rU UInt8) x_10 0 gc_12], []⟩) (fun q => ?_) ?_
 · obtain _ := q
   refine JC.at ⟨[(0, ov (PTR gb_7 0)), (1, ov (S (rI .i64) a_1)), (2, ov (S (rI .i64) a_2)), (3, ov (HDX go_11 (o_3 * 1) n_4)), (13, ov (S rB x_22))], [cvar gb_7 (rP (rW (MPV go_9)) (rP (rI .i64) (rP (rI .i64) r0))) ((), (ends_5, (lost_6, ()))), cmap go_9 (A r_net_pair) (S (rL (rL (rU UInt8)))) (some x_8), cown go_11 (rU UInt8) x_10 0 gc_12], []⟩ ?_
   replace hq1 := iteB_inv hq1
   rcases hq1 with ⟨hc17, hq1⟩ | ⟨hc17, hq1⟩
   · refine JC.condT (.tmp rfl) hc17 ?_
     refine JC.seq ?_
     refine JC.region ?_
     refine jc (op_assign lb .cI) ?_
     refine JL.nil ?_
     refine JQ.then ?_
     refine JC.ret ?_
     refine JQ.outRB ?_
     refine JQ.outR ?_
     replace hq1 := Option.some.inj hq1
     subst hq1
     exact JQ.done (js := [0, 0, 0]) (ss := [.val (S (rI .i64) (2 : Int))]) () (.inl rfl) (.nil rfl) rfl (.cons (.tmp rfl) .nil) rfl rfl rfl
   · refine JC.condF (.tmp rfl) hc17 ?_
     refine JC.seq ?_
     refine JC.region ?_
     refine jc (op_move lb (.tmp rfl)) ?_
     refine jc (op_nilCheck lb (.tmp rfl) (fun e v h => by subst h; rfl)) ?_
     refine jc (op_fieldAddr (off := 0) lb tf57_0 (.tmp rfl)) ?_
     refine jc (op_loadW (j := 0) lb tS55 (.tmp rfl) rfl (Comp.trans (Comp.self (rP (rW (MPV go_9)) (rP (rI .i64) (rP (rI .i64) r0))) ((), (ends_5, (lost_6, ())))) (Comp.at' (Comp.inF (Comp.self (rW (MPV go_9)) ()) (Nat.le_of_ble_eq_true rfl)) (by rfl : _ = 0)) (Nat.le_of_ble_eq_true rfl))) ?_
     refine jc (op_move lb (.tmp rfl)) ?_
     refine jc (op_move lb (.tmp rfl)) ?_
     refine jc (op_build lb tZ60 zs60 tp60 (.S (off := 0) rfl (.tmp rfl) rfl ((UpdR.fst (UpdR.self (by rfl))).at (by rfl)) (.S (off := 1) rfl (.tmp rfl) rfl ((UpdR.snd (UpdR.fst (UpdR.self (by rfl)))).at (by rfl)) .nil)) rfl) ?_
     replace hq1 := lt1_inv hq1
     obtain ⟨v_23, hv_v_23, hq1⟩ := hq1
     refine jc (op_lookup (z0 := ([] : (List (List UInt8)))) (j := 1) lb tu55 ky60 tZ58 (fun e => zv58 e) rfl (.tmp rfl) (HasO.wk (q := A r_net_pair (net_pair.mk a_1 a_2)) (.tmp rfl) (wkAK (Wk.st Wk.refl))) hv_v_23) ?_
     refine jc (op_lenL lb tu58 (.tmp rfl)) ?_
     replace hq1 := lt1_inv hq1
     obtain ⟨v_24, hv_v_24, hq1⟩ := hq1
     refine jc (op_cmpI lb (.tmp rfl) .cI (congrArg some hv_v_24)) ?_
     refine jc (op_assign lb (.tmp rfl)) ?_
     refine JL.nil ?_
     refine JQ.then ?_
     replace hq1 := iteB_inv hq1
     rcases hq1 with ⟨hc18, hq1⟩ | ⟨hc18, hq1⟩
     · refine JC.condT (.tmp rfl) hc18 ?_
       refine JC.seq ?_
       refine JC.region ?_
       refine jc (op_move lb (.tmp rfl)) ?_
       refine JL.sub ⟨[(57, ov (PTR gb_7 0))], [cvar gb_7 (rP (rW (MPV go_9)) (rP (rI .i64) (rP (rI .i64) r0))) ((), (ends_5, (lost_6, ()))), cmap go_9 (A r_net_pair) (S (rL (rL (rU UInt8)))) (some x_8), cown go_11 (rU UInt8) x_10 0 gc_12], []⟩ (.cons rfl .nil) rfl rfl ?_
       refine jc (op_nilCheck lb (.tmp rfl) (fun e v h => by subst h; rfl)) ?_
       refine jc (op_fieldAddr (off := 2) lb tf57_2 (.tmp rfl)) ?_
       refine jc (op_loadS (j := 0) lb tS3 (.tmp rfl) rfl (Comp.trans (Comp.self (rP (rW (MPV go_9)) (rP (rI .i64) (rP (rI .i64) r0))) ((), (ends_5, (lost_6, ())))) (Comp.at' (Comp.inS (Comp.inS (Comp.inF (Comp.self (rI .i64) lost_6) (Nat.le_of_ble_eq_true rfl)))) (by rfl : _ = 2)) (Nat.le_of_ble_eq_true rfl)) rfl rfl) ?_
       replace hq1 := lt1_inv hq1
       obtain ⟨v_25, hv_v_25, hq1⟩ := hq1
       refine jc (op_arI lb (.tmp rfl) .cI (congrArg some hv_v_25)) ?_
       refine jc (op_nilCheck lb (.tmp rfl) (fun e v h => by subst h; rfl)) ?_
       refine jc (op_fieldAddr (off := 2) lb tf57_2 (.tmp rfl)) ?_
       refine jc (op_storeS (j := 0) tS3 (.tmp rfl) (.tmp rfl) rfl rfl ((UpdR.snd (UpdR.snd (UpdR.fst (UpdR.self (by rfl))))).at (by change (1 + (1 + 0)) = (0 + 2); omega)) rfl) ?_
       refine JL.nil ?_
       refine JQ.then ?_
       refine JC.seq ?_
       refine JC.region ?_
       refine jc (op_assign lb .cI) ?_
       refine JL.nil ?_
       refine JQ.then ?_
       refine JC.ret ?_
       refine JQ.outRB ?_
       refine JQ.outR ?_
       replace hq1 := Option.some.inj hq1
       subst hq1
       exact JQ.done (js := [0, 0, 0]) (ss := [.val (S (rI .i64) (5 : Int))]) () (.inl rfl) (.nil rfl) rfl (.cons (.tmp rfl) .nil) rfl rfl rfl
     · refine JC.condF (.tmp rfl) hc18 ?_
       refine JC.skip ?_
       refine JQ.outNB ?_
       refine JQ.then ?_
       refine JC.seq ?_
       refine JC.region ?_
       refine jc (op_move lb (.tmp rfl)) ?_
       refine JL.sub ⟨[(1, ov (S (rI .i64) a_1)), (2, ov (S (rI .i64) a_2)), (3, ov (HDX go_11 (o_3 * 1) n_4)), (64, ov (PTR gb_7 0))], [cvar gb_7 (rP (rW (MPV go_9)) (rP (rI .i64) (rP (rI .i64) r0))) ((), (ends_5, (lost_6, ()))), cmap go_9 (A r_net_pair) (S (rL (rL (rU UInt8)))) (some x_8), cown go_11 (rU UInt8) x_10 0 gc_12], []⟩ (.cons rfl (.cons rfl (.cons rfl (.cons rfl .nil)))) rfl rfl ?_
       refine jc (op_move lb (.tmp rfl)) ?_
       refine jc (op_move lb (.tmp rfl)) ?_
       refine jc (op_build lb tZ60 zs60 tp60 (.S (off := 0) rfl (.tmp rfl) rfl ((UpdR.fst (UpdR.self (by rfl))).at (by rfl)) (.S (off := 1) rfl (.tmp rfl) rfl ((UpdR.snd (UpdR.fst (UpdR.self (by rfl)))).at (by rfl)) .nil)) rfl) ?_
       refine jc (op_move lb (.tmp rfl)) ?_
       replace hq1 := bnd_inv hq1
       obtain ⟨x_26, hv_x_26, hq1⟩ := hq1
       refine jx (op_call (js := [0, 0, 0]) ld cl30 (sim_net_Net_lay'2 k (net_pair.mk a_1 a_2) o_3 n_4 ends_5 lost_6 x_8 x_10 gb_7 go_9 go_11 gc_12 x_26 hv_x_26) .func (.cons (.tmp rfl) (.cons (HasO.wk (q := A r_net_pair (net_pair.mk a_1 a_2)) (.tmp rfl) (wkAK (Wk.st Wk.refl))) (.cons (.tmp rfl) .nil))) rfl) (fun _ => ?_)
       refine JL.nil ?_
       refine JQ.then ?_
       refine JC.seq ?_
       refine JC.region ?_
       refine jc (op_assign lb .cI) ?_
       refine JL.nil ?_
       refine JQ.then ?_
       refine JC.ret ?_
       replace hq1 := Option.some.inj hq1
       subst hq1
       exact JQ.done (js := [0, 0, 0]) (ss := [.val (S (rI .i64) (0 : Int))]) () (.inl rfl) (.nil rfl) rfl (.cons (.tmp rfl) .nil) rfl rfl rfl
 · refine JC.region ?_
   refine jc (op_move lb (.tmp rfl)) ?_
   replace hx1 := lt1_inv hx1
   obtain ⟨v_14, hv_v_14, hx1⟩ := hx1
   refine jc (op_cmpI lb (.tmp rfl) .cI (congrArg some hv_v_14)) ?_
   refine jc (op_move lb (.tmp rfl)) ?_
   refine JL.cnd (sv := ov (S (rI .i64) a_1)) (Guard.isF (ltB rfl) rfl rfl) rfl (ltB rfl) (fun hq_2 => op_move lb (.tmp rfl)) ?_
   replace hx1 := iteB_inv hx1
   rcases hx1 with ⟨hc4, hx1⟩ | ⟨hc4, hx1⟩
   · refine JL.skip (.no rfl (ltB rfl) rfl hc4) (fun d h => by cases h; exact ltB rfl) ?_
     refine JL.skip (.no rfl (ltB rfl) rfl hc4) (fun d h => by cases h; exact ltB rfl) ?_
     refine JL.skip (.no rfl (ltB rfl) rfl hc4) (fun d h => by cases h; exact ltB rfl) ?_
     refine JL.skip (.no rfl (ltB rfl) rfl hc4) (fun d h => by cases h; exact ltB rfl) ?_
     refine JL.skip (.no rfl (ltB rfl) rfl hc4) (fun d h => by cases h; exact ltB rfl) ?_
     refine jc (op_pickT lb (.tmp rfl) hc4 .cB) ?_
     refine JL.sub ⟨[(0, ov (PTR gb_7 0)), (1, ov (S (rI .i64) a_1)), (2, ov (S (rI .i64) a_2)), (3, ov (HDX go_11 (o_3 * 1) n_4)), (23, ov (S rB true))], [cvar gb_7 (rP (rW (MPV go_9)) (rP (rI .i64) (rP (rI .i64) r0))) ((), (ends_5, (lost_6, ()))), cmap go_9 (A r_net_pair) (S (rL (rL (rU UInt8)))) (some x_8), cown go_11 (rU UInt8) x_10 0 gc_12], []⟩ (.cons rfl (.cons rfl (.cons rfl (.cons rfl (.cons rfl .nil))))) rfl rfl ?_
     refine jc (op_move lb (.tmp rfl)) ?_
     refine JL.skip (.no rfl (ltB rfl) rfl rfl) (fun d h => by cases h; exact ltB rfl) ?_
     refine JL.skip (.no rfl (ltB rfl) rfl rfl) (fun d h => by cases h; exact ltB rfl) ?_
     refine jc (op_pickT lb (.tmp rfl) rfl .cB) ?_
     refine jc (op_move lb (.tmp rfl)) ?_
     refine JL.skip (.no rfl (ltB rfl) rfl rfl) (fun d h => by cases h; exact ltB rfl) ?_
     refine JL.skip (.no rfl (ltB rfl) rfl rfl) (fun d h => by cases h; exact ltB rfl) ?_
     refine JL.skip (.no rfl (ltB rfl) rfl rfl) (fun d h => by cases h; exact ltB rfl) ?_
     refine JL.skip (.no rfl (ltB rfl) rfl rfl) (fun d h => by cases h; exact ltB rfl) ?_
     refine JL.skip (.no rfl (ltB rfl) rfl rfl) (fun d h => by cases h; exact ltB rfl) ?_
     refine JL.skip (.no rfl (ltB rfl) rfl rfl) (fun d h => by cases h; exact ltB rfl) ?_
     refine jc (op_pickT lb (.tmp rfl) rfl .cB) ?_
     refine jc (op_move lb (.tmp rfl)) ?_
     refine JL.skip (.no rfl (ltB rfl) rfl rfl) (fun d h => by cases h; exact ltB rfl) ?_
     refine JL.skip (.no rfl (ltB rfl) rfl rfl) (fun d h => by cases h; exact ltB rfl) ?_
     refine JL.skip (.no rfl (ltB rfl) rfl rfl) (fun d h => by cases h; exact ltB rfl) ?_
     refine jc (op_pickT lb (.tmp rfl) rfl .cB) ?_
     refine jc (op_move lb (.tmp rfl)) ?_
     refine JL.skip (.no rfl (ltB rfl) rfl rfl) (fun d h => by cases h; exact ltB rfl) ?_
     refine JL.skip (.no rfl (ltB rfl) rfl rfl) (fun d h => by cases h; exact ltB rfl) ?_
     refine JL.skip (.no rfl (ltB rfl) rfl rfl) (fun d h => by cases h; exact ltB rfl) ?_
     refine jc (op_pickT lb (.tmp rfl) rfl .cB) ?_
     refine jc (op_assign lb (.tmp rfl)) ?_
     refine JL.nil ?_
     replace hx1 := Option.some.inj hx1
     first | subst hx1 | clear hx1
     exact JQ.join () (Imp.norm (js := [0, 0, 0]) rfl (.cons rfl (.cons rfl (.cons rfl (.cons rfl (.cons rfl .nil))))))
   · refine JL.run (.yes rfl (ltB rfl) rfl hc4) (op_move lb (.tmp rfl)) ?_
     refine JL.sub ⟨[(0, ov (PTR gb_7 0)), (1, ov (S (rI .i64) a_1)), (2, ov (S (rI .i64) a_2)), (3, ov (HDX go_11 (o_3 * 1) n_4)), (16, ov (S rB v_14)), (17, bif (!v_14) then ov (S (rI .i64) a_1) else .one .und), (18, ov (PTR gb_7 0))], [cvar gb_7 (rP (rW (MPV go_9)) (rP (rI .i64) (rP (rI .i64) r0))) ((), (ends_5, (lost_6, ()))), cmap go_9 (A r_net_pair) (S (rL (rL (rU UInt8)))) (some x_8), cown go_11 (rU UInt8) x_10 0 gc_12], []⟩ (.cons rfl (.cons rfl (.cons rfl (.cons rfl (.cons rfl (.cons rfl (.cons rfl .nil))))))) rfl rfl ?_
     refine JL.run (.yes rfl (ltB rfl) rfl hc4) (op_nilCheck lb (.tmp rfl) (fun e v h => by subst h; rfl)) ?_
     refine JL.run (.yes rfl (ltB rfl) rfl hc4) (op_fieldAddr (off := 1) lb tf57_1 (.tmp rfl)) ?_
     refine JL.run (.yes rfl (ltB rfl) rfl hc4) (op_loadS (j := 0) lb tS3 (.tmp rfl) rfl (Comp.trans (Comp.self (rP (rW (MPV go_9)) (rP (rI .i64) (rP (rI .i64) r0))) ((), (ends_5, (lost_6, ())))) (Comp.at' (Comp.inS (Comp.inF (Comp.self (rI .i64) ends_5) (Nat.le_of_ble_eq_true rfl))) (by rfl : _ = 1)) (Nat.le_of_ble_eq_true rfl)) rfl rfl) ?_
     replace hx1 := lt1_inv hx1
     obtain ⟨v_15, hv_v_15, hx1⟩ := hx1
     refine JL.run (.yes rfl (ltB rfl) rfl hc4) (op_cmpI lb (HasO.cnd (.tmp rfl) (notT hc4)) (.tmp rfl) (congrArg some hv_v_15)) ?_
     refine jc (op_pickF lb (.tmp rfl) hc4 (.tmp rfl)) ?_
     refine jc (op_move lb (.tmp rfl)) ?_
     refine JL.cnd (sv := ov (S (rI .i64) a_2)) (Guard.isF (ltB rfl) rfl rfl) rfl (ltB rfl) (fun hq_5 => op_move lb (.tmp rfl)) ?_
     replace hx1 := lt1_inv hx1
     obtain ⟨v_16, hv_v_16, hx1⟩ := hx1
     refine JL.cnd (sv := ov (S rB v_16)) (Guard.isF (ltB rfl) rfl rfl) rfl (ltB rfl) (fun hq_6 => op_cmpI lb (HasO.cnd (.tmp rfl) (notT (notF hq_6))) .cI (congrArg some hv_v_16)) ?_
     replace hx1 := lt1_inv hx1
     obtain ⟨v_17, hv_v_17, hx1⟩ := hx1
     refine jc (op_pickCS lb (.tmp rfl) (fun hb7 => .cB) (fun hb7 => (HasO.cnd (.tmp rfl) (notT hb7))) hv_v_17) ?_
     refine jc (op_move lb (.tmp rfl)) ?_
     refine JL.cnd (sv := ov (S (rI .i64) a_2)) (Guard.isF (ltB rfl) rfl rfl) rfl (ltB rfl) (fun hq_8 => op_move lb (.tmp rfl)) ?_
     replace hx1 := iteB_inv hx1
     rcases hx1 with ⟨hc10, hx1⟩ | ⟨hc10, hx1⟩
     · refine JL.skip (.no rfl (ltB rfl) rfl hc10) (fun d h => by cases h; exact ltB rfl) ?_
       refine JL.skip (.no rfl (ltB rfl) rfl hc10) (fun d h => by cases h; exact ltB rfl) ?_
       refine JL.skip (.no rfl (ltB rfl) rfl hc10) (fun d h => by cases h; exact ltB rfl) ?_
       refine JL.skip (.no rfl (ltB rfl) rfl hc10) (fun d h => by cases h; exact ltB rfl) ?_
       refine JL.skip (.no rfl (ltB rfl) rfl hc10) (fun d h => by cases h; exact ltB rfl) ?_
       refine jc (op_pickT lb (.tmp rfl) hc10 .cB) ?_
       refine JL.sub ⟨[(0, ov (PTR gb_7 0)), (1, ov (S (rI .i64) a_1)), (2, ov (S (rI .i64) a_2)), (3, ov (HDX go_11 (o_3 * 1) n_4)), (35, ov (S rB true))], [cvar gb_7 (rP (rW (MPV go_9)) (rP (rI .i64) (rP (rI .i64) r0))) ((), (ends_5, (lost_6, ()))), cmap go_9 (A r_net_pair) (S (rL (rL (rU UInt8)))) (some x_8), cown go_11 (rU UInt8) x_10 0 gc_12], []⟩ (.cons rfl (.cons rfl (.cons rfl (.cons rfl (.cons rfl .nil))))) rfl rfl ?_
       refine jc (op_move lb (.tmp rfl)) ?_
       refine JL.skip (.no rfl (ltB rfl) rfl rfl) (fun d h => by cases h; exact ltB rfl) ?_
       refine JL.skip (.no rfl (ltB rfl) rfl rfl) (fun d h => by cases h; exact ltB rfl) ?_
       refine JL.skip (.no rfl (ltB rfl) rfl rfl) (fun d h => by cases h; exact ltB rfl) ?_
       refine jc (op_pickT lb (.tmp rfl) rfl .cB) ?_
       refine jc (op_move lb (.tmp rfl)) ?_
       refine JL.skip (.no rfl (ltB rfl) rfl rfl) (fun d h => by cases h; exact ltB rfl) ?_
       refine JL.skip (.no rfl (ltB rfl) rfl rfl) (fun d h => by cases h; exact ltB rfl) ?_
       refine JL.skip (.no rfl (ltB rfl) rfl rfl) (fun d h => by cases h; exact ltB rfl) ?_
       refine jc (op_pickT lb (.tmp rfl) rfl .cB) ?_
       refine jc (op_assign lb (.tmp rfl)) ?_
       refine JL.nil ?_
       replace hx1 := Option.some.inj hx1
       first | subst hx1 | clear hx1
       exact JQ.join () (Imp.norm (js := [0, 0, 0]) rfl (.cons rfl (.cons rfl (.cons rfl (.cons rfl (.cons rfl .nil))))))
     · refine JL.run (.yes rfl (ltB rfl) rfl hc10) (op_move lb (.tmp rfl)) ?_
       refine JL.sub ⟨[(0, ov (PTR gb_7 0)), (1, ov (S (rI .i64) a_1)), (2, ov (S (rI .i64) a_2)), (3, ov (HDX go_11 (o_3 * 1) n_4)), (28, ov (S rB v_17)), (29, bif (!v_17) then ov (S (rI .i64) a_2) else .one .und), (30, ov (PTR gb_7 0))], [cvar gb_7 (rP (rW (MPV go_9)) (rP (rI .i64) (rP (rI .i64) r0))) ((), (ends_5, (lost_6, ()))), cmap go_9 (A r_net_pair) (S (rL (rL (rU UInt8)))) (some x_8), cown go_11 (rU UInt8) x_10 0 gc_12], []⟩ (.cons rfl (.cons rfl (.cons rfl (.cons rfl (.cons rfl (.cons rfl (.cons rfl .nil))))))) rfl rfl ?_
       refine JL.run (.yes rfl (ltB rfl) rfl hc10) (op_nilCheck lb (.tmp rfl) (fun e v h => by subst h; rfl)) ?_
       refine JL.run (.yes rfl (ltB rfl) rfl hc10) (op_fieldAddr (off := 1) lb tf57_1 (.tmp rfl)) ?_
       refine JL.run (.yes rfl (ltB rfl) rfl hc10) (op_loadS (j := 0) lb tS3 (.tmp rfl) rfl (Comp.trans (Comp.self (rP (rW (MPV go_9)) (rP (rI .i64) (rP (rI .i64) r0))) ((), (ends_5, (lost_6, ())))) (Comp.at' (Comp.inS (Comp.inF (Comp.self (rI .i64) ends_5) (Nat.le_of_ble_eq_true rfl))) (by rfl : _ = 1)) (Nat.le_of_ble_eq_true rfl)) rfl rfl) ?_
       replace hx1 := lt1_inv hx1
       obtain ⟨v_18, hv_v_18, hx1⟩ := hx1
       refine JL.run (.yes rfl (ltB rfl) rfl hc10) (op_cmpI lb (HasO.cnd (.tmp rfl) (notT hc10)) (.tmp rfl) (congrArg some hv_v_18)) ?_
       refine jc (op_pickF lb (.tmp rfl) hc10 (.tmp rfl)) ?_
       refine jc (op_move lb (.tmp rfl)) ?_
       refine JL.cnd (sv := ov (S (rI .i64) a_1)) (Guard.isF (ltB rfl) rfl rfl) rfl (ltB rfl) (fun hq_11 => op_move lb (.tmp rfl)) ?_
       refine JL.cnd (sv := ov (S (rI .i64) a_2)) (Guard.isF (ltB rfl) rfl rfl) rfl (ltB rfl) (fun hq_12 => op_move lb (.tmp rfl)) ?_
       replace hx1 := lt1_inv hx1
       obtain ⟨v_19, hv_v_19, hx1⟩ := hx1
       refine JL.cnd (sv := ov (S rB v_19)) (Guard.isF (ltB rfl) rfl rfl) rfl (ltB rfl) (fun hq_13 => op_cmpI lb (HasO.cnd (.tmp rfl) (notT (notF hq_13))) (HasO.cnd (.tmp rfl) (notT (notF hq_13))) (congrArg some hv_v_19)) ?_
       replace hx1 := lt1_inv hx1
       obtain ⟨v_20, hv_v_20, hx1⟩ := hx1
       refine jc (op_pickCS lb (.tmp rfl) (fun hb14 => .cB) (fun hb14 => (HasO.cnd (.tmp rfl) (notT hb14))) hv_v_20) ?_
       refine jc (op_move lb (.tmp rfl)) ?_
       replace hx1 := iteB_inv hx1
       rcases hx1 with ⟨hc16, hx1⟩ | ⟨hc16, hx1⟩
       · refine JL.skip (.no rfl (ltB rfl) rfl hc16) (fun d h => by cases h; exact ltB rfl) ?_
         refine JL.skip (.no rfl (ltB rfl) rfl hc16) (fun d h => by cases h; exact ltB rfl) ?_
         refine JL.skip (.no rfl (ltB rfl) rfl hc16) (fun d h => by cases h; exact ltB rfl) ?_
         refine jc (op_pickT lb (.tmp rfl) hc16 .cB) ?_
         refine JL.sub ⟨[(0, ov (PTR gb_7 0)), (1, ov (S (rI .i64) a_1)), (2, ov (S (rI .i64) a_2)), (3, ov (HDX go_11 (o_3 * 1) n_4)), (45, ov (S rB true))], [cvar gb_7 (rP (rW (MPV go_9)) (rP (rI .i64) (rP (rI .i64) r0))) ((), (ends_5, (lost_6, ()))), cmap go_9 (A r_net_pair) (S (rL (rL (rU UInt8)))) (some x_8), cown go_11 (rU UInt8) x_10 0 gc_12], []⟩ (.cons rfl (.cons rfl (.cons rfl (.cons rfl (.cons rfl .nil))))) rfl rfl ?_
         refine jc (op_assign lb (.tmp rfl)) ?_
         refine JL.nil ?_
         replace hx1 := Option.some.inj hx1
         first | subst hx1 | clear hx1
         exact JQ.join () (Imp.norm (js := [0, 0, 0]) rfl (.cons rfl (.cons rfl (.cons rfl (.cons rfl (.cons rfl .nil))))))
       · refine JL.run (.yes rfl (ltB rfl) rfl hc16) (op_move lb (.tmp rfl)) ?_
         refine JL.sub ⟨[(0, ov (PTR gb_7 0)), (1, ov (S (rI .i64) a_1)), (2, ov (S (rI .i64) a_2)), (3, ov (HDX go_11 (o_3 * 1) n_4)), (41, ov (S rB v_20)), (42, ov (HDX go_11 (o_3 * 1) n_4))], [cvar gb_7 (rP (rW (MPV go_9)) (rP (rI .i64) (rP (rI .i64) r0))) ((), (ends_5, (lost_6, ()))), cmap go_9 (A r_net_pair) (S (rL (rL (rU UInt8)))) (some x_8), cown go_11 (rU UInt8) x_10 0 gc_12], []⟩ (.cons rfl (.cons rfl (.cons rfl (.cons rfl (.cons rfl (.cons rfl .nil)))))) rfl rfl ?_
         refine JL.run (.yes rfl (ltB rfl) rfl hc16) (op_lenX lb tu31 (.tmp rfl)) ?_
         replace hx1 := lt1_inv hx1
         obtain ⟨v_21, hv_v_21, hx1⟩ := hx1
         refine JL.run (.yes rfl (ltB rfl) rfl hc16) (op_cmpI lb (.tmp rfl) .cI (congrArg some hv_v_21)) ?_
         refine jc (op_pickF lb (.tmp rfl) hc16 (.tmp rfl)) ?_
         refine jc (op_assign lb (.tmp rfl)) ?_
         refine JL.nil ?_
         replace hx1 := Option.some.inj hx1
         first | subst hx1 | clear hx1
         exact JQ.join () (Imp.norm (js := [0, 0, 0]) rfl (.cons rfl (.cons rfl (.cons rfl (.cons rfl (.cons rfl .nil))))))

end Go.Proofs.Ytnadeehdnmgebaa
