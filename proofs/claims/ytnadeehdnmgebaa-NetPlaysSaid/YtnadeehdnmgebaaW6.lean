/- Walks. -/
import Derived.Test.YtnadeehdnmgebaaT
import Derived.Test.YtnadeehdnmgebaaW0
import Derived.Test.YtnadeehdnmgebaaW2
namespace Go.Proofs.Ytnadeehdnmgebaa
open Go Fw
set_option linter.unusedVariables false
set_option maxRecDepth 100000
set_option maxHeartbeats 4000000

theorem sim_net_Net_Copy (k : Nat) (ends_1 : Int) (lost_2 : Int) (x_4 : (List (net_pair × (List (List UInt8))))) (gb_3 : Nat) (go_5 : Option Nat) (r : (List (net_pair × (List (List UInt8))))) (hm : net_Net_Copy k ends_1 lost_2 x_4 = some r) : Sim Try.prog 23 [PTR gb_3 0] [cvar gb_3 (rP (rW (MPV go_5)) (rP (rI .i64) (rP (rI .i64) r0))) ((), (ends_1, (lost_2, ()))), cmap go_5 (A r_net_pair) (S (rL (rL (rU UInt8)))) (some x_4)] (γ := Nat × Option Nat) (fun q => [cvar q.1 (rP (rW (MPV q.2)) (rP (rI .i64) (rP (rI .i64) r0))) ((), (ends_1, (lost_2, ()))), cmap q.2 (A r_net_pair) (S (rL (rL (rU UInt8)))) (some r), cvar gb_3 (rP (rW (MPV go_5)) (rP (rI .i64) (rP (rI .i64) r0))) ((), (ends_1, (lost_2, ()))), cmap go_5 (A r_net_pair) (S (rL (rL (rU UInt8)))) (some x_4)]) (fun q => .one (.val (PTR q.1 0))) := by
 unfold net_Net_Copy at hm
 refine Sim.of Try.func23 rfl rfl (Nat.le_of_ble_eq_true rfl) (fun e0 w0 => ?_)
 refine JC.at ⟨[(0, ov (PTR gb_3 0))], [cvar gb_3 (rP (rW (MPV go_5)) (rP (rI .i64) (rP (rI .i64) r0))) ((), (ends_1, (lost_2, ()))), cmap go_5 (A r_net_pair) (S (rL (rL (rU UInt8)))) (some x_4)], []⟩ ?_
 refine JC.seq ?_
 refine JC.region ?_
 refine jc (op_assign lb (HasO.const (p := PTO none) fun _ => rfl)) ?_
 refine JL.nil ?_
 refine JQ.then ?_
 refine JC.seq ?_
 refine JC.seq ?_
 refine JC.region ?_
 refine jc (op_move lb (.tmp rfl)) ?_
 replace hm := bnd_inv hm
 obtain ⟨_, hv_u_6, hm⟩ := hm
 refine jx (op_call (js := [0, 0]) ld cl29 (sim_net_Net_there k ends_1 lost_2 x_4 gb_3 go_5 () hv_u_6) .func (.cons (.tmp rfl) .nil) rfl) (fun _ => ?_)
 refine jc (op_not lb (.tmp rfl) rfl) ?_
 refine JL.nil ?_
 refine JQ.then ?_
 refine JC.condF (.tmp rfl) rfl ?_
 refine JC.skip ?_
 refine JQ.then ?_
 refine JC.seq ?_
 refine JC.region ?_
 refine jc (op_move lb (.tmp rfl)) ?_
 refine jc (op_nilCheck lb (.tmp rfl) (fun e v h => by subst h; rfl)) ?_
 refine jc (op_loadA (j := 0) lb tA57 (.tmp rfl) rfl (Comp.self (rP (rW (MPV go_5)) (rP (rI .i64) (rP (rI .i64) r0))) ((), (ends_1, (lost_2, ())))) rfl) ?_
 refine jx (op_alloc lb tZ57 zr57) (fun q => ?_)
 obtain ⟨gb_7, hqq⟩ : ∃ z, z = q := ⟨_, rfl⟩
 subst hqq
 refine JL.sub ⟨[(0, ov (PTR gb_3 0)), (3, ov (PTR gb_7 0)), (11, ov (A (rP (rW (MPV go_5)) (rP (rI .i64) (rP (rI .i64) r0))) ((), (ends_1, (lost_2, ())))))], [cvar gb_3 (rP (rW (MPV go_5)) (rP (rI .i64) (rP (rI .i64) r0))) ((), (ends_1, (lost_2, ()))), cmap go_5 (A r_net_pair) (S (rL (rL (rU UInt8)))) (some x_4), cvar gb_7 (rP (rW (MPV none)) (rP (rI .i64) (rP (rI .i64) r0))) ((), ((0 : Int), ((0 : Int), ())))], []⟩ (.cons rfl (.cons rfl (.cons rfl .nil))) rfl rfl ?_
 refine jc (op_storeA (j := 2) tA57 (.tmp rfl) (.tmp rfl) rfl (UpdR.self (by rfl)) rfl) ?_
 refine JL.nil ?_
 refine JQ.then ?_
 refine JC.seq ?_
 refine JC.region ?_
 refine jx (op_makeMap lb (A r_net_pair) (S (rL (rL (rU UInt8))))) (fun q => ?_)
 obtain ⟨gb_8, hqq⟩ : ∃ z, z = q := ⟨_, rfl⟩
 subst hqq
 refine jc (op_fieldAddr (off := 0) lb tf57_0 (.tmp rfl)) ?_
 refine jc (op_storeW (j := 2) tS55 (.tmp rfl) (.tmp rfl) rfl ((UpdR.fst (UpdR.self (by rfl))).at (by change 0 = (0 + 0); omega)) rfl) ?_
 refine JL.nil ?_
 refine JQ.then ?_
 replace hm := bnd_inv hm
 obtain ⟨x_20, hx1, hq1⟩ := hm
 refine JC.seqJ (γ := Unit) (stj := fun q => ⟨[(3, ov (PTR gb_7 0))], [cvar gb_7 (rP (rW (MPV (some gb_8))) (rP (rI .i64) (rP (rI .i64) r0))) ((), (ends_1, (lost_2, ()))), cmap (some gb_8) (A r_net_pair) (S (rL (rL (rU UInt8)))) (some x_20), cvar gb_3 (rP (rW (MPV go_5)) (rP (rI .i64) (rP (rI .i64) r0))) ((), (ends_1, (lost_2, ()))), cmap go_5 (A r_net_pair) (S (rL (rL (rU UInt8)))) (some x_4)], []⟩) (fun q => ?_) ?_
 · obtain _ := q
   refine JC.at ⟨[(3, ov (PTR gb_7 0))], [cvar gb_7 (rP (rW (MPV (some gb_8))) (rP (rI .i64) (rP (rI .i64) r0))) ((), (ends_1, (lost_2, ()))), cmap (some gb_8) (A r_net_pair) (S (rL (rL (rU UInt8)))) (some x_20), cvar gb_3 (rP (rW (MPV go_5)) (rP (rI .i64) (rP (rI .i64) r0))) ((), (ends_1, (lost_2, ()))), cmap go_5 (A r_net_pair) (S (rL (rL (rU UInt8)))) (some x_4)], []⟩ ?_
   refine JC.seq ?_
   refine JC.region ?_
   refine jc (op_assign lb (.tmp rfl)) ?_
   refine JL.nil ?_
   refine JQ.then ?_
   refine JC.ret ?_
   replace hq1 := Option.some.inj hq1
   subst hq1
   exact JQ.done (js := [0, 0, 0, 0]) (ss := [.val (PTR gb_7 0)]) (gb_7, (some gb_8)) (.inl rfl) (.nil rfl) rfl (.cons (.tmp rfl) .nil) rfl rfl rfl
 · refine JC.seq ?_
   refine JC.region ?_
   refine jc (op_move lb (.tmp rfl)) ?_
   refine jc (op_nilCheck lb (.tmp rfl) (fun e v h => by subst h; rfl)) ?_
   refine JL.sub ⟨[(3, ov (PTR gb_7 0)), (15, ov (PTR gb_3 0))], [cvar gb_3 (rP (rW (MPV go_5)) (rP (rI .i64) (rP (rI .i64) r0))) ((), (ends_1, (lost_2, ()))), cmap go_5 (A r_net_pair) (S (rL (rL (rU UInt8)))) (some x_4), cvar gb_7 (rP (rW (MPV (some gb_8))) (rP (rI .i64) (rP (rI .i64) r0))) ((), (ends_1, (lost_2, ()))), cmap (some gb_8) (A r_net_pair) (S (rL (rL (rU UInt8)))) (some ([] : (List (net_pair × (List (List UInt8))))))], []⟩ (.cons rfl (.cons rfl .nil)) rfl rfl ?_
   refine jc (op_fieldAddr (off := 0) lb tf57_0 (.tmp rfl)) ?_
   refine jc (op_loadW (j := 0) lb tS55 (.tmp rfl) rfl (Comp.trans (Comp.self (rP (rW (MPV go_5)) (rP (rI .i64) (rP (rI .i64) r0))) ((), (ends_1, (lost_2, ())))) (Comp.at' (Comp.inF (Comp.self (rW (MPV go_5)) ()) (Nat.le_of_ble_eq_true rfl)) (by rfl : _ = 0)) (Nat.le_of_ble_eq_true rfl))) ?_
   refine jx (op_range (j := 1) lb tu55 rfl (.tmp rfl)) (fun q => ?_)
   obtain ⟨gr_9, hqq⟩ : ∃ z, z = q := ⟨_, rfl⟩
   subst hqq
   refine JL.nil ?_
   refine JQ.then ?_
   refine JC.block ?_
   refine JC.pre ?_ (JC.mloop (γ := Unit) (stf := fun s rem q => ⟨[(3, ov (PTR gb_7 0)), (18, ov (PTR gr_9 0))], [cvar gb_7 (rP (rW (MPV (some gb_8))) (rP (rI .i64) (rP (rI .i64) r0))) ((), (ends_1, (lost_2, ()))), cmap (some gb_8) (A r_net_pair) (S (rL (rL (rU UInt8)))) (some s), cmapI go_5 gr_9 (A r_net_pair) (S (rL (rL (rU UInt8)))) (some x_4) rem none, cvar gb_3 (rP (rW (MPV go_5)) (rP (rI .i64) (rP (rI .i64) r0))) ((), (ends_1, (lost_2, ())))], []⟩) (q := ()) hx1 ?_)
   · exact (Imp.norm (js := [2, 2, 1, 0]) rfl (.cons rfl (.cons rfl .nil)))
   · intro x_11 rem_10 q hf
     obtain _ := q
     refine JC.at ⟨[(3, ov (PTR gb_7 0)), (18, ov (PTR gr_9 0))], [cvar gb_7 (rP (rW (MPV (some gb_8))) (rP (rI .i64) (rP (rI .i64) r0))) ((), (ends_1, (lost_2, ()))), cmap (some gb_8) (A r_net_pair) (S (rL (rL (rU UInt8)))) (some x_11), cmapI go_5 gr_9 (A r_net_pair) (S (rL (rL (rU UInt8)))) (some x_4) rem_10 none, cvar gb_3 (rP (rW (MPV go_5)) (rP (rI .i64) (rP (rI .i64) r0))) ((), (ends_1, (lost_2, ())))], []⟩ ?_
     refine JC.seq ?_
     refine JC.region ?_
     refine JL.next (j := 2) lb rfl (.tmp rfl) (fun h0 => ?_) (fun e_12 rem_13 hp => ?_)
     · subst h0
       replace hf := foldO_end hf
       change net_Net_Copy.f1 k x_11 = some _ at hf
       unfold net_Net_Copy.f1 at hf
       replace hf := lt1_inv hf
       obtain ⟨x_14, hv_x_14, hf⟩ := hf
       refine JL.pre (Imp.mpermC (j := 1) rfl hv_x_14) ?_
       refine jc (op_extract (i := 0) lb (.tmp rfl) rfl) ?_
       refine JL.nil ?_
       refine JQ.then ?_
       refine JC.seq ?_
       refine JC.condF (.tmp rfl) rfl ?_
       refine JC.exit ?_
       refine JQ.outX ?_
       have ht := Option.some.inj hf
       have hr := ht
       have hq2 := congrArg some ht
       clear hr ht
       refine JQ.outX ?_
       refine JQ.pre (Imp.endIt (j := 2) rfl) ?_
       refine JQ.here ?_
       replace hq2 := Option.some.inj hq2
       first | subst hq2 | clear hq2
       exact JQ.join () (Imp.norm (js := [0, 0, 1, 0]) rfl (.cons rfl .nil))
     · obtain ⟨x, hx, hr, hn⟩ := foldO_step hf hp
       change net_Net_Copy.b1 k x_11 e_12 = some x at hx
       unfold net_Net_Copy.b1 at hx
       refine jc (op_extract (i := 0) lb (.tmp rfl) rfl) ?_
       refine JL.nil ?_
       refine JQ.then ?_
       refine JC.seq ?_
       refine JC.condT (.tmp rfl) rfl ?_
       refine JC.skip ?_
       refine JQ.then ?_
       refine JC.block ?_
       refine JC.seq ?_
       refine JC.region ?_
       refine jc (op_entry (j := 2) lb rfl (.tmp rfl)) ?_
       refine jc (op_extract (i := 0) lb (.tmp rfl) rfl) ?_
       refine jc (op_extract (i := 1) lb (.tmp rfl) rfl) ?_
       refine jx (op_alloc lb tZ60 zr60) (fun q => ?_)
       obtain ⟨gb_15, hqq⟩ : ∃ z, z = q := ⟨_, rfl⟩
       subst hqq
       refine jc (op_storeA (j := 4) tA60 (.tmp rfl) (.tmp rfl) rfl (UpdR.self (by rfl)) rfl) ?_
       refine jc (op_assign lb (.tmp rfl)) ?_
       refine JL.nil ?_
       refine JQ.then ?_
       replace hx := bnd_inv hx
       obtain ⟨v_16, hv_v_16, hx⟩ := hx
       replace hx := lt1_inv hx
       obtain ⟨x_19, hv_x_19, hx⟩ := hx
       refine JC.anyE (kl := []) (kk := 0) (base := [(3, ov (PTR gb_7 0)), (4, ov (PTR gb_15 0)), (5, ov (S (rL (rL (rU UInt8))) e_12.2)), (18, ov (PTR gr_9 0))])
           (fs := fun γ => [⟨some 24, ov (PTR gb_7 (0 + 0))⟩, ⟨some 25, ov (MPV (some gb_8))⟩, ⟨some 26, ov (A r_net_pair e_12.1)⟩, ⟨some 27, ov (S (rL (rL (rU UInt8))) e_12.2)⟩, ⟨some 28, ov (S (rL (rL (rU UInt8))) v_16)⟩, ⟨none, .one .any⟩])
           (rs := fun γ => [⟨cvar gb_7 (rP (rW (MPV (some gb_8))) (rP (rI .i64) (rP (rI .i64) r0))) ((), (ends_1, (lost_2, ()))), none, none, [1]⟩, ⟨cmap (some gb_8) (A r_net_pair) (S (rL (rL (rU UInt8)))) (some x_11), none, (some 5), []⟩, ⟨cmapI go_5 gr_9 (A r_net_pair) (S (rL (rL (rU UInt8)))) (some x_4) rem_13 (some e_12), none, none, []⟩, ⟨cvar gb_3 (rP (rW (MPV go_5)) (rP (rI .i64) (rP (rI .i64) r0))) ((), (ends_1, (lost_2, ()))), none, none, []⟩, ⟨cvar gb_15 r_net_pair e_12.1, none, none, [2]⟩, ⟨cmap (some gb_8) (A r_net_pair) (S (rL (rL (rU UInt8)))) (some x_19), (some 5), none, []⟩])
           (ds := [24, 25, 26, 27, 28]) (bs := [3, 4, 5, 18]) (afts := [[], [], [], [], [], []]) (js := [0, 0, 0, 0, 0]) mixed (.cons rfl (.cons rfl (.cons rfl (.cons rfl .nil)))) (fun _ => rfl)
           (by
      refine dS 1 (fun γ ρ B hb hd => op_fieldAddr (off := 0) lb tf57_0 (.tmp (hb 3 _ rfl))) ?_
      refine DSteps.cons (j := 2) rfl (fun _ => rfl) (.run (fun γ ρ B hb hd => ⟨.none, OpStep.at ⟨ρ, (cvar gb_7 (rP (rW (MPV (some gb_8))) (rP (rI .i64) (rP (rI .i64) r0))) ((), (ends_1, (lost_2, ())))) :: B, _⟩ (setO ⟨ρ, (cvar gb_7 (rP (rW (MPV (some gb_8))) (rP (rI .i64) (rP (rI .i64) r0))) ((), (ends_1, (lost_2, ())))) :: B, _⟩ _ _) (op_loadW (j := 0) lb tS55 (.tmp (hl hd 0 24 rfl)) rfl (Comp.trans (Comp.self (rP (rW (MPV (some gb_8))) (rP (rI .i64) (rP (rI .i64) r0))) ((), (ends_1, (lost_2, ())))) (Comp.at' (Comp.inF (Comp.self (rW (MPV (some gb_8))) ()) (Nat.le_of_ble_eq_true rfl)) (by rfl : _ = 0)) (Nat.le_of_ble_eq_true rfl)))⟩)) ?_
      refine DSteps.cons (j := 3) rfl (fun _ => rfl) (.run (fun γ ρ B hb hd => ⟨.none, OpStep.at ⟨ρ, (cvar gb_15 r_net_pair e_12.1) :: B, _⟩ (setO ⟨ρ, (cvar gb_15 r_net_pair e_12.1) :: B, _⟩ _ _) (op_loadA (j := 0) lb tA60 (.tmp (hb 4 _ rfl)) rfl (Comp.self r_net_pair e_12.1) rfl)⟩)) ?_
      refine dS 4 (fun γ ρ B hb hd => op_move lb (.tmp (hb 5 _ rfl))) ?_
      refine dS 5 (fun γ ρ B hb hd => (op_call (js := []) ld cl33 (sim_slices_Clonebyte_byte'2 k e_12.2 v_16 hv_v_16) .func (.cons (.tmp (hl hd 3 27 rfl)) .nil) rfl).post (fun q => Imp.dropF (j := 0) rfl)) ?_
      refine DSteps.cons (j := 6) rfl (fun _ => rfl) (.run (fun γ ρ B hb hd => ⟨.none, OpStep.at ⟨ρ, (cmap (some gb_8) (A r_net_pair) (S (rL (rL (rU UInt8)))) (some x_11)) :: B, _⟩ (setO ⟨ρ, (cmap (some gb_8) (A r_net_pair) (S (rL (rL (rU UInt8)))) (some x_19)) :: B, _⟩ _ _) (op_mapUpdate (j := 0) tu55 ky60 rfl (.tmp (hl hd 1 25 rfl)) (.tmp (hl hd 2 26 rfl)) (.tmp (hl hd 4 28 rfl)) (congrArg (fun z => some (some z)) hv_x_19))⟩)) ?_
      exact DSteps.nil)
           (by decide +kernel) (fun _ => rfl) rfl (fun _ => rfl) (fun _ => rfl) rfl (by decide) (by decide) (by decide +kernel) (fun _ d h => by cases h)
           (ρ' := fun γ => [(3, ov (PTR gb_7 0)), (18, ov (PTR gr_9 0))])
           (X' := fun γ => [cvar gb_7 (rP (rW (MPV (some gb_8))) (rP (rI .i64) (rP (rI .i64) r0))) ((), (ends_1, (lost_2, ()))), cmapI go_5 gr_9 (A r_net_pair) (S (rL (rL (rU UInt8)))) (some x_4) rem_13 (some e_12), cvar gb_3 (rP (rW (MPV go_5)) (rP (rI .i64) (rP (rI .i64) r0))) ((), (ends_1, (lost_2, ()))), cvar gb_15 r_net_pair e_12.1, cmap (some gb_8) (A r_net_pair) (S (rL (rL (rU UInt8)))) (some x_19)])
           (fun γ ρ hb hd => (.cons (hb 3 _ rfl (by decide)) (.cons (hb 18 _ rfl (by decide)) .nil))) (fun _ => rfl) (fun γ => ?_)
       refine JQ.at ⟨[(3, ov (PTR gb_7 0)), (18, ov (PTR gr_9 0))], [cvar gb_7 (rP (rW (MPV (some gb_8))) (rP (rI .i64) (rP (rI .i64) r0))) ((), (ends_1, (lost_2, ()))), cmapI go_5 gr_9 (A r_net_pair) (S (rL (rL (rU UInt8)))) (some x_4) rem_13 (some e_12), cvar gb_3 (rP (rW (MPV go_5)) (rP (rI .i64) (rP (rI .i64) r0))) ((), (ends_1, (lost_2, ()))), cvar gb_15 r_net_pair e_12.1, cmap (some gb_8) (A r_net_pair) (S (rL (rL (rU UInt8)))) (some x_19)], []⟩ ?_
       refine JQ.outNB ?_
       replace hx := Option.some.inj hx
       first | subst hx | clear hx
       refine JQ.pre (Imp.forget (j := 1) rfl) ?_
       exact JQ.mnext () hp (hn _ rfl) (Imp.norm (js := [0, 3, 0, 0]) rfl (.cons rfl (.cons rfl .nil)))

theorem sim_ref12_Net_Copy (k : Nat) (Ends_1 : Int) (Lost_2 : Int) (gb_3 : Nat) (r : (List api_Flight)) (hm : ref12_Net_Copy k Ends_1 Lost_2 = some r) : Sim Try.prog 24 [PTR gb_3 0] [cvar gb_3 (rP (rW (HDR none 0 0 0)) (rP (rI .i64) (rP (rI .i64) r0))) ((), (Ends_1, (Lost_2, ())))] (γ := Nat × Option Nat × Nat) (fun q => [cvar q.1 (rP (rW (HDR q.2.1 0 (List.length r) q.2.2)) (rP (rI .i64) (rP (rI .i64) r0))) ((), (Ends_1, (Lost_2, ()))), cown q.2.1 r_api_Flight r 0 q.2.2, cvar gb_3 (rP (rW (HDR none 0 0 0)) (rP (rI .i64) (rP (rI .i64) r0))) ((), (Ends_1, (Lost_2, ())))]) (fun q => .one (.val (PTR q.1 0))) := by
 unfold ref12_Net_Copy at hm
 refine Sim.of Try.func24 rfl rfl (Nat.le_of_ble_eq_true rfl) (fun e0 w0 => ?_)
 refine JC.at ⟨[(0, ov (PTR gb_3 0))], [cvar gb_3 (rP (rW (HDR none 0 0 0)) (rP (rI .i64) (rP (rI .i64) r0))) ((), (Ends_1, (Lost_2, ())))], []⟩ ?_
 refine JC.seq ?_
 refine JC.region ?_
 refine jc (op_assign lb (HasO.const (p := PTO none) fun _ => rfl)) ?_
 refine JL.nil ?_
 refine JQ.then ?_
 refine JC.seq ?_
 replace hm := bnd_inv hm
 obtain ⟨v_4, hv_v_4, hm⟩ := hm
 refine JC.anyE (kl := []) (kk := 0) (base := [(0, ov (PTR gb_3 0))])
     (fs := fun γ => [⟨some 3, ov (PTR gb_3 0)⟩, ⟨some 4, ov (PTR gb_3 0)⟩, ⟨some 5, ov (PTR gb_3 (0 + 0))⟩, ⟨some 6, ov (HDR none 0 0 0)⟩, ⟨some 7, ov (HDR (deo (γ 4 0)) 0 (List.length v_4) (γ 4 1))⟩, ⟨some 8, ov (PTR gb_3 0)⟩, ⟨some 9, ov (PTR gb_3 0)⟩, ⟨some 10, ov (PTR gb_3 (0 + 1))⟩, ⟨some 11, ov (S (rI .i64) Ends_1)⟩, ⟨some 12, ov (PTR gb_3 0)⟩, ⟨some 13, ov (PTR gb_3 0)⟩, ⟨some 14, ov (PTR gb_3 (0 + 2))⟩, ⟨some 15, ov (S (rI .i64) Lost_2)⟩, ⟨some 16, ov (A (rP (rW (HDR (deo (γ 4 0)) 0 (List.length v_4) (γ 4 1))) (rP (rI .i64) (rP (rI .i64) r0))) ((), (Ends_1, (Lost_2, ()))))⟩, ⟨some 17, ov (PTR (γ 14 0) 0)⟩, ⟨some 2, ov (PTR (γ 14 0) 0)⟩])
     (rs := fun γ => [⟨cvar gb_3 (rP (rW (HDR none 0 0 0)) (rP (rI .i64) (rP (rI .i64) r0))) ((), (Ends_1, (Lost_2, ()))), none, none, [3, 8, 12]⟩, ⟨cown (deo (γ 4 0)) r_api_Flight v_4 0 (γ 4 1), (some 4), none, []⟩, ⟨cvar (γ 14 0) (rP (rW (HDR (deo (γ 4 0)) 0 (List.length v_4) (γ 4 1))) (rP (rI .i64) (rP (rI .i64) r0))) ((), (Ends_1, (Lost_2, ()))), (some 14), none, []⟩])
     (ds := [3, 4, 5, 6, 7, 8, 9, 10, 11, 12, 13, 14, 15, 16, 17, 2]) (bs := [0]) (afts := [[], [], [], [], [4, 13, 14, 15], [], [], [], [], [], [], [], [], [], [14, 15], []]) (js := [0]) mixed (.cons rfl .nil) (fun _ => rfl)
     (by
      refine dS 1 (fun γ ρ B hb hd => op_move lb (.tmp (hb 0 _ rfl))) ?_
      refine dS 2 (fun γ ρ B hb hd => op_nilCheck lb (.tmp (hl hd 0 3 rfl)) (fun e v h => by subst h; rfl)) ?_
      refine dS 3 (fun γ ρ B hb hd => op_fieldAddr (off := 0) lb tf43_0 (.tmp (hl hd 1 4 rfl))) ?_
      refine DSteps.cons (j := 4) rfl (fun _ => rfl) (.run (fun γ ρ B hb hd => ⟨.none, OpStep.at ⟨ρ, (cvar gb_3 (rP (rW (HDR none 0 0 0)) (rP (rI .i64) (rP (rI .i64) r0))) ((), (Ends_1, (Lost_2, ())))) :: B, _⟩ (setO ⟨ρ, (cvar gb_3 (rP (rW (HDR none 0 0 0)) (rP (rI .i64) (rP (rI .i64) r0))) ((), (Ends_1, (Lost_2, ())))) :: B, _⟩ _ _) (op_loadW (j := 0) lb tS30 (.tmp (hl hd 2 5 rfl)) rfl (Comp.trans (Comp.self (rP (rW (HDR none 0 0 0)) (rP (rI .i64) (rP (rI .i64) r0))) ((), (Ends_1, (Lost_2, ())))) (Comp.at' (Comp.inF (Comp.self (rW (HDR none 0 0 0)) ()) (Nat.le_of_ble_eq_true rfl)) (by rfl : _ = 0)) (Nat.le_of_ble_eq_true rfl)))⟩)) ?_
      refine DSteps.cons (j := 5) rfl (fun _ => rfl) (.runX (fun _ _ => rfl) (fun γ ρ B hb hd => ⟨.none, OpX.ghost (γ := Option Nat × Nat) (st' := fun q => setO ⟨ρ, (cown q.1 r_api_Flight v_4 0 q.2) :: B, _⟩ (some 7) (ov (HDR q.1 0 (List.length v_4) q.2))) (fun q c => bif Nat.beq c 0 then eno q.1 else q.2) (OpX.front (op_appendN (r := r_api_Flight) lb tu30 tu30 rfl tB36 rfl (Nat.lt_of_lt_of_le Nat.zero_lt_one (Nat.le_of_ble_eq_true rfl)) (Nat.lt_of_lt_of_le Nat.zero_lt_one (Nat.le_of_ble_eq_true rfl)) HasO.nilH (fun _ _ _ h => Src.list h (HasO.wk (q := S (rL r_api_Flight) []) (.tmp (hl hd 3 6 rfl)) wkNil)) (apL_some hv_v_4))) (fun q => by obtain ⟨q0, q1⟩ := q; cases q0 <;> exact Imp.refl)⟩) (fun _ _ => rfl) (fun _ _ => rfl)) ?_
      refine dS 6 (fun γ ρ B hb hd => op_move lb (.tmp (hb 0 _ rfl))) ?_
      refine dS 7 (fun γ ρ B hb hd => op_nilCheck lb (.tmp (hl hd 5 8 rfl)) (fun e v h => by subst h; rfl)) ?_
      refine dS 8 (fun γ ρ B hb hd => op_fieldAddr (off := 1) lb tf43_1 (.tmp (hl hd 6 9 rfl))) ?_
      refine DSteps.cons (j := 9) rfl (fun _ => rfl) (.run (fun γ ρ B hb hd => ⟨.none, OpStep.at ⟨ρ, (cvar gb_3 (rP (rW (HDR none 0 0 0)) (rP (rI .i64) (rP (rI .i64) r0))) ((), (Ends_1, (Lost_2, ())))) :: B, _⟩ (setO ⟨ρ, (cvar gb_3 (rP (rW (HDR none 0 0 0)) (rP (rI .i64) (rP (rI .i64) r0))) ((), (Ends_1, (Lost_2, ())))) :: B, _⟩ _ _) (op_loadS (j := 0) lb tS3 (.tmp (hl hd 7 10 rfl)) rfl (Comp.trans (Comp.self (rP (rW (HDR none 0 0 0)) (rP (rI .i64) (rP (rI .i64) r0))) ((), (Ends_1, (Lost_2, ())))) (Comp.at' (Comp.inS (Comp.inF (Comp.self (rI .i64) Ends_1) (Nat.le_of_ble_eq_true rfl))) (by rfl : _ = 1)) (Nat.le_of_ble_eq_true rfl)) rfl rfl)⟩)) ?_
      refine dS 10 (fun γ ρ B hb hd => op_move lb (.tmp (hb 0 _ rfl))) ?_
      refine dS 11 (fun γ ρ B hb hd => op_nilCheck lb (.tmp (hl hd 9 12 rfl)) (fun e v h => by subst h; rfl)) ?_
      refine dS 12 (fun γ ρ B hb hd => op_fieldAddr (off := 2) lb tf43_2 (.tmp (hl hd 10 13 rfl))) ?_
      refine DSteps.cons (j := 13) rfl (fun _ => rfl) (.run (fun γ ρ B hb hd => ⟨.none, OpStep.at ⟨ρ, (cvar gb_3 (rP (rW (HDR none 0 0 0)) (rP (rI .i64) (rP (rI .i64) r0))) ((), (Ends_1, (Lost_2, ())))) :: B, _⟩ (setO ⟨ρ, (cvar gb_3 (rP (rW (HDR none 0 0 0)) (rP (rI .i64) (rP (rI .i64) r0))) ((), (Ends_1, (Lost_2, ())))) :: B, _⟩ _ _) (op_loadS (j := 0) lb tS3 (.tmp (hl hd 11 14 rfl)) rfl (Comp.trans (Comp.self (rP (rW (HDR none 0 0 0)) (rP (rI .i64) (rP (rI .i64) r0))) ((), (Ends_1, (Lost_2, ())))) (Comp.at' (Comp.inS (Comp.inS (Comp.inF (Comp.self (rI .i64) Lost_2) (Nat.le_of_ble_eq_true rfl)))) (by rfl : _ = 2)) (Nat.le_of_ble_eq_true rfl)) rfl rfl)⟩)) ?_
      refine dS 14 (fun γ ρ B hb hd => op_build lb tZ43 zr43 tp43 (.S (off := 0) (s := rW (HDR (deo (γ 4 0)) 0 (List.length v_4) (γ 4 1))) (u := ()) rfl (HasO.wk (q := S (rW (HDR (deo (γ 4 0)) 0 (List.length v_4) (γ 4 1))) ()) (.tmp (hl hd 4 7 rfl)) wkV) rfl ((UpdR.fst (UpdR.self (by rfl))).at (by rfl)) (.S (off := 1) rfl (.tmp (hl hd 8 11 rfl)) rfl ((UpdR.snd (UpdR.fst (UpdR.self (by rfl)))).at (by rfl)) (.S (off := 2) rfl (.tmp (hl hd 12 15 rfl)) rfl ((UpdR.snd (UpdR.snd (UpdR.fst (UpdR.self (by rfl))))).at (by rfl)) .nil))) rfl) ?_
      refine DSteps.cons (j := 15) rfl (fun _ => rfl) (.runX (fun _ _ => rfl) (fun γ ρ B hb hd => ⟨.none, OpX.ghost (γ := Nat) (st' := fun q => setO ⟨ρ, (cvar q (rP (rW (HDR (deo (γ 4 0)) 0 (List.length v_4) (γ 4 1))) (rP (rI .i64) (rP (rI .i64) r0))) ((), (Ends_1, (Lost_2, ())))) :: B, _⟩ (some 17) (ov (PTR q 0))) (fun q c => q) (OpX.front (op_boxA lb (.tmp (hl hd 13 16 rfl)))) (fun q => Imp.refl)⟩) (fun _ _ => rfl) (fun _ _ => rfl)) ?_
      refine dS 16 (fun γ ρ B hb hd => op_assign lb (.tmp (hl hd 14 17 rfl))) ?_
      exact DSteps.nil)
     (by decide +kernel) (fun _ => rfl) rfl (fun _ => rfl) (fun _ => rfl) rfl (by decide) (by decide) (by decide +kernel) (fun _ d h => by cases h)
     (ρ' := fun γ => [(2, ov (PTR (γ 14 0) 0))])
     (X' := fun γ => [cvar gb_3 (rP (rW (HDR none 0 0 0)) (rP (rI .i64) (rP (rI .i64) r0))) ((), (Ends_1, (Lost_2, ()))), cown (deo (γ 4 0)) r_api_Flight v_4 0 (γ 4 1), cvar (γ 14 0) (rP (rW (HDR (deo (γ 4 0)) 0 (List.length v_4) (γ 4 1))) (rP (rI .i64) (rP (rI .i64) r0))) ((), (Ends_1, (Lost_2, ())))])
     (fun γ ρ hb hd => (.cons (hdq hd 15 2 rfl) .nil)) (fun _ => rfl) (fun γ => ?_)
 generalize (deo (γ 4 0)) = go_5
 generalize (γ 4 1) = gc_6
 generalize (γ 14 0) = gb_7
 clear γ
 refine JQ.at ⟨[(2, ov (PTR gb_7 0))], [cvar gb_3 (rP (rW (HDR none 0 0 0)) (rP (rI .i64) (rP (rI .i64) r0))) ((), (Ends_1, (Lost_2, ()))), cown go_5 r_api_Flight v_4 0 gc_6, cvar gb_7 (rP (rW (HDR go_5 0 (List.length v_4) gc_6)) (rP (rI .i64) (rP (rI .i64) r0))) ((), (Ends_1, (Lost_2, ())))], []⟩ ?_
 refine JQ.then ?_
 refine JC.ret ?_
 replace hm := Option.some.inj hm
 subst hm
 refine JQ.pre (Imp.var (j := 2) (q := (rP (rW (HDR go_5 0 (List.length v_4) gc_6)) (rP (rI .i64) (rP (rI .i64) r0)))) (y := ((), (Ends_1, (Lost_2, ())))) rfl Wk.refl) ?_
 exact JQ.done (js := [2, 1, 0]) (ss := [.val (PTR gb_7 0)]) (gb_7, go_5, gc_6) (.inl rfl) (.nil rfl) rfl (.cons (.tmp rfl) .nil) rfl rfl rfl

theorem sim_slices_Clonebyte_byte'3 (k : Nat) (o_1 : Nat) (n_2 : Nat) (x_3 : (List UInt8)) (go_4 : Option Nat) (gc_5 : Nat) (r : (List UInt8)) (hm : slices_Clonebyte_byte'3 k o_1 n_2 x_3 = some r) : Sim Try.prog 40 [HDX go_4 (o_1 * 1) n_2] [cown go_4 (rU UInt8) x_3 0 gc_5] (γ := Option Nat × Nat) (fun q => [cown q.1 (rU UInt8) r 0 q.2, cown go_4 (rU UInt8) x_3 0 gc_5]) (fun q => .one (.val (HDR q.1 0 (List.length r) q.2))) := by
 unfold slices_Clonebyte_byte'3 at hm
 refine Sim.of Try.func40 rfl rfl (Nat.le_of_ble_eq_true rfl) (fun e0 w0 => ?_)
 refine JC.at ⟨[(0, ov (HDX go_4 (o_1 * 1) n_2))], [cown go_4 (rU UInt8) x_3 0 gc_5], []⟩ ?_
 refine JC.seq ?_
 refine JC.region ?_
 refine jc (op_assign lb HasO.nilH) ?_
 refine JL.nil ?_
 refine JQ.then ?_
 refine JC.seq ?_
 refine JC.seq ?_
 refine JC.region ?_
 refine jc (op_move lb (.tmp rfl)) ?_
 refine JL.consX rfl (op_isNilX (neg := false) lb tu31 (.tmp rfl) HasO.nilH) (fun q => ?_)
 obtain ⟨hb1, hb1_⟩ := q
 cases hb1
 · refine JL.nil ?_
   refine JQ.then ?_
   refine JC.condF (.tmp rfl) rfl ?_
   refine JC.skip ?_
   refine JQ.then ?_
   refine JC.seq ?_
   refine JC.region ?_
   refine jx (op_buildO (r := (rU UInt8)) lb tu31 tz5 tZ5 rfl (Nat.le_of_ble_eq_true rfl) .nil rfl) (fun q => ?_)
   obtain ⟨gb_6, hqq⟩ : ∃ z, z = q := ⟨_, rfl⟩
   subst hqq
   refine jc (op_move lb (.tmp rfl)) ?_
   replace hm := bnd_inv hm
   obtain ⟨v_7, hv_v_7, hm⟩ := hm
   refine jx (op_appendXV (j := 1) (j' := 0) (o := o_1) lb tu31 tu31 rfl tB5 rfl (Nat.lt_of_lt_of_le Nat.zero_lt_one (Nat.le_of_ble_eq_true rfl)) (Nat.lt_of_lt_of_le Nat.zero_lt_one (Nat.le_of_ble_eq_true rfl)) rfl (.tmp rfl) rfl (.tmp rfl) hv_v_7) (fun q => ?_)
   obtain ⟨go_8, gc_9⟩ := q
   refine jc (op_assign lb (.tmp rfl)) ?_
   refine JL.nil ?_
   refine JQ.then ?_
   refine JC.ret ?_
   replace hm := Option.some.inj hm
   subst hm
   exact JQ.done (js := [1, 0]) (ss := [.val (HDR go_8 0 (List.length v_7) gc_9)]) (go_8, gc_9) (.inl rfl) (.nil rfl) rfl (.cons (.tmp rfl) .nil) rfl rfl rfl
 · replace hm := nilK hm (show _ = (
         some ([] : (List UInt8))
         ) by simp [hb1_ rfl, viewL, apV, apEV, apE, subL, apL])
   refine JL.nil ?_
   refine JQ.then ?_
   refine JC.condT (.tmp rfl) rfl ?_
   refine JC.seq ?_
   refine JC.region ?_
   refine jc (op_assign lb HasO.nilH) ?_
   refine JL.nil ?_
   refine JQ.then ?_
   refine JC.ret ?_
   refine JQ.outR ?_
   replace hm := Option.some.inj hm
   subst hm
   refine JQ.pre (Imp.nilown (rU UInt8)) ?_
   exact JQ.done (js := [1, 0]) (ss := [.val (HDR none 0 (List.length ([] : (List UInt8))) (0))]) (none, 0) (.inl rfl) (.nil rfl) rfl (.cons (.tmp rfl) .nil) rfl rfl rfl

theorem sim_net_Net_lay'2 (k : Nat) (p_1 : net_pair) (o_2 : Nat) (n_3 : Nat) (ends_4 : Int) (lost_5 : Int) (x_7 : (List (net_pair × (List (List UInt8))))) (x_9 : (List UInt8)) (gb_6 : Nat) (go_8 : Option Nat) (go_10 : Option Nat) (gc_11 : Nat) (r : (List (net_pair × (List (List UInt8))))) (hm : net_Net_lay'2 k p_1 o_2 n_3 ends_4 lost_5 x_7 x_9 = some r) : Sim Try.prog 30 [PTR gb_6 0, A r_net_pair p_1, HDX go_10 (o_2 * 1) n_3] [cvar gb_6 (rP (rW (MPV go_8)) (rP (rI .i64) (rP (rI .i64) r0))) ((), (ends_4, (lost_5, ()))), cmap go_8 (A r_net_pair) (S (rL (rL (rU UInt8)))) (some x_7), cown go_10 (rU UInt8) x_9 0 gc_11] (γ := Unit) (fun q => [cvar gb_6 (rP (rW (MPV go_8)) (rP (rI .i64) (rP (rI .i64) r0))) ((), (ends_4, (lost_5, ()))), cmap go_8 (A r_net_pair) (S (rL (rL (rU UInt8)))) (some r), cown go_10 (rU UInt8) x_9 0 gc_11]) (fun q => .tup []) := by
 unfold net_Net_lay'2 at hm
 refine Sim.of Try.func30 rfl rfl (Nat.le_of_ble_eq_true rfl) (fun e0 w0 => ?_)
 refine JC.at ⟨[(0, ov (PTR gb_6 0)), (1, ov (A r_net_pair p_1)), (2, ov (HDX go_10 (o_2 * 1) n_3))], [cvar gb_6 (rP (rW (MPV go_8)) (rP (rI .i64) (rP (rI .i64) r0))) ((), (ends_4, (lost_5, ()))), cmap go_8 (A r_net_pair) (S (rL (rL (rU UInt8)))) (some x_7), cown go_10 (rU UInt8) x_9 0 gc_11], []⟩ ?_
 refine JC.seq ?_
 refine JC.region ?_
 refine jx (op_boxA lb (.tmp rfl)) (fun q => ?_)
 obtain ⟨gb_12, hqq⟩ : ∃ z, z = q := ⟨_, rfl⟩
 subst hqq
 refine JL.nil ?_
 refine JQ.then ?_
 refine JC.seq ?_
 replace hm := lt1_inv hm
 obtain ⟨v_13, hv_v_13, hm⟩ := hm
 refine JC.anyE (kl := []) (kk := 0) (base := [(0, ov (PTR gb_6 0)), (2, ov (HDX go_10 (o_2 * 1) n_3)), (4, ov (PTR gb_12 0))])
     (fs := fun γ => [⟨some 7, ov (PTR gb_6 0)⟩, ⟨some 8, ov (PTR gb_6 0)⟩, ⟨some 9, ov (PTR gb_6 (0 + 0))⟩, ⟨some 10, ov (MPV go_8)⟩, ⟨some 11, ov (A r_net_pair p_1)⟩, ⟨some 12, ov (S (rL (rL (rU UInt8))) v_13)⟩, ⟨some 6, ov (S (rL (rL (rU UInt8))) v_13)⟩])
     (rs := fun γ => [⟨cvar gb_6 (rP (rW (MPV go_8)) (rP (rI .i64) (rP (rI .i64) r0))) ((), (ends_4, (lost_5, ()))), none, none, [3]⟩, ⟨cmap go_8 (A r_net_pair) (S (rL (rL (rU UInt8)))) (some x_7), none, none, [5]⟩, ⟨cown go_10 (rU UInt8) x_9 0 gc_11, none, none, []⟩, ⟨cvar gb_12 r_net_pair p_1, none, none, [4]⟩])
     (ds := [7, 8, 9, 10, 11, 12, 6]) (bs := [0, 2, 4]) (afts := [[], [], [], [], [], [], []]) (js := [0, 0, 0, 0]) mixed (.cons rfl (.cons rfl (.cons rfl .nil))) (fun _ => rfl)
     (by
      refine dS 1 (fun γ ρ B hb hd => op_move lb (.tmp (hb 0 _ rfl))) ?_
      refine dS 2 (fun γ ρ B hb hd => op_nilCheck lb (.tmp (hl hd 0 7 rfl)) (fun e v h => by subst h; rfl)) ?_
      refine dS 3 (fun γ ρ B hb hd => op_fieldAddr (off := 0) lb tf57_0 (.tmp (hl hd 1 8 rfl))) ?_
      refine DSteps.cons (j := 4) rfl (fun _ => rfl) (.run (fun γ ρ B hb hd => ⟨.none, OpStep.at ⟨ρ, (cvar gb_6 (rP (rW (MPV go_8)) (rP (rI .i64) (rP (rI .i64) r0))) ((), (ends_4, (lost_5, ())))) :: B, _⟩ (setO ⟨ρ, (cvar gb_6 (rP (rW (MPV go_8)) (rP (rI .i64) (rP (rI .i64) r0))) ((), (ends_4, (lost_5, ())))) :: B, _⟩ _ _) (op_loadW (j := 0) lb tS55 (.tmp (hl hd 2 9 rfl)) rfl (Comp.trans (Comp.self (rP (rW (MPV go_8)) (rP (rI .i64) (rP (rI .i64) r0))) ((), (ends_4, (lost_5, ())))) (Comp.at' (Comp.inF (Comp.self (rW (MPV go_8)) ()) (Nat.le_of_ble_eq_true rfl)) (by rfl : _ = 0)) (Nat.le_of_ble_eq_true rfl)))⟩)) ?_
      refine DSteps.cons (j := 5) rfl (fun _ => rfl) (.run (fun γ ρ B hb hd => ⟨.none, OpStep.at ⟨ρ, (cvar gb_12 r_net_pair p_1) :: B, _⟩ (setO ⟨ρ, (cvar gb_12 r_net_pair p_1) :: B, _⟩ _ _) (op_loadA (j := 0) lb tA60 (.tmp (hb 4 _ rfl)) rfl (Comp.self r_net_pair p_1) rfl)⟩)) ?_
      refine DSteps.cons (j := 6) rfl (fun _ => rfl) (.run (fun γ ρ B hb hd => ⟨.none, OpStep.at ⟨ρ, (cmap go_8 (A r_net_pair) (S (rL (rL (rU UInt8)))) (some x_7)) :: B, _⟩ (setO ⟨ρ, (cmap go_8 (A r_net_pair) (S (rL (rL (rU UInt8)))) (some x_7)) :: B, _⟩ _ _) (op_lookup (z0 := ([] : (List (List UInt8)))) (j := 0) lb tu55 ky60 tZ58 (fun e => zv58 e) rfl (.tmp (hl hd 3 10 rfl)) (.tmp (hl hd 4 11 rfl)) hv_v_13)⟩)) ?_
      refine dS 7 (fun γ ρ B hb hd => op_assign lb (.tmp (hl hd 5 12 rfl))) ?_
      exact DSteps.nil)
     (by decide +kernel) (fun _ => rfl) rfl (fun _ => rfl) (fun _ => rfl) rfl (by decide) (by decide) (by decide +kernel) (fun _ d h => by cases h)
     (ρ' := fun γ => [(0, ov (PTR gb_6 0)), (2, ov (HDX go_10 (o_2 * 1) n_3)), (4, ov (PTR gb_12 0)), (6, ov (S (rL (rL (rU UInt8))) v_13))])
     (X' := fun γ => [cvar gb_6 (rP (rW (MPV go_8)) (rP (rI .i64) (rP (rI .i64) r0))) ((), (ends_4, (lost_5, ()))), cmap go_8 (A r_net_pair) (S (rL (rL (rU UInt8)))) (some x_7), cown go_10 (rU UInt8) x_9 0 gc_11, cvar gb_12 r_net_pair p_1])
     (fun γ ρ hb hd => (.cons (hb 0 _ rfl (by decide)) (.cons (hb 2 _ rfl (by decide)) (.cons (hb 4 _ rfl (by decide)) (.cons (hdq hd 6 6 rfl) .nil))))) (fun _ => rfl) (fun γ => ?_)
 refine JQ.at ⟨[(0, ov (PTR gb_6 0)), (2, ov (HDX go_10 (o_2 * 1) n_3)), (4, ov (PTR gb_12 0)), (6, ov (S (rL (rL (rU UInt8))) v_13))], [cvar gb_6 (rP (rW (MPV go_8)) (rP (rI .i64) (rP (rI .i64) r0))) ((), (ends_4, (lost_5, ()))), cmap go_8 (A r_net_pair) (S (rL (rL (rU UInt8)))) (some x_7), cown go_10 (rU UInt8) x_9 0 gc_11, cvar gb_12 r_net_pair p_1], []⟩ ?_
 refine JQ.then ?_
 replace hm := bnd_inv hm
 obtain ⟨v_14, hv_v_14, hm⟩ := hm
 replace hm := bnd_inv hm
 obtain ⟨v_15, hv_v_15, hm⟩ := hm
 replace hm := bnd_inv hm
 obtain ⟨v_18, hv_v_18, hm⟩ := hm
 replace hm := lt1_inv hm
 obtain ⟨x_19, hv_x_19, hm⟩ := hm
 refine JC.anyE (kl := []) (kk := 0) (base := [(0, ov (PTR gb_6 0)), (2, ov (HDX go_10 (o_2 * 1) n_3)), (4, ov (PTR gb_12 0)), (6, ov (S (rL (rL (rU UInt8))) v_13))])
     (fs := fun γ => [⟨some 13, ov (PTR gb_6 0)⟩, ⟨some 14, ov (PTR gb_6 0)⟩, ⟨some 15, ov (PTR gb_6 (0 + 0))⟩, ⟨some 16, ov (MPV go_8)⟩, ⟨some 17, ov (A r_net_pair p_1)⟩, ⟨some 18, ov (S (rL (rL (rU UInt8))) v_13)⟩, ⟨some 19, ov (S (rL (rL (rU UInt8))) v_13)⟩, ⟨some 20, ov (S (rI .i64) (List.length v_13 : Int))⟩, ⟨some 21, ov (S (rL (rL (rU UInt8))) v_13)⟩, ⟨some 22, ov (S (rI .i64) (List.length v_13 : Int))⟩, ⟨some 23, ov (S (rLc (rL (rU UInt8))) v_14)⟩, ⟨some 24, ov (HDX go_10 (o_2 * 1) n_3)⟩, ⟨some 25, ov (S (rL (rU UInt8)) v_15)⟩, ⟨some 26, ov (S (rL (rL (rU UInt8))) ([v_15] : (List (List UInt8))))⟩, ⟨some 27, ov (S (rL (rL (rU UInt8))) v_18)⟩, ⟨none, .one .any⟩])
     (rs := fun γ => [⟨cvar gb_6 (rP (rW (MPV go_8)) (rP (rI .i64) (rP (rI .i64) r0))) ((), (ends_4, (lost_5, ()))), none, none, [3]⟩, ⟨cmap go_8 (A r_net_pair) (S (rL (rL (rU UInt8)))) (some x_7), none, (some 15), []⟩, ⟨cown go_10 (rU UInt8) x_9 0 gc_11, none, (some 12), []⟩, ⟨cvar gb_12 r_net_pair p_1, none, none, [4]⟩, ⟨cown go_10 (rU UInt8) x_9 0 gc_11, (some 12), none, []⟩, ⟨cmap go_8 (A r_net_pair) (S (rL (rL (rU UInt8)))) (some x_19), (some 15), none, []⟩])
     (ds := [13, 14, 15, 16, 17, 18, 19, 20, 21, 22, 23, 24, 25, 26, 27]) (bs := [0, 2, 4, 6]) (afts := [[], [], [], [], [], [], [], [], [], [], [], [], [], [], [], []]) (js := [0, 0, 0, 0]) mixed (.cons rfl (.cons rfl (.cons rfl (.cons rfl .nil)))) (fun _ => rfl)
     (by
      refine dS 1 (fun γ ρ B hb hd => op_move lb (.tmp (hb 0 _ rfl))) ?_
      refine dS 2 (fun γ ρ B hb hd => op_nilCheck lb (.tmp (hl hd 0 13 rfl)) (fun e v h => by subst h; rfl)) ?_
      refine dS 3 (fun γ ρ B hb hd => op_fieldAddr (off := 0) lb tf57_0 (.tmp (hl hd 1 14 rfl))) ?_
      refine DSteps.cons (j := 4) rfl (fun _ => rfl) (.run (fun γ ρ B hb hd => ⟨.none, OpStep.at ⟨ρ, (cvar gb_6 (rP (rW (MPV go_8)) (rP (rI .i64) (rP (rI .i64) r0))) ((), (ends_4, (lost_5, ())))) :: B, _⟩ (setO ⟨ρ, (cvar gb_6 (rP (rW (MPV go_8)) (rP (rI .i64) (rP (rI .i64) r0))) ((), (ends_4, (lost_5, ())))) :: B, _⟩ _ _) (op_loadW (j := 0) lb tS55 (.tmp (hl hd 2 15 rfl)) rfl (Comp.trans (Comp.self (rP (rW (MPV go_8)) (rP (rI .i64) (rP (rI .i64) r0))) ((), (ends_4, (lost_5, ())))) (Comp.at' (Comp.inF (Comp.self (rW (MPV go_8)) ()) (Nat.le_of_ble_eq_true rfl)) (by rfl : _ = 0)) (Nat.le_of_ble_eq_true rfl)))⟩)) ?_
      refine DSteps.cons (j := 5) rfl (fun _ => rfl) (.run (fun γ ρ B hb hd => ⟨.none, OpStep.at ⟨ρ, (cvar gb_12 r_net_pair p_1) :: B, _⟩ (setO ⟨ρ, (cvar gb_12 r_net_pair p_1) :: B, _⟩ _ _) (op_loadA (j := 0) lb tA60 (.tmp (hb 4 _ rfl)) rfl (Comp.self r_net_pair p_1) rfl)⟩)) ?_
      refine dS 6 (fun γ ρ B hb hd => op_move lb (.tmp (hb 6 _ rfl))) ?_
      refine dS 7 (fun γ ρ B hb hd => op_move lb (.tmp (hb 6 _ rfl))) ?_
      refine dS 8 (fun γ ρ B hb hd => op_lenL lb tu58 (.tmp (hl hd 6 19 rfl))) ?_
      refine dS 9 (fun γ ρ B hb hd => op_move lb (.tmp (hb 6 _ rfl))) ?_
      refine dS 10 (fun γ ρ B hb hd => op_lenL lb tu58 (.tmp (hl hd 8 21 rfl))) ?_
      refine dS 11 (fun γ ρ B hb hd => op_sliceLcg lb tu58 tz31 (.tmp (hl hd 5 18 rfl)) .none (.some (.tmp (hl hd 7 20 rfl))) (.some (.tmp (hl hd 9 22 rfl))) hv_v_14) ?_
      refine dS 12 (fun γ ρ B hb hd => op_move lb (.tmp (hb 2 _ rfl))) ?_
      refine DSteps.cons (j := 13) rfl (fun _ => rfl) (.run (fun γ ρ B hb hd => ⟨.none, OpStep.at ⟨ρ, (cown go_10 (rU UInt8) x_9 0 gc_11) :: B, _⟩ (setO ⟨ρ, (cown go_10 (rU UInt8) x_9 0 gc_11) :: B, _⟩ _ _) ((op_call (js := [0]) ld cl40 (sim_slices_Clonebyte_byte'3 k o_2 n_3 x_9 go_10 gc_11 v_15 hv_v_15) .func (.cons (.tmp (hl hd 11 24 rfl)) .nil) rfl).post (fun q => Imp.dropF (j := 0) rfl))⟩)) ?_
      refine dS 14 (fun γ ρ B hb hd => op_buildF (r := (rL (rU UInt8))) lb tu58 tz31 tZ31 rfl (Nat.le_of_ble_eq_true rfl) (.S rfl (.tmp (hl hd 12 25 rfl)) .nil) rfl) ?_
      refine dS 15 (fun γ ρ B hb hd => op_appendCL lb tu58 tu58 rfl tB31 rfl (Nat.lt_of_lt_of_le Nat.zero_lt_one (Nat.le_of_ble_eq_true rfl)) (.tmp (hl hd 10 23 rfl)) (.tmp (hl hd 13 26 rfl)) hv_v_18) ?_
      refine DSteps.cons (j := 16) rfl (fun _ => rfl) (.run (fun γ ρ B hb hd => ⟨.none, OpStep.at ⟨ρ, (cmap go_8 (A r_net_pair) (S (rL (rL (rU UInt8)))) (some x_7)) :: B, _⟩ (setO ⟨ρ, (cmap go_8 (A r_net_pair) (S (rL (rL (rU UInt8)))) (some x_19)) :: B, _⟩ _ _) (op_mapUpdate (j := 0) tu55 ky60 rfl (.tmp (hl hd 3 16 rfl)) (.tmp (hl hd 4 17 rfl)) (.tmp (hl hd 14 27 rfl)) (congrArg (fun z => some (some z)) hv_x_19))⟩)) ?_
      exact DSteps.nil)
     (by decide +kernel) (fun _ => rfl) rfl (fun _ => rfl) (fun _ => rfl) rfl (by decide) (by decide) (by decide +kernel) (fun _ d h => by cases h)
     (ρ' := fun γ => [])
     (X' := fun γ => [cvar gb_6 (rP (rW (MPV go_8)) (rP (rI .i64) (rP (rI .i64) r0))) ((), (ends_4, (lost_5, ()))), cvar gb_12 r_net_pair p_1, cown go_10 (rU UInt8) x_9 0 gc_11, cmap go_8 (A r_net_pair) (S (rL (rL (rU UInt8)))) (some x_19)])
     (fun γ ρ hb hd => .nil) (fun _ => rfl) (fun γ => ?_)
 refine JQ.at ⟨[], [cvar gb_6 (rP (rW (MPV go_8)) (rP (rI .i64) (rP (rI .i64) r0))) ((), (ends_4, (lost_5, ()))), cvar gb_12 r_net_pair p_1, cown go_10 (rU UInt8) x_9 0 gc_11, cmap go_8 (A r_net_pair) (S (rL (rL (rU UInt8)))) (some x_19)], []⟩ ?_
 replace hm := Option.some.inj hm
 subst hm
 refine JQ.pre (Imp.var (j := 0) (q := (rP (rW (MPV go_8)) (rP (rI .i64) (rP (rI .i64) r0)))) (y := ((), (ends_4, (lost_5, ())))) rfl Wk.refl) ?_
 exact JQ.done (js := [0, 2, 1]) (ss := []) () (.inr rfl) (.nil rfl) rfl .nil rfl rfl rfl

end Go.Proofs.Ytnadeehdnmgebaa
