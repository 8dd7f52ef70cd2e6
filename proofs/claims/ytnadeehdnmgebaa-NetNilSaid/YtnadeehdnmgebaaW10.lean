/- Walks. -/
import Derived.Test.YtnadeehdnmgebaaT
import Derived.Test.YtnadeehdnmgebaaW0
namespace Go.Proofs.Ytnadeehdnmgebaa
open Go Fw
set_option linter.unusedVariables false
set_option maxRecDepth 100000
set_option maxHeartbeats 4000000

theorem sim_net_Net_Clear (k : Nat) (end_1 : Int) (ends_2 : Int) (lost_3 : Int) (x_5 : (List (net_pair × (List (List UInt8))))) (gb_4 : Nat) (go_6 : Option Nat) (r : Int × (List (net_pair × (List (List UInt8))))) (hm : net_Net_Clear k end_1 ends_2 lost_3 x_5 = some r) : Sim Try.prog 20 [PTR gb_4 0, S (rI .i64) end_1] [cvar gb_4 (rP (rW (MPV go_6)) (rP (rI .i64) (rP (rI .i64) r0))) ((), (ends_2, (lost_3, ()))), cmap go_6 (A r_net_pair) (S (rL (rL (rU UInt8)))) (some x_5)] (γ := Unit) (fun q => [cvar gb_4 (rP (rW (MPV go_6)) (rP (rI .i64) (rP (rI .i64) r0))) ((), (ends_2, (lost_3, ()))), cmap go_6 (A r_net_pair) (S (rL (rL (rU UInt8)))) (some r.2)]) (fun q => .one (.val (S (rI .i64) r.1))) := by
 unfold net_Net_Clear at hm
 refine Sim.of Try.func20 rfl rfl (Nat.le_of_ble_eq_true rfl) (fun e0 w0 => ?_)
 refine JC.at ⟨[(0, ov (PTR gb_4 0)), (1, ov (S (rI .i64) end_1))], [cvar gb_4 (rP (rW (MPV go_6)) (rP (rI .i64) (rP (rI .i64) r0))) ((), (ends_2, (lost_3, ()))), cmap go_6 (A r_net_pair) (S (rL (rL (rU UInt8)))) (some x_5)], []⟩ ?_
 refine JC.seq ?_
 refine JC.region ?_
 refine jc (op_assign lb .cI) ?_
 refine JL.nil ?_
 refine JQ.then ?_
 refine JC.seq ?_
 refine JC.region ?_
 refine jc (op_assign lb .cI) ?_
 refine JL.nil ?_
 refine JQ.then ?_
 replace hm := bnd_inv hm
 obtain ⟨⟨c_18, x_19⟩, hx1, hq1⟩ := hm
 refine JC.seqJ (γ := Unit) (stj := fun q => ⟨[(5, ov (S (rI .i64) c_18))], [cvar gb_4 (rP (rW (MPV go_6)) (rP (rI .i64) (rP (rI .i64) r0))) ((), (ends_2, (lost_3, ()))), cmap go_6 (A r_net_pair) (S (rL (rL (rU UInt8)))) (some x_19)], []⟩) (fun q => ?_) ?_
 · obtain _ := q
   refine JC.at ⟨[(5, ov (S (rI .i64) c_18))], [cvar gb_4 (rP (rW (MPV go_6)) (rP (rI .i64) (rP (rI .i64) r0))) ((), (ends_2, (lost_3, ()))), cmap go_6 (A r_net_pair) (S (rL (rL (rU UInt8)))) (some x_19)], []⟩ ?_
   refine JC.seq ?_
   refine JC.region ?_
   refine jc (op_move lb (.tmp rfl)) ?_
   refine jc (op_assign lb (.tmp rfl)) ?_
   refine JL.nil ?_
   refine JQ.then ?_
   refine JC.ret ?_
   replace hq1 := Option.some.inj hq1
   subst hq1
   exact JQ.done (js := [0, 0]) (ss := [.val (S (rI .i64) c_18)]) () (.inl rfl) (.nil rfl) rfl (.cons (.tmp rfl) .nil) rfl rfl rfl
 · refine JC.seq ?_
   refine JC.region ?_
   refine jc (op_move lb (.tmp rfl)) ?_
   replace hx1 := bnd_inv hx1
   obtain ⟨_, hv_u_7, hx1⟩ := hx1
   refine jx (op_call (js := [0, 0]) ld cl29 (sim_net_Net_there k ends_2 lost_3 x_5 gb_4 go_6 () hv_u_7) .func (.cons (.tmp rfl) .nil) rfl) (fun _ => ?_)
   refine JL.nil ?_
   refine JQ.then ?_
   refine JC.condT (.tmp rfl) rfl ?_
   refine JC.seq ?_
   refine JC.region ?_
   refine jc (op_move lb (.tmp rfl)) ?_
   refine jc (op_nilCheck lb (.tmp rfl) (fun e v h => by subst h; rfl)) ?_
   refine jc (op_fieldAddr (off := 0) lb tf57_0 (.tmp rfl)) ?_
   refine jc (op_loadW (j := 0) lb tS55 (.tmp rfl) rfl (Comp.trans (Comp.self (rP (rW (MPV go_6)) (rP (rI .i64) (rP (rI .i64) r0))) ((), (ends_2, (lost_3, ())))) (Comp.at' (Comp.inF (Comp.self (rW (MPV go_6)) ()) (Nat.le_of_ble_eq_true rfl)) (by rfl : _ = 0)) (Nat.le_of_ble_eq_true rfl))) ?_
   refine jx (op_range (j := 1) lb tu55 rfl (.tmp rfl)) (fun q => ?_)
   obtain ⟨gr_8, hqq⟩ : ∃ z, z = q := ⟨_, rfl⟩
   subst hqq
   refine JL.sub ⟨[(0, ov (PTR gb_4 0)), (1, ov (S (rI .i64) end_1)), (5, ov (S (rI .i64) (0 : Int))), (14, ov (PTR gr_8 0))], [cvar gb_4 (rP (rW (MPV go_6)) (rP (rI .i64) (rP (rI .i64) r0))) ((), (ends_2, (lost_3, ()))), cmapI go_6 gr_8 (A r_net_pair) (S (rL (rL (rU UInt8)))) (some x_5) (Option.getD (some x_5) []) none], []⟩ (.cons rfl (.cons rfl (.cons rfl (.cons rfl .nil)))) rfl rfl ?_
   refine JL.nil ?_
   refine JQ.then ?_
   refine JC.block ?_
   refine JC.pre ?_ (JC.mloop (γ := Unit) (stf := fun s rem q => ⟨[(0, ov (PTR gb_4 0)), (1, ov (S (rI .i64) end_1)), (5, ov (S (rI .i64) s.2)), (14, ov (PTR gr_8 0))], [cvar gb_4 (rP (rW (MPV go_6)) (rP (rI .i64) (rP (rI .i64) r0))) ((), (ends_2, (lost_3, ()))), cmapI go_6 gr_8 (A r_net_pair) (S (rL (rL (rU UInt8)))) (some s.1) rem none], []⟩) (q := ()) hx1 ?_)
   · exact (Imp.norm (js := [0, 0]) rfl (.cons rfl (.cons rfl (.cons rfl (.cons rfl .nil)))))
   · intro s rem_9 q hf
     obtain ⟨x_10, c_11⟩ := s
     obtain _ := q
     refine JC.at ⟨[(0, ov (PTR gb_4 0)), (1, ov (S (rI .i64) end_1)), (5, ov (S (rI .i64) c_11)), (14, ov (PTR gr_8 0))], [cvar gb_4 (rP (rW (MPV go_6)) (rP (rI .i64) (rP (rI .i64) r0))) ((), (ends_2, (lost_3, ()))), cmapI go_6 gr_8 (A r_net_pair) (S (rL (rL (rU UInt8)))) (some x_10) rem_9 none], []⟩ ?_
     refine JC.seq ?_
     refine JC.region ?_
     refine JL.next (j := 1) lb rfl (.tmp rfl) (fun h0 => ?_) (fun e_12 rem_13 hp => ?_)
     · subst h0
       replace hf := foldO_end hf
       change net_Net_Clear.f1 k x_10 c_11 = some _ at hf
       unfold net_Net_Clear.f1 at hf
       refine jc (op_extract (i := 0) lb (.tmp rfl) rfl) ?_
       refine JL.nil ?_
       refine JQ.then ?_
       refine JC.seq ?_
       refine JC.condF (.tmp rfl) rfl ?_
       refine JC.exit ?_
       refine JQ.outX ?_
       have ht := Option.some.inj hf
       have hr := ht
       have hq2 := congrArg some ht
       clear hr ht
       refine JQ.outX ?_
       refine JQ.pre (Imp.endIt (j := 1) rfl) ?_
       refine JQ.here ?_
       replace hq2 := Option.some.inj hq2
       replace hq2 := Prod.mk.inj hq2
       obtain ⟨hq2_a, hq2⟩ := hq2
       first | subst hq2_a | clear hq2_a
       first | subst hq2 | clear hq2
       exact JQ.join () (Imp.norm (js := [0, 0]) rfl (.cons rfl .nil))
     · obtain ⟨x, hx, hr, hn⟩ := foldO_step hf hp
       change net_Net_Clear.b1 k end_1 x_10 c_11 e_12 = some x at hx
       unfold net_Net_Clear.b1 at hx
       refine jc (op_extract (i := 0) lb (.tmp rfl) rfl) ?_
       refine JL.nil ?_
       refine JQ.then ?_
       refine JC.seq ?_
       refine JC.condT (.tmp rfl) rfl ?_
       refine JC.skip ?_
       refine JQ.then ?_
       refine JC.block ?_
       refine JC.seq ?_
       refine JC.region ?_
       refine jc (op_entry (j := 1) lb rfl (.tmp rfl)) ?_
       refine jc (op_extract (i := 0) lb (.tmp rfl) rfl) ?_
       refine jc (op_extract (i := 1) lb (.tmp rfl) rfl) ?_
       refine jx (op_alloc lb tZ60 zr60) (fun q => ?_)
       obtain ⟨gb_14, hqq⟩ : ∃ z, z = q := ⟨_, rfl⟩
       subst hqq
       refine jc (op_storeA (j := 2) tA60 (.tmp rfl) (.tmp rfl) rfl (UpdR.self (by rfl)) rfl) ?_
       refine jc (op_assign lb (.tmp rfl)) ?_
       refine JL.nil ?_
       refine JQ.then ?_
       refine JC.seq ?_
       refine JC.region ?_
       refine jc (op_fieldAddr (off := 1) lb tf60_1 (.tmp rfl)) ?_
       refine JL.sub ⟨[(0, ov (PTR gb_4 0)), (1, ov (S (rI .i64) end_1)), (5, ov (S (rI .i64) c_11)), (6, ov (PTR gb_14 0)), (7, ov (S (rL (rL (rU UInt8))) e_12.2)), (14, ov (PTR gr_8 0)), (20, ov (PTR gb_14 (0 + 1)))], [cvar gb_4 (rP (rW (MPV go_6)) (rP (rI .i64) (rP (rI .i64) r0))) ((), (ends_2, (lost_3, ()))), cmapI go_6 gr_8 (A r_net_pair) (S (rL (rL (rU UInt8)))) (some x_10) rem_13 (some e_12), cvar gb_14 r_net_pair e_12.1], []⟩ (.cons rfl (.cons rfl (.cons rfl (.cons rfl (.cons rfl (.cons rfl (.cons rfl .nil))))))) rfl rfl ?_
       refine jc (op_loadS (j := 2) lb tS3 (.tmp rfl) rfl (Comp.trans (Comp.self r_net_pair e_12.1) (comp_net_pair_to e_12.1) (Nat.le_of_ble_eq_true rfl)) rfl rfl) ?_
       refine jc (op_move lb (.tmp rfl)) ?_
       replace hx := lt1_inv hx
       obtain ⟨v_15, hv_v_15, hx⟩ := hx
       refine jc (op_cmpI lb (.tmp rfl) (.tmp rfl) (congrArg some hv_v_15)) ?_
       refine JL.nil ?_
       refine JQ.then ?_
       replace hx := iteB_inv hx
       rcases hx with ⟨hc3, hx⟩ | ⟨hc3, hx⟩
       · refine JC.condT (.tmp rfl) hc3 ?_
         refine JC.seq ?_
         refine JC.region ?_
         refine jc (op_move lb (.tmp rfl)) ?_
         refine jc (op_move lb (.tmp rfl)) ?_
         refine jc (op_lenL lb tu58 (.tmp rfl)) ?_
         replace hx := lt1_inv hx
         obtain ⟨v_16, hv_v_16, hx⟩ := hx
         refine jc (op_arI lb (.tmp rfl) (.tmp rfl) (congrArg some hv_v_16)) ?_
         refine jc (op_assign lb (.tmp rfl)) ?_
         refine JL.nil ?_
         refine JQ.then ?_
         replace hx := lt1_inv hx
         obtain ⟨x_17, hv_x_17, hx⟩ := hx
         refine JC.anyE (kl := []) (kk := 0) (base := [(0, ov (PTR gb_4 0)), (1, ov (S (rI .i64) end_1)), (5, ov (S (rI .i64) v_16)), (6, ov (PTR gb_14 0)), (14, ov (PTR gr_8 0))])
             (fs := fun γ => [⟨some 28, ov (PTR gb_4 0)⟩, ⟨some 29, ov (PTR gb_4 0)⟩, ⟨some 30, ov (PTR gb_4 (0 + 0))⟩, ⟨some 31, ov (MPV go_6)⟩, ⟨some 32, ov (A r_net_pair e_12.1)⟩, ⟨none, .one .any⟩])
             (rs := fun γ => [⟨cvar gb_4 (rP (rW (MPV go_6)) (rP (rI .i64) (rP (rI .i64) r0))) ((), (ends_2, (lost_3, ()))), none, none, [3]⟩, ⟨cmapI go_6 gr_8 (A r_net_pair) (S (rL (rL (rU UInt8)))) (some x_10) rem_13 (some e_12), none, (some 5), []⟩, ⟨cvar gb_14 r_net_pair e_12.1, none, none, [4]⟩, ⟨cmapI go_6 gr_8 (A r_net_pair) (S (rL (rL (rU UInt8)))) (some x_17) rem_13 none, (some 5), none, []⟩])
             (ds := [28, 29, 30, 31, 32]) (bs := [0, 1, 5, 6, 14]) (afts := [[], [], [], [], [], []]) (js := [0, 0, 0]) mixed (.cons rfl (.cons rfl (.cons rfl (.cons rfl (.cons rfl .nil))))) (fun _ => rfl)
             (by
      refine dS 1 (fun γ ρ B hb hd => op_move lb (.tmp (hb 0 _ rfl))) ?_
      refine dS 2 (fun γ ρ B hb hd => op_nilCheck lb (.tmp (hl hd 0 28 rfl)) (fun e v h => by subst h; rfl)) ?_
      refine dS 3 (fun γ ρ B hb hd => op_fieldAddr (off := 0) lb tf57_0 (.tmp (hl hd 1 29 rfl))) ?_
      refine DSteps.cons (j := 4) rfl (fun _ => rfl) (.run (fun γ ρ B hb hd => ⟨.none, OpStep.at ⟨ρ, (cvar gb_4 (rP (rW (MPV go_6)) (rP (rI .i64) (rP (rI .i64) r0))) ((), (ends_2, (lost_3, ())))) :: B, _⟩ (setO ⟨ρ, (cvar gb_4 (rP (rW (MPV go_6)) (rP (rI .i64) (rP (rI .i64) r0))) ((), (ends_2, (lost_3, ())))) :: B, _⟩ _ _) (op_loadW (j := 0) lb tS55 (.tmp (hl hd 2 30 rfl)) rfl (Comp.trans (Comp.self (rP (rW (MPV go_6)) (rP (rI .i64) (rP (rI .i64) r0))) ((), (ends_2, (lost_3, ())))) (Comp.at' (Comp.inF (Comp.self (rW (MPV go_6)) ()) (Nat.le_of_ble_eq_true rfl)) (by rfl : _ = 0)) (Nat.le_of_ble_eq_true rfl)))⟩)) ?_
      refine DSteps.cons (j := 5) rfl (fun _ => rfl) (.run (fun γ ρ B hb hd => ⟨.none, OpStep.at ⟨ρ, (cvar gb_14 r_net_pair e_12.1) :: B, _⟩ (setO ⟨ρ, (cvar gb_14 r_net_pair e_12.1) :: B, _⟩ _ _) (op_loadA (j := 0) lb tA60 (.tmp (hb 6 _ rfl)) rfl (Comp.self r_net_pair e_12.1) rfl)⟩)) ?_
      refine DSteps.cons (j := 6) rfl (fun _ => rfl) (.run (fun γ ρ B hb hd => ⟨.none, OpStep.at ⟨ρ, (cmapI go_6 gr_8 (A r_net_pair) (S (rL (rL (rU UInt8)))) (some x_10) rem_13 (some e_12)) :: B, _⟩ (setO ⟨ρ, (cmapI go_6 gr_8 (A r_net_pair) (S (rL (rL (rU UInt8)))) (some x_17) rem_13 none) :: B, _⟩ _ _) (op_deleteI (j := 0) rfl tu55 ky60 rfl (.tmp (hl hd 3 31 rfl)) (.tmp (hl hd 4 32 rfl)) rfl (congrArg some hv_x_17))⟩)) ?_
      exact DSteps.nil)
             (by decide +kernel) (fun _ => rfl) rfl (fun _ => rfl) (fun _ => rfl) rfl (by decide) (by decide) (by decide +kernel) (fun _ d h => by cases h)
             (ρ' := fun γ => [(0, ov (PTR gb_4 0)), (1, ov (S (rI .i64) end_1)), (5, ov (S (rI .i64) v_16)), (14, ov (PTR gr_8 0))])
             (X' := fun γ => [cvar gb_4 (rP (rW (MPV go_6)) (rP (rI .i64) (rP (rI .i64) r0))) ((), (ends_2, (lost_3, ()))), cvar gb_14 r_net_pair e_12.1, cmapI go_6 gr_8 (A r_net_pair) (S (rL (rL (rU UInt8)))) (some x_17) rem_13 none])
             (fun γ ρ hb hd => (.cons (hb 0 _ rfl (by decide)) (.cons (hb 1 _ rfl (by decide)) (.cons (hb 5 _ rfl (by decide)) (.cons (hb 14 _ rfl (by decide)) .nil))))) (fun _ => rfl) (fun γ => ?_)
         refine JQ.at ⟨[(0, ov (PTR gb_4 0)), (1, ov (S (rI .i64) end_1)), (5, ov (S (rI .i64) v_16)), (14, ov (PTR gr_8 0))], [cvar gb_4 (rP (rW (MPV go_6)) (rP (rI .i64) (rP (rI .i64) r0))) ((), (ends_2, (lost_3, ()))), cvar gb_14 r_net_pair e_12.1, cmapI go_6 gr_8 (A r_net_pair) (S (rL (rL (rU UInt8)))) (some x_17) rem_13 none], []⟩ ?_
         refine JQ.outNB ?_
         replace hx := Option.some.inj hx
         first | subst hx | clear hx
         exact JQ.mnext () hp (hn _ rfl) (Imp.norm (js := [0, 1]) rfl (.cons rfl (.cons rfl (.cons rfl (.cons rfl .nil)))))
       · refine JC.condF (.tmp rfl) hc3 ?_
         refine JC.skip ?_
         refine JQ.outNB ?_
         replace hx := Option.some.inj hx
         first | subst hx | clear hx
         refine JQ.pre (Imp.forget (j := 1) rfl) ?_
         exact JQ.mnext () hp (hn _ rfl) (Imp.norm (js := [0, 0]) rfl (.cons rfl (.cons rfl (.cons rfl (.cons rfl .nil)))))

end Go.Proofs.Ytnadeehdnmgebaa
