/- Walks. -/
import Derived.Test.YtnadeehdnmgebaaT
import Derived.Test.YtnadeehdnmgebaaW0
import Derived.Test.YtnadeehdnmgebaaW2
import Derived.Test.YtnadeehdnmgebaaW3
namespace Go.Proofs.Ytnadeehdnmgebaa
open Go Fw
set_option linter.unusedVariables false
set_option maxRecDepth 100000
set_option maxHeartbeats 4000000

theorem sim_net_Net_Len (k : Nat) (ends_1 : Int) (lost_2 : Int) (x_4 : (List (net_pair × (List (List UInt8))))) (gb_3 : Nat) (go_5 : Option Nat) (r : Int) (hm : net_Net_Len k ends_1 lost_2 x_4 = some r) : Sim Try.prog 16 [PTR gb_3 0] [cvar gb_3 (rP (rW (MPV go_5)) (rP (rI .i64) (rP (rI .i64) r0))) ((), (ends_1, (lost_2, ()))), cmap go_5 (A r_net_pair) (S (rL (rL (rU UInt8)))) (some x_4)] (γ := Unit) (fun q => [cvar gb_3 (rP (rW (MPV go_5)) (rP (rI .i64) (rP (rI .i64) r0))) ((), (ends_1, (lost_2, ()))), cmap go_5 (A r_net_pair) (S (rL (rL (rU UInt8)))) (some x_4)]) (fun q => .one (.val (S (rI .i64) r))) := by
 unfold net_Net_Len at hm
 refine Sim.of Try.func16 rfl rfl (Nat.le_of_ble_eq_true rfl) (fun e0 w0 => ?_)
 refine JC.at ⟨[(0, ov (PTR gb_3 0))], [cvar gb_3 (rP (rW (MPV go_5)) (rP (rI .i64) (rP (rI .i64) r0))) ((), (ends_1, (lost_2, ()))), cmap go_5 (A r_net_pair) (S (rL (rL (rU UInt8)))) (some x_4)], []⟩ ?_
 refine JC.seq ?_
 refine JC.region ?_
 refine jc (op_assign lb .cI) ?_
 refine JL.nil ?_
 refine JQ.then ?_
 refine JC.seq ?_
 refine JC.region ?_
 refine jc (op_assign lb .cI) ?_
 refine JL.nil ?_
 refine JQ.then ?_
 replace hm := bnd_inv hm
 obtain ⟨c_13, hx1, hq1⟩ := hm
 refine JC.seqJ (γ := Unit) (stj := fun q => ⟨[(3, ov (S (rI .i64) c_13))], [cvar gb_3 (rP (rW (MPV go_5)) (rP (rI .i64) (rP (rI .i64) r0))) ((), (ends_1, (lost_2, ()))), cmap go_5 (A r_net_pair) (S (rL (rL (rU UInt8)))) (some x_4)], []⟩) (fun q => ?_) ?_
 · obtain _ := q
   refine JC.at ⟨[(3, ov (S (rI .i64) c_13))], [cvar gb_3 (rP (rW (MPV go_5)) (rP (rI .i64) (rP (rI .i64) r0))) ((), (ends_1, (lost_2, ()))), cmap go_5 (A r_net_pair) (S (rL (rL (rU UInt8)))) (some x_4)], []⟩ ?_
   refine JC.seq ?_
   refine JC.region ?_
   refine jc (op_move lb (.tmp rfl)) ?_
   refine jc (op_assign lb (.tmp rfl)) ?_
   refine JL.nil ?_
   refine JQ.then ?_
   refine JC.ret ?_
   replace hq1 := Option.some.inj hq1
   subst hq1
   exact JQ.done (js := [0, 0]) (ss := [.val (S (rI .i64) c_13)]) () (.inl rfl) (.nil rfl) rfl (.cons (.tmp rfl) .nil) rfl rfl rfl
 · refine JC.seq ?_
   refine JC.region ?_
   refine jc (op_move lb (.tmp rfl)) ?_
   replace hx1 := bnd_inv hx1
   obtain ⟨_, hv_u_6, hx1⟩ := hx1
   refine jx (op_call (js := [0, 0]) ld cl29 (sim_net_Net_there k ends_1 lost_2 x_4 gb_3 go_5 () hv_u_6) .func (.cons (.tmp rfl) .nil) rfl) (fun _ => ?_)
   refine JL.nil ?_
   refine JQ.then ?_
   refine JC.condT (.tmp rfl) rfl ?_
   refine JC.seq ?_
   refine JC.region ?_
   refine jc (op_move lb (.tmp rfl)) ?_
   refine jc (op_nilCheck lb (.tmp rfl) (fun e v h => by subst h; rfl)) ?_
   refine jc (op_fieldAddr (off := 0) lb tf57_0 (.tmp rfl)) ?_
   refine jc (op_loadW (j := 0) lb tS55 (.tmp rfl) rfl (Comp.trans (Comp.self (rP (rW (MPV go_5)) (rP (rI .i64) (rP (rI .i64) r0))) ((), (ends_1, (lost_2, ())))) (Comp.at' (Comp.inF (Comp.self (rW (MPV go_5)) ()) (Nat.le_of_ble_eq_true rfl)) (by rfl : _ = 0)) (Nat.le_of_ble_eq_true rfl))) ?_
   refine jx (op_range (j := 1) lb tu55 rfl (.tmp rfl)) (fun q => ?_)
   obtain ⟨gr_7, hqq⟩ : ∃ z, z = q := ⟨_, rfl⟩
   subst hqq
   refine JL.sub ⟨[(3, ov (S (rI .i64) (0 : Int))), (12, ov (PTR gr_7 0))], [cvar gb_3 (rP (rW (MPV go_5)) (rP (rI .i64) (rP (rI .i64) r0))) ((), (ends_1, (lost_2, ()))), cmapI go_5 gr_7 (A r_net_pair) (S (rL (rL (rU UInt8)))) (some x_4) (Option.getD (some x_4) []) none], []⟩ (.cons rfl (.cons rfl .nil)) rfl rfl ?_
   refine JL.nil ?_
   refine JQ.then ?_
   refine JC.block ?_
   refine JC.pre ?_ (JC.mloop (γ := Unit) (stf := fun s rem q => ⟨[(3, ov (S (rI .i64) s)), (12, ov (PTR gr_7 0))], [cmapI go_5 gr_7 (A r_net_pair) (S (rL (rL (rU UInt8)))) (some x_4) rem none, cvar gb_3 (rP (rW (MPV go_5)) (rP (rI .i64) (rP (rI .i64) r0))) ((), (ends_1, (lost_2, ())))], []⟩) (q := ()) hx1 ?_)
   · exact (Imp.norm (js := [1, 0]) rfl (.cons rfl (.cons rfl .nil)))
   · intro c_9 rem_8 q hf
     obtain _ := q
     refine JC.at ⟨[(3, ov (S (rI .i64) c_9)), (12, ov (PTR gr_7 0))], [cmapI go_5 gr_7 (A r_net_pair) (S (rL (rL (rU UInt8)))) (some x_4) rem_8 none, cvar gb_3 (rP (rW (MPV go_5)) (rP (rI .i64) (rP (rI .i64) r0))) ((), (ends_1, (lost_2, ())))], []⟩ ?_
     refine JC.seq ?_
     refine JC.region ?_
     refine JL.next (j := 0) lb rfl (.tmp rfl) (fun h0 => ?_) (fun e_10 rem_11 hp => ?_)
     · subst h0
       replace hf := foldO_end hf
       change net_Net_Len.f1 k c_9 = some _ at hf
       unfold net_Net_Len.f1 at hf
       refine jc (op_extract (i := 0) lb (.tmp rfl) rfl) ?_
       refine JL.nil ?_
       refine JQ.then ?_
       refine JC.seq ?_
       refine JC.condF (.tmp rfl) rfl ?_
       refine JC.exit ?_
       refine JQ.outX ?_
       have ht := Option.some.inj hf
       have hr := ht
       have hq2 := congrArg some ht
       clear hr ht
       refine JQ.outX ?_
       refine JQ.pre (Imp.endIt (j := 0) rfl) ?_
       refine JQ.here ?_
       replace hq2 := Option.some.inj hq2
       first | subst hq2 | clear hq2
       exact JQ.join () (Imp.norm (js := [1, 0]) rfl (.cons rfl .nil))
     · obtain ⟨x, hx, hr, hn⟩ := foldO_step hf hp
       change net_Net_Len.b1 k c_9 e_10 = some x at hx
       unfold net_Net_Len.b1 at hx
       refine jc (op_extract (i := 0) lb (.tmp rfl) rfl) ?_
       refine JL.nil ?_
       refine JQ.then ?_
       refine JC.seq ?_
       refine JC.condT (.tmp rfl) rfl ?_
       refine JC.skip ?_
       refine JQ.then ?_
       refine JC.block ?_
       refine JC.seq ?_
       refine JC.region ?_
       refine jc (op_entry (j := 0) lb rfl (.tmp rfl)) ?_
       refine jc (op_extract (i := 1) lb (.tmp rfl) rfl) ?_
       refine jc (op_assign lb (.tmp rfl)) ?_
       refine JL.nil ?_
       refine JQ.then ?_
       refine JC.region ?_
       refine jc (op_move lb (.tmp rfl)) ?_
       refine jc (op_move lb (.tmp rfl)) ?_
       refine jc (op_lenL lb tu58 (.tmp rfl)) ?_
       replace hx := lt1_inv hx
       obtain ⟨v_12, hv_v_12, hx⟩ := hx
       refine jc (op_arI lb (.tmp rfl) (.tmp rfl) (congrArg some hv_v_12)) ?_
       refine jc (op_assign lb (.tmp rfl)) ?_
       refine JL.nil ?_
       refine JQ.outNB ?_
       replace hx := Option.some.inj hx
       first | subst hx | clear hx
       refine JQ.pre (Imp.forget (j := 0) rfl) ?_
       exact JQ.mnext () hp (hn _ rfl) (Imp.norm (js := [0, 0]) rfl (.cons rfl (.cons rfl .nil)))

theorem sim_net_Net_Line (k : Nat) (from_1 : Int) (to_2 : Int) (ends_3 : Int) (lost_4 : Int) (x_6 : (List (net_pair × (List (List UInt8))))) (gb_5 : Nat) (go_7 : Option Nat) (r : Int) (hm : net_Net_Line k from_1 to_2 ends_3 lost_4 x_6 = some r) : Sim Try.prog 19 [PTR gb_5 0, S (rI .i64) from_1, S (rI .i64) to_2] [cvar gb_5 (rP (rW (MPV go_7)) (rP (rI .i64) (rP (rI .i64) r0))) ((), (ends_3, (lost_4, ()))), cmap go_7 (A r_net_pair) (S (rL (rL (rU UInt8)))) (some x_6)] (γ := Unit) (fun q => [cvar gb_5 (rP (rW (MPV go_7)) (rP (rI .i64) (rP (rI .i64) r0))) ((), (ends_3, (lost_4, ()))), cmap go_7 (A r_net_pair) (S (rL (rL (rU UInt8)))) (some x_6)]) (fun q => .one (.val (S (rI .i64) r))) := by
 unfold net_Net_Line at hm
 refine Sim.of Try.func19 rfl rfl (Nat.le_of_ble_eq_true rfl) (fun e0 w0 => ?_)
 refine JC.at ⟨[(0, ov (PTR gb_5 0)), (1, ov (S (rI .i64) from_1)), (2, ov (S (rI .i64) to_2))], [cvar gb_5 (rP (rW (MPV go_7)) (rP (rI .i64) (rP (rI .i64) r0))) ((), (ends_3, (lost_4, ()))), cmap go_7 (A r_net_pair) (S (rL (rL (rU UInt8)))) (some x_6)], []⟩ ?_
 refine JC.seq ?_
 refine JC.region ?_
 refine jc (op_assign lb .cI) ?_
 refine JL.nil ?_
 refine JQ.then ?_
 refine JC.seq ?_
 refine JC.seq ?_
 refine JC.region ?_
 refine jc (op_move lb (.tmp rfl)) ?_
 replace hm := bnd_inv hm
 obtain ⟨_, hv_u_8, hm⟩ := hm
 refine jx (op_call (js := [0, 0]) ld cl29 (sim_net_Net_there k ends_3 lost_4 x_6 gb_5 go_7 () hv_u_8) .func (.cons (.tmp rfl) .nil) rfl) (fun _ => ?_)
 refine jc (op_not lb (.tmp rfl) rfl) ?_
 refine JL.nil ?_
 refine JQ.then ?_
 refine JC.condF (.tmp rfl) rfl ?_
 refine JC.skip ?_
 refine JQ.then ?_
 refine JC.seq ?_
 refine JC.region ?_
 refine jc (op_move lb (.tmp rfl)) ?_
 refine jc (op_nilCheck lb (.tmp rfl) (fun e v h => by subst h; rfl)) ?_
 refine jc (op_fieldAddr (off := 0) lb tf57_0 (.tmp rfl)) ?_
 refine jc (op_loadW (j := 0) lb tS55 (.tmp rfl) rfl (Comp.trans (Comp.self (rP (rW (MPV go_7)) (rP (rI .i64) (rP (rI .i64) r0))) ((), (ends_3, (lost_4, ())))) (Comp.at' (Comp.inF (Comp.self (rW (MPV go_7)) ()) (Nat.le_of_ble_eq_true rfl)) (by rfl : _ = 0)) (Nat.le_of_ble_eq_true rfl))) ?_
 refine jc (op_move lb (.tmp rfl)) ?_
 refine jc (op_move lb (.tmp rfl)) ?_
 refine JL.sub ⟨[(6, ov (S (rI .i64) (0 : Int))), (13, ov (MPV go_7)), (14, ov (S (rI .i64) from_1)), (15, ov (S (rI .i64) to_2))], [cvar gb_5 (rP (rW (MPV go_7)) (rP (rI .i64) (rP (rI .i64) r0))) ((), (ends_3, (lost_4, ()))), cmap go_7 (A r_net_pair) (S (rL (rL (rU UInt8)))) (some x_6)], []⟩ (.cons rfl (.cons rfl (.cons rfl (.cons rfl .nil)))) rfl rfl ?_
 refine jc (op_build lb tZ60 zs60 tp60 (.S (off := 0) rfl (.tmp rfl) rfl ((UpdR.fst (UpdR.self (by rfl))).at (by rfl)) (.S (off := 1) rfl (.tmp rfl) rfl ((UpdR.snd (UpdR.fst (UpdR.self (by rfl)))).at (by rfl)) .nil)) rfl) ?_
 replace hm := lt1_inv hm
 obtain ⟨v_9, hv_v_9, hm⟩ := hm
 refine jc (op_lookup (z0 := ([] : (List (List UInt8)))) (j := 1) lb tu55 ky60 tZ58 (fun e => zv58 e) rfl (.tmp rfl) (HasO.wk (q := A r_net_pair (net_pair.mk from_1 to_2)) (.tmp rfl) (wkAK (Wk.st Wk.refl))) hv_v_9) ?_
 refine jc (op_lenL lb tu58 (.tmp rfl)) ?_
 refine jc (op_assign lb (.tmp rfl)) ?_
 refine JL.nil ?_
 refine JQ.then ?_
 refine JC.ret ?_
 replace hm := Option.some.inj hm
 subst hm
 exact JQ.done (js := [0, 0]) (ss := [.val (S (rI .i64) (List.length v_9 : Int))]) () (.inl rfl) (.nil rfl) rfl (.cons (.tmp rfl) .nil) rfl rfl rfl

theorem sim_net_Net_Double (k : Nat) (place_1 : Int) (ends_2 : Int) (lost_3 : Int) (x_5 : (List (net_pair × (List (List UInt8))))) (gb_4 : Nat) (go_6 : Option Nat) (r : Int × (List (net_pair × (List (List UInt8))))) (hm : net_Net_Double k place_1 ends_2 lost_3 x_5 = some r) : Sim Try.prog 21 [PTR gb_4 0, S (rI .i64) place_1] [cvar gb_4 (rP (rW (MPV go_6)) (rP (rI .i64) (rP (rI .i64) r0))) ((), (ends_2, (lost_3, ()))), cmap go_6 (A r_net_pair) (S (rL (rL (rU UInt8)))) (some x_5)] (γ := Unit) (fun q => [cvar gb_4 (rP (rW (MPV go_6)) (rP (rI .i64) (rP (rI .i64) r0))) ((), (ends_2, (lost_3, ()))), cmap go_6 (A r_net_pair) (S (rL (rL (rU UInt8)))) (some r.2)]) (fun q => .one (.val (S (rI .i64) r.1))) := by
 unfold net_Net_Double at hm
 refine Sim.of Try.func21 rfl rfl (Nat.le_of_ble_eq_true rfl) (fun e0 w0 => ?_)
 refine JC.at ⟨[(0, ov (PTR gb_4 0)), (1, ov (S (rI .i64) place_1))], [cvar gb_4 (rP (rW (MPV go_6)) (rP (rI .i64) (rP (rI .i64) r0))) ((), (ends_2, (lost_3, ()))), cmap go_6 (A r_net_pair) (S (rL (rL (rU UInt8)))) (some x_5)], []⟩ ?_
 refine JC.seq ?_
 refine JC.region ?_
 refine jc (op_assign lb .cI) ?_
 refine JL.nil ?_
 refine JQ.then ?_
 refine JC.seq ?_
 refine JC.region ?_
 refine jc (op_move lb (.tmp rfl)) ?_
 refine jc (op_move lb (.tmp rfl)) ?_
 replace hm := bnd_inv hm
 obtain ⟨⟨v_7, v_8⟩, hv_v_7, hm⟩ := hm
 refine jx (op_call (js := [0, 0]) ld cl14 (sim_net_Net_At k place_1 ends_2 lost_3 x_5 gb_4 go_6 (v_7, v_8) hv_v_7) .func (.cons (.tmp rfl) (.cons (.tmp rfl) .nil)) rfl) (fun _ => ?_)
 refine jc (op_move lb (.tmp rfl)) ?_
 refine jc (op_extract (i := 0) lb (.tmp rfl) rfl) ?_
 refine jc (op_extract (i := 1) lb (.tmp rfl) rfl) ?_
 refine jx (op_alloc lb tZ36 zr36) (fun q => ?_)
 obtain ⟨gb_9, hqq⟩ : ∃ z, z = q := ⟨_, rfl⟩
 subst hqq
 refine JL.sub ⟨[(0, ov (PTR gb_4 0)), (5, ov (PTR gb_9 0)), (11, ov (A r_api_Flight v_7)), (12, ov (S (rI .i64) v_8))], [cvar gb_4 (rP (rW (MPV go_6)) (rP (rI .i64) (rP (rI .i64) r0))) ((), (ends_2, (lost_3, ()))), cmap go_6 (A r_net_pair) (S (rL (rL (rU UInt8)))) (some x_5), cvar gb_9 (rP (rI .i64) (rP (rI .i64) (rP (rW (HDR none 0 0 0)) r0))) ((0 : Int), ((0 : Int), ((), ())))], []⟩ (.cons rfl (.cons rfl (.cons rfl (.cons rfl .nil)))) rfl rfl ?_
 refine jc (op_storeA (j := 2) tA36 (.tmp rfl) (.tmp rfl) rfl (UpdR.self (by rfl)) rfl) ?_
 refine jc (op_assign lb (.tmp rfl)) ?_
 refine JL.nil ?_
 refine JQ.then ?_
 refine JC.seq ?_
 refine JC.block ?_
 refine JC.seq ?_
 refine JC.region ?_
 refine jc (op_move lb (.tmp rfl)) ?_
 replace hm := lt1_inv hm
 obtain ⟨v_10, hv_v_10, hm⟩ := hm
 refine jc (op_cmpI lb (.tmp rfl) .cI (congrArg some hv_v_10)) ?_
 refine jc (op_assign lb (.tmp rfl)) ?_
 refine JL.nil ?_
 refine JQ.then ?_
 replace hm := iteB_inv hm
 rcases hm with ⟨hc1, hm⟩ | ⟨hc1, hm⟩
 · refine JC.condT (.tmp rfl) hc1 ?_
   refine JC.seq ?_
   refine JC.region ?_
   refine jc (op_move lb (.tmp rfl)) ?_
   refine jc (op_assign lb (.tmp rfl)) ?_
   refine JL.nil ?_
   refine JQ.then ?_
   refine JC.ret ?_
   refine JQ.outRB ?_
   refine JQ.outR ?_
   replace hm := Option.some.inj hm
   subst hm
   exact JQ.done (js := [0, 0]) (ss := [.val (S (rI .i64) v_8)]) () (.inl rfl) (.nil rfl) rfl (.cons (.tmp rfl) .nil) rfl rfl rfl
 · refine JC.condF (.tmp rfl) hc1 ?_
   refine JC.seq ?_
   refine JC.region ?_
   refine jc (op_move lb (.tmp rfl)) ?_
   refine jc (op_fieldAddr (off := 0) lb tf36_0 (.tmp rfl)) ?_
   refine jc (op_loadS (j := 2) lb tS3 (.tmp rfl) rfl (Comp.trans (Comp.self r_api_Flight v_7) (comp_api_Flight_From v_7) (Nat.le_of_ble_eq_true rfl)) rfl rfl) ?_
   refine jc (op_fieldAddr (off := 1) lb tf36_1 (.tmp rfl)) ?_
   refine jc (op_loadS (j := 2) lb tS3 (.tmp rfl) rfl (Comp.trans (Comp.self r_api_Flight v_7) (comp_api_Flight_To v_7) (Nat.le_of_ble_eq_true rfl)) rfl rfl) ?_
   refine JL.sub ⟨[(0, ov (PTR gb_4 0)), (5, ov (PTR gb_9 0)), (18, ov (PTR gb_4 0)), (20, ov (S (rI .i64) v_7.From)), (22, ov (S (rI .i64) v_7.To))], [cvar gb_4 (rP (rW (MPV go_6)) (rP (rI .i64) (rP (rI .i64) r0))) ((), (ends_2, (lost_3, ()))), cmap go_6 (A r_net_pair) (S (rL (rL (rU UInt8)))) (some x_5), cvar gb_9 r_api_Flight v_7], []⟩ (.cons rfl (.cons rfl (.cons rfl (.cons rfl (.cons rfl .nil))))) rfl rfl ?_
   replace hm := bnd_inv hm
   obtain ⟨v_11, hv_v_11, hm⟩ := hm
   refine jx (op_call (js := [0, 0]) ld cl19 (sim_net_Net_Line k v_7.From v_7.To ends_2 lost_3 x_5 gb_4 go_6 v_11 hv_v_11) .func (.cons (.tmp rfl) (.cons (.tmp rfl) (.cons (.tmp rfl) .nil))) rfl) (fun _ => ?_)
   replace hm := lt1_inv hm
   obtain ⟨v_12, hv_v_12, hm⟩ := hm
   refine jc (op_cmpI lb (.tmp rfl) .cI (congrArg some hv_v_12)) ?_
   refine jc (op_assign lb (.tmp rfl)) ?_
   refine JL.nil ?_
   refine JQ.then ?_
   replace hm := iteB_inv hm
   rcases hm with ⟨hc2, hm⟩ | ⟨hc2, hm⟩
   · refine JC.condT (.tmp rfl) hc2 ?_
     refine JC.seq ?_
     refine JC.region ?_
     refine jc (op_assign lb .cI) ?_
     refine JL.nil ?_
     refine JQ.then ?_
     refine JC.ret ?_
     refine JQ.outRB ?_
     refine JQ.outR ?_
     replace hm := Option.some.inj hm
     subst hm
     exact JQ.done (js := [0, 0]) (ss := [.val (S (rI .i64) (5 : Int))]) () (.inl rfl) (.nil rfl) rfl (.cons (.tmp rfl) .nil) rfl rfl rfl
   · refine JC.condF (.tmp rfl) hc2 ?_
     refine JC.skip ?_
     refine JQ.outNB ?_
     refine JQ.then ?_
     refine JC.seq ?_
     refine JC.region ?_
     refine jc (op_move lb (.tmp rfl)) ?_
     refine jc (op_fieldAddr (off := 0) lb tf36_0 (.tmp rfl)) ?_
     refine jc (op_loadS (j := 2) lb tS3 (.tmp rfl) rfl (Comp.trans (Comp.self r_api_Flight v_7) (comp_api_Flight_From v_7) (Nat.le_of_ble_eq_true rfl)) rfl rfl) ?_
     refine jc (op_fieldAddr (off := 1) lb tf36_1 (.tmp rfl)) ?_
     refine jc (op_loadS (j := 2) lb tS3 (.tmp rfl) rfl (Comp.trans (Comp.self r_api_Flight v_7) (comp_api_Flight_To v_7) (Nat.le_of_ble_eq_true rfl)) rfl rfl) ?_
     refine jc (op_build lb tZ60 zs60 tp60 (.S (off := 0) rfl (.tmp rfl) rfl ((UpdR.fst (UpdR.self (by rfl))).at (by rfl)) (.S (off := 1) rfl (.tmp rfl) rfl ((UpdR.snd (UpdR.fst (UpdR.self (by rfl)))).at (by rfl)) .nil)) rfl) ?_
     refine jc (op_fieldAddr (off := 2) lb tf36_2 (.tmp rfl)) ?_
     refine jc (op_loadS (j := 2) lb tS31 (.tmp rfl) rfl (Comp.trans (Comp.self r_api_Flight v_7) (comp_api_Flight_Bytes v_7) (Nat.le_of_ble_eq_true rfl)) rfl rfl) ?_
     replace hm := bnd_inv hm
     obtain ⟨x_13, hv_x_13, hm⟩ := hm
     refine jx (op_call (js := [0, 0]) ld cl30 (sim_net_Net_lay k (net_pair.mk v_7.From v_7.To) v_7.Bytes ends_2 lost_3 x_5 gb_4 go_6 x_13 hv_x_13) .func (.cons (.tmp rfl) (.cons (HasO.wk (q := A r_net_pair (net_pair.mk v_7.From v_7.To)) (.tmp rfl) (wkAK (Wk.st Wk.refl))) (.cons (.tmp rfl) .nil))) rfl) (fun _ => ?_)
     refine JL.nrm ⟨[], [cvar gb_4 (rP (rW (MPV go_6)) (rP (rI .i64) (rP (rI .i64) r0))) ((), (ends_2, (lost_3, ()))), cmap go_6 (A r_net_pair) (S (rL (rL (rU UInt8)))) (some (x_13))], []⟩ [0, 0] rfl .nil rfl ?_
     refine JL.nil ?_
     refine JQ.then ?_
     refine JC.seq ?_
     refine JC.region ?_
     refine jc (op_assign lb .cI) ?_
     refine JL.nil ?_
     refine JQ.then ?_
     refine JC.ret ?_
     replace hm := Option.some.inj hm
     subst hm
     exact JQ.done (js := [0, 0]) (ss := [.val (S (rI .i64) (0 : Int))]) () (.inl rfl) (.nil rfl) rfl (.cons (.tmp rfl) .nil) rfl rfl rfl

theorem sim_net_Net_Drop (k : Nat) (place_1 : Int) (ends_2 : Int) (lost_3 : Int) (x_5 : (List (net_pair × (List (List UInt8))))) (gb_4 : Nat) (go_6 : Option Nat) (r : Int × (List (net_pair × (List (List UInt8))))) (hm : net_Net_Drop k place_1 ends_2 lost_3 x_5 = some r) : Sim Try.prog 28 [PTR gb_4 0, S (rI .i64) place_1] [cvar gb_4 (rP (rW (MPV go_6)) (rP (rI .i64) (rP (rI .i64) r0))) ((), (ends_2, (lost_3, ()))), cmap go_6 (A r_net_pair) (S (rL (rL (rU UInt8)))) (some x_5)] (γ := Unit) (fun q => [cvar gb_4 (rP (rW (MPV go_6)) (rP (rI .i64) (rP (rI .i64) r0))) ((), (ends_2, (lost_3, ()))), cmap go_6 (A r_net_pair) (S (rL (rL (rU UInt8)))) (some r.2)]) (fun q => .one (.val (S (rI .i64) r.1))) := by
 unfold net_Net_Drop at hm
 refine Sim.of Try.func28 rfl rfl (Nat.le_of_ble_eq_true rfl) (fun e0 w0 => ?_)
 refine JC.at ⟨[(0, ov (PTR gb_4 0)), (1, ov (S (rI .i64) place_1))], [cvar gb_4 (rP (rW (MPV go_6)) (rP (rI .i64) (rP (rI .i64) r0))) ((), (ends_2, (lost_3, ()))), cmap go_6 (A r_net_pair) (S (rL (rL (rU UInt8)))) (some x_5)], []⟩ ?_
 refine JC.seq ?_
 refine JC.region ?_
 refine jc (op_assign lb .cI) ?_
 refine JL.nil ?_
 refine JQ.then ?_
 refine JC.seq ?_
 refine JC.region ?_
 refine jc (op_move lb (.tmp rfl)) ?_
 refine jc (op_move lb (.tmp rfl)) ?_
 replace hm := bnd_inv hm
 obtain ⟨⟨v_7, v_8, x_9⟩, hv_v_7, hm⟩ := hm
 refine jx (op_call (js := [0, 0]) ld cl15 (sim_net_Net_Take'2 k place_1 ends_2 lost_3 x_5 gb_4 go_6 (v_7, v_8, x_9) hv_v_7) .func (.cons (.tmp rfl) (.cons (.tmp rfl) .nil)) rfl) (fun _ => ?_)
 refine jc (op_move lb (.tmp rfl)) ?_
 refine jc (op_extract (i := 0) lb (.tmp rfl) rfl) ?_
 refine jc (op_extract (i := 1) lb (.tmp rfl) rfl) ?_
 refine jx (op_alloc lb tZ36 zr36) (fun q => ?_)
 obtain ⟨gb_10, hqq⟩ : ∃ z, z = q := ⟨_, rfl⟩
 subst hqq
 refine JL.sub ⟨[(5, ov (PTR gb_10 0)), (11, ov (A r_api_Flight v_7)), (12, ov (S (rI .i64) v_8))], [cvar gb_4 (rP (rW (MPV go_6)) (rP (rI .i64) (rP (rI .i64) r0))) ((), (ends_2, (lost_3, ()))), cmap go_6 (A r_net_pair) (S (rL (rL (rU UInt8)))) (some (x_9)), cvar gb_10 (rP (rI .i64) (rP (rI .i64) (rP (rW (HDR none 0 0 0)) r0))) ((0 : Int), ((0 : Int), ((), ())))], []⟩ (.cons rfl (.cons rfl (.cons rfl .nil))) rfl rfl ?_
 refine jc (op_storeA (j := 2) tA36 (.tmp rfl) (.tmp rfl) rfl (UpdR.self (by rfl)) rfl) ?_
 refine jc (op_assign lb (.tmp rfl)) ?_
 refine JL.nil ?_
 refine JQ.then ?_
 refine JC.seq ?_
 refine JC.region ?_
 refine jc (op_move lb (.tmp rfl)) ?_
 refine jc (op_assign lb (.tmp rfl)) ?_
 refine JL.nil ?_
 refine JQ.then ?_
 refine JC.ret ?_
 replace hm := Option.some.inj hm
 subst hm
 exact JQ.done (js := [0, 0]) (ss := [.val (S (rI .i64) v_8)]) () (.inl rfl) (.nil rfl) rfl (.cons (.tmp rfl) .nil) rfl rfl rfl

end Go.Proofs.Ytnadeehdnmgebaa
