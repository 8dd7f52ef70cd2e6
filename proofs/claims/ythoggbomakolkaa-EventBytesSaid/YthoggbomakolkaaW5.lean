/- Walks. -/
import Derived.Test.YthoggbomakolkaaT
import Derived.Test.YthoggbomakolkaaW2
import Derived.Test.YthoggbomakolkaaW4
namespace Go.Proofs.Ythoggbomakolkaa
open Go Fw
set_option linter.unusedVariables false
set_option maxRecDepth 100000
set_option maxHeartbeats 4000000

theorem sim_wire_Blob (k : Nat) (b_1 : (List UInt8)) (r : (List UInt8) × Int) (hm : wire_Blob k b_1 = some r) : Sim Try.prog 55 [S (rL (rU UInt8)) b_1] [] (γ := Option Nat × Nat) (fun q => [cown q.1 (rU UInt8) r.1 0 q.2]) (fun q => .tup [.val (HDR q.1 0 (List.length r.1) q.2), .val (S (rI .i64) r.2)]) := by
 unfold wire_Blob at hm
 refine Sim.of Try.func55 rfl rfl (Nat.le_of_ble_eq_true rfl) (fun e0 w0 => ?_)
 refine JC.at ⟨[(0, ov (S (rL (rU UInt8)) b_1))], [], []⟩ ?_
 refine JC.seq ?_
 refine JC.region ?_
 refine jc (op_assign lb HasO.nilH) ?_
 refine jc (op_assign lb .cI) ?_
 refine JL.nil ?_
 refine JQ.then ?_
 refine JC.seq ?_
 refine JC.seq ?_
 refine JC.region ?_
 refine jc (op_move lb (.tmp rfl)) ?_
 refine jc (op_lenL lb tu35 (.tmp rfl)) ?_
 replace hm := lt1_inv hm
 obtain ⟨v_2, hv_v_2, hm⟩ := hm
 refine jc (op_cmpI lb (.tmp rfl) .cI (congrArg some hv_v_2)) ?_
 refine JL.nil ?_
 refine JQ.then ?_
 replace hm := iteB_inv hm
 rcases hm with ⟨hc1, hm⟩ | ⟨hc1, hm⟩
 · refine JC.condT (.tmp rfl) hc1 ?_
   refine JC.seq ?_
   refine JC.region ?_
   refine jc (op_assign lb HasO.nilH) ?_
   refine jc (op_assign lb .cI) ?_
   refine JL.nil ?_
   refine JQ.then ?_
   refine JC.ret ?_
   refine JQ.outR ?_
   replace hm := Option.some.inj hm
   subst hm
   refine JQ.pre (Imp.nilown (rU UInt8)) ?_
   exact JQ.done (js := [0]) (ss := [.val (HDR none 0 (List.length ([] : (List UInt8))) (0)), .val (S (rI .i64) (3 : Int))]) (none, 0) (.inl rfl) (.nil rfl) rfl (.cons (.tmp rfl) (.cons (.tmp rfl) .nil)) rfl rfl rfl
 · refine JC.condF (.tmp rfl) hc1 ?_
   refine JC.skip ?_
   refine JQ.then ?_
   refine JC.seq ?_
   refine JC.region ?_
   refine jc (op_move lb (.tmp rfl)) ?_
   refine jc (op_lenL lb tu35 (.tmp rfl)) ?_
   replace hm := lt1_inv hm
   obtain ⟨v_3, hv_v_3, hm⟩ := hm
   refine jc (op_convIU lb tu3 tu22 (.tmp rfl) hv_v_3) ?_
   replace hm := bnd_inv hm
   obtain ⟨⟨v_4, v_5⟩, hv_v_4, hm⟩ := hm
   refine jx (op_call (js := []) ld cl57 (sim_wire_Put k v_3 (2 : Int) (v_4, v_5) hv_v_4) .func (.cons (.tmp rfl) (.cons .cI .nil)) rfl) (fun q => ?_)
   obtain ⟨go_6, gc_7⟩ := q
   refine jc (op_move lb (.tmp rfl)) ?_
   refine JL.sub ⟨[(0, ov (S (rL (rU UInt8)) b_1)), (9, .tup [.val (HDR go_6 0 (List.length v_4) gc_7), .val (S (rI .i64) v_5)])], [cown go_6 (rU UInt8) v_4 0 gc_7], []⟩ (.cons rfl (.cons rfl .nil)) rfl rfl ?_
   refine jc (op_extract (i := 0) lb (.tmp rfl) rfl) ?_
   refine jc (op_extract (i := 1) lb (.tmp rfl) rfl) ?_
   refine jc (op_assign lb (.tmp rfl)) ?_
   refine jc (op_assign lb (.tmp rfl)) ?_
   refine JL.nil ?_
   refine JQ.then ?_
   refine JC.seq ?_
   refine JC.region ?_
   refine jc (op_move lb (.tmp rfl)) ?_
   refine jc (op_move lb (.tmp rfl)) ?_
   replace hm := bnd_inv hm
   obtain ⟨n_8, hv_n_8, hm⟩ := hm
   refine jx (op_appendL (j := 0) lb tu35 tu35 rfl tB5 rfl (Nat.lt_of_lt_of_le Nat.zero_lt_one (Nat.le_of_ble_eq_true rfl)) (Nat.lt_of_lt_of_le Nat.zero_lt_one (Nat.le_of_ble_eq_true rfl))  rfl (.tmp rfl) (.tmp rfl) hv_n_8) (fun q => ?_)
   obtain ⟨go_9, gc_10⟩ := q
   refine jc (op_assign lb (.tmp rfl)) ?_
   refine jc (op_assign lb .cI) ?_
   refine JL.nil ?_
   refine JQ.then ?_
   refine JC.ret ?_
   replace hm := Option.some.inj hm
   subst hm
   exact JQ.done (js := [0]) (ss := [.val (HDR go_9 0 (List.length n_8) gc_10), .val (S (rI .i64) (0 : Int))]) (go_9, gc_10) (.inl rfl) (.nil rfl) rfl (.cons (.tmp rfl) (.cons (.tmp rfl) .nil)) rfl rfl rfl

theorem sim_event_bytes_1'2 (k : Nat) (x_1 : (List UInt8)) (v_2 : Int) (x_4 : (List UInt8)) (gb_3 : Nat) (go_5 : Option Nat) (gc_6 : Nat) (r : (List UInt8)) (hm : event_bytes_1'2 k x_1 v_2 x_4 = some r) : Sim Try.prog 53 [S (rL (rU UInt8)) x_1, S (rI .i64) v_2, PTR gb_3 0] [cvar gb_3 (rW (HDR go_5 0 (List.length x_4) gc_6)) (), cown go_5 (rU UInt8) x_4 0 gc_6] (γ := Option Nat × Nat) (fun q => [cvar gb_3 (rW (HDR q.1 0 (List.length r) q.2)) (), cown q.1 (rU UInt8) r 0 q.2]) (fun q => .tup []) := by
 unfold event_bytes_1'2 at hm
 refine Sim.of Try.func53 rfl rfl (Nat.le_of_ble_eq_true rfl) (fun e0 w0 => ?_)
 refine JC.at ⟨[(0, ov (S (rL (rU UInt8)) x_1)), (1, ov (S (rI .i64) v_2)), (2, ov (PTR gb_3 0))], [cvar gb_3 (rW (HDR go_5 0 (List.length x_4) gc_6)) (), cown go_5 (rU UInt8) x_4 0 gc_6], []⟩ ?_
 refine JC.region ?_
 refine jc (op_loadW (j := 0) lb tS35 (.tmp rfl) rfl (Comp.self (rW (HDR go_5 0 (List.length x_4) gc_6)) ())) ?_
 refine jc (op_move lb (.tmp rfl)) ?_
 replace hm := bnd_inv hm
 obtain ⟨x_7, hv_x_7, hm⟩ := hm
 refine jx (op_appendL (j := 1) lb tu35 tu35 rfl tB5 rfl (Nat.lt_of_lt_of_le Nat.zero_lt_one (Nat.le_of_ble_eq_true rfl)) (Nat.lt_of_lt_of_le Nat.zero_lt_one (Nat.le_of_ble_eq_true rfl))  rfl (.tmp rfl) (.tmp rfl) hv_x_7) (fun q => ?_)
 obtain ⟨go_8, gc_9⟩ := q
 refine jc (op_storeW (j := 0) tS35 (.tmp rfl) (.tmp rfl) rfl (UpdR.self (by rfl)) rfl) ?_
 refine JL.nil ?_
 replace hm := Option.some.inj hm
 subst hm
 exact JQ.done (js := [0, 0]) (ss := []) (go_8, gc_9) (.inr rfl) (.nil rfl) rfl .nil rfl rfl rfl

theorem sim_wire_Vector (k : Nat) (v_1 : (Vector UInt64 16)) (r : (List UInt8)) (hm : wire_Vector k v_1 = some r) : Sim Try.prog 56 [A (rV 16 (rU UInt64)) v_1] [] (γ := Option Nat × Nat) (fun q => [cown q.1 (rU UInt8) r 0 q.2]) (fun q => .one (.val (HDR q.1 0 (List.length r) q.2))) := by
 unfold wire_Vector at hm
 refine Sim.of Try.func56 rfl rfl (Nat.le_of_ble_eq_true rfl) (fun e0 w0 => ?_)
 refine JC.at ⟨[(0, ov (A (rV 16 (rU UInt64)) v_1))], [], []⟩ ?_
 refine JC.seq ?_
 refine JC.region ?_
 refine jx (op_boxA lb (.tmp rfl)) (fun q => ?_)
 obtain ⟨gb_2, hqq⟩ : ∃ z, z = q := ⟨_, rfl⟩
 subst hqq
 refine jc (op_assign lb HasO.nilH) ?_
 refine JL.nil ?_
 refine JQ.then ?_
 refine JC.seq ?_
 refine JC.region ?_
 refine jc (op_assign lb HasO.nilH) ?_
 refine JL.nil ?_
 refine JQ.then ?_
 replace hm := bnd_inv hm
 obtain ⟨b_17, hx1, hq1⟩ := hm
 refine JC.seqJ (γ := Option Nat × Nat) (stj := fun q => ⟨[(3, ov (HDR q.1 0 (List.length b_17) q.2))], [cown q.1 (rU UInt8) b_17 0 q.2], []⟩) (fun q => ?_) ?_
 · obtain ⟨go_18, gc_19⟩ := q
   refine JC.at ⟨[(3, ov (HDR go_18 0 (List.length b_17) gc_19))], [cown go_18 (rU UInt8) b_17 0 gc_19], []⟩ ?_
   refine JC.seq ?_
   refine JC.region ?_
   refine jc (op_move lb (.tmp rfl)) ?_
   refine jc (op_assign lb (.tmp rfl)) ?_
   refine JL.nil ?_
   refine JQ.then ?_
   refine JC.ret ?_
   replace hq1 := Option.some.inj hq1
   subst hq1
   exact JQ.done (js := [0]) (ss := [.val (HDR go_18 0 (List.length b_17) gc_19)]) (go_18, gc_19) (.inl rfl) (.nil rfl) rfl (.cons (.tmp rfl) .nil) rfl rfl rfl
 · refine JC.seq ?_
   refine JC.region ?_
   refine jc (op_loadA (j := 0) lb tA26 (.tmp rfl) rfl (Comp.self (rV 16 (rU UInt64)) v_1) rfl) ?_
   refine jc (op_move lb .cI) ?_
   refine JL.nil ?_
   refine JQ.then ?_
   refine JC.block ?_
   refine JC.pre (Imp.nilown (rU UInt8)) ?_
   refine JC.pre ?_ (JC.loop (γ := Option Nat × Nat) (stf := fun s q => ⟨[(3, ov (HDR q.1 0 (List.length s.1) q.2)), (8, ov (A (rV 16 (rU UInt64)) v_1)), (9, ov (S (rI .i64) s.2))], [cown q.1 (rU UInt8) s.1 0 q.2], []⟩) (q := (none, 0)) hx1 ?_)
   · exact (Imp.norm (js := [1]) rfl (.cons rfl (.cons rfl (.cons rfl .nil))))
   · intro s q x hx hr
     obtain ⟨b_3, x_4⟩ := s
     obtain ⟨go_5, gc_6⟩ := q
     change wire_Vector.b1 k v_1 b_3 x_4 = some x at hx
     unfold wire_Vector.b1 at hx
     refine JC.at ⟨[(3, ov (HDR go_5 0 (List.length b_3) gc_6)), (8, ov (A (rV 16 (rU UInt64)) v_1)), (9, ov (S (rI .i64) x_4))], [cown go_5 (rU UInt8) b_3 0 gc_6], []⟩ ?_
     refine JC.seq ?_
     refine JC.region ?_
     replace hx := lt1_inv hx
     obtain ⟨v_7, hv_v_7, hx⟩ := hx
     refine jc (op_cmpI lb (.tmp rfl) .cI (congrArg some hv_v_7)) ?_
     refine JL.nil ?_
     refine JQ.then ?_
     refine JC.seq ?_
     replace hx := iteB_inv hx
     rcases hx with ⟨hc3, hx⟩ | ⟨hc3, hx⟩
     · refine JC.condT (.tmp rfl) hc3 ?_
       refine JC.skip ?_
       refine JQ.then ?_
       refine JC.seq ?_
       refine JC.block ?_
       refine JC.seq ?_
       refine JC.region ?_
       replace hx := bnd_inv hx
       obtain ⟨v_8, hv_v_8, hx⟩ := hx
       refine jc (op_indexSg lb tu26 tS22 rfl (.tmp rfl) (.tmp rfl) hv_v_8) ?_
       refine jc (op_assign lb (.tmp rfl)) ?_
       refine JL.nil ?_
       refine JQ.then ?_
       refine JC.seq ?_
       refine JC.region ?_
       refine jc (op_move lb (.tmp rfl)) ?_
       replace hx := bnd_inv hx
       obtain ⟨⟨v_9, v_10⟩, hv_v_9, hx⟩ := hx
       refine jx (op_call (js := []) ld cl57 (sim_wire_Put k v_8 (8 : Int) (v_9, v_10) hv_v_9) .func (.cons (.tmp rfl) (.cons .cI .nil)) rfl) (fun q => ?_)
       obtain ⟨go_11, gc_12⟩ := q
       refine jc (op_move lb (.tmp rfl)) ?_
       refine jc (op_extract (i := 0) lb (.tmp rfl) rfl) ?_
       refine jc (op_extract (i := 1) lb (.tmp rfl) rfl) ?_
       refine jc (op_assign lb (.tmp rfl)) ?_
       refine jc (op_assign lb (.tmp rfl)) ?_
       refine JL.sub ⟨[(3, ov (HDR go_5 0 (List.length b_3) gc_6)), (6, ov (HDR go_11 0 (List.length v_9) gc_12)), (8, ov (A (rV 16 (rU UInt64)) v_1)), (9, ov (S (rI .i64) x_4))], [cown go_11 (rU UInt8) v_9 0 gc_12, cown go_5 (rU UInt8) b_3 0 gc_6], []⟩ (.cons rfl (.cons rfl (.cons rfl (.cons rfl .nil)))) rfl rfl ?_
       refine JL.nil ?_
       refine JQ.then ?_
       refine JC.region ?_
       refine jc (op_move lb (.tmp rfl)) ?_
       refine jc (op_move lb (.tmp rfl)) ?_
       replace hx := bnd_inv hx
       obtain ⟨b_13, hv_b_13, hx⟩ := hx
       refine jx (op_appendO (j := 1) (j' := 0) lb tu35 tu35 rfl tB5 rfl (Nat.lt_of_lt_of_le Nat.zero_lt_one (Nat.le_of_ble_eq_true rfl)) (Nat.lt_of_lt_of_le Nat.zero_lt_one (Nat.le_of_ble_eq_true rfl))  rfl (.tmp rfl) rfl (.tmp rfl) hv_b_13) (fun q => ?_)
       obtain ⟨go_14, gc_15⟩ := q
       refine jc (op_assign lb (.tmp rfl)) ?_
       refine JL.nil ?_
       refine JQ.outNB ?_
       refine JQ.then ?_
       refine JC.region ?_
       replace hx := lt1_inv hx
       obtain ⟨v_16, hv_v_16, hx⟩ := hx
       refine jc (op_arI lb (.tmp rfl) .cI (congrArg some hv_v_16)) ?_
       refine jc (op_move lb (.tmp rfl)) ?_
       refine JL.nil ?_
       replace hx := Option.some.inj hx
       first | subst hx | clear hx
       exact JQ.next (go_14, gc_15) rfl (Imp.norm (js := [1]) rfl (.cons rfl (.cons rfl (.cons rfl .nil))))
     · refine JC.condF (.tmp rfl) hc3 ?_
       refine JC.exit ?_
       refine JQ.outX ?_
       replace hx := Option.some.inj hx
       first | subst hx | clear hx
       have ht := hr _ rfl
       have hq2 := congrArg some ht
       clear hr ht
       refine JQ.outX ?_
       refine JQ.here ?_
       replace hq2 := Option.some.inj hq2
       first | subst hq2 | clear hq2
       exact JQ.join (go_5, gc_6) (Imp.norm (js := [0]) rfl (.cons rfl .nil))

theorem sim_event_bytes (k : Nat) (t_1 : api_Event) (r : (List UInt8)) (hm : event_bytes k t_1 = some r) : Sim Try.prog 28 [A r_api_Event t_1] [] (γ := Option Nat × Nat) (fun q => [cown q.1 (rU UInt8) r 0 q.2]) (fun q => .one (.val (HDR q.1 0 (List.length r) q.2))) := by
 unfold event_bytes at hm
 refine Sim.of Try.func28 rfl rfl (Nat.le_of_ble_eq_true rfl) (fun e0 w0 => ?_)
 refine JC.at ⟨[(0, ov (A r_api_Event t_1))], [], []⟩ ?_
 refine JC.seq ?_
 refine JC.region ?_
 refine jx (op_boxA lb (.tmp rfl)) (fun q => ?_)
 obtain ⟨gb_2, hqq⟩ : ∃ z, z = q := ⟨_, rfl⟩
 subst hqq
 refine jc (op_assign lb HasO.nilH) ?_
 refine JL.nil ?_
 refine JQ.then ?_
 refine JC.seq ?_
 refine JC.region ?_
 refine jx (op_alloc lb tZ35 zr35) (fun q => ?_)
 obtain ⟨gb_3, hqq⟩ : ∃ z, z = q := ⟨_, rfl⟩
 subst hqq
 refine JL.nil ?_
 refine JQ.then ?_
 refine JC.seq ?_
 refine JC.region ?_
 refine jc (op_makeFunc lb (.cons (.tmp rfl) .nil)) ?_
 refine jc (op_assign lb (.tmp rfl)) ?_
 refine JL.nil ?_
 refine JQ.then ?_
 refine JC.seq ?_
 refine JC.region ?_
 refine jc (op_move lb (.tmp rfl)) ?_
 refine jc (op_fieldAddr (off := 0) lb tf38_0 (.tmp rfl)) ?_
 refine jc (op_loadA (j := 0) lb tA24 (.tmp rfl) rfl (Comp.trans (Comp.self r_api_Event t_1) (comp_api_Event_ID t_1) (Nat.le_of_ble_eq_true rfl)) rfl) ?_
 refine JL.sub ⟨[(1, ov (PTR gb_2 0)), (3, ov (PTR gb_3 0)), (4, ov (CLO 53 [PTR gb_3 0])), (8, ov (CLO 53 [PTR gb_3 0])), (10, ov (A r_api_Dot t_1.ID))], [cvar gb_2 r_api_Event t_1, cvar gb_3 (rW (HDR none 0 0 0)) ()], []⟩ (.cons rfl (.cons rfl (.cons rfl (.cons rfl (.cons rfl .nil))))) rfl rfl ?_
 replace hm := bnd_inv hm
 obtain ⟨⟨v_4, v_5⟩, hv_v_4, hm⟩ := hm
 refine jx (op_call (js := []) ld cl54 (sim_wire_Dot k t_1.ID (v_4, v_5) hv_v_4) .func (.cons (.tmp rfl) .nil) rfl) (fun q => ?_)
 obtain ⟨go_6, gc_7⟩ := q
 refine jc (op_extract (i := 0) lb (.tmp rfl) rfl) ?_
 refine jc (op_extract (i := 1) lb (.tmp rfl) rfl) ?_
 replace hm := bnd_inv hm
 obtain ⟨x_8, hv_x_8, hm⟩ := hm
 refine JL.pre (Imp.frz (j := 0) rfl (ImpK.tupAt (s := 11) (i := 0) (q := HL go_6 (rU UInt8) v_4 gc_7) rfl rfl ownHL (ImpK.slotH (s := 12) rfl ImpK.refl))) ?_
 refine jx (op_call (js := [2]) ld cl53 (sim_event_bytes_1 k v_4 v_5 gb_3 x_8 hv_x_8) (.tmp rfl) (.cons (HasO.wk (.tmp rfl) wkHL) (.cons (.tmp rfl) .nil)) rfl) (fun q => ?_)
 obtain ⟨go_9, gc_10⟩ := q
 refine JL.nrm ⟨[(1, ov (PTR gb_2 0)), (3, ov (PTR gb_3 0)), (4, ov (CLO 53 [PTR gb_3 0]))], [cvar gb_3 (rW (HDR go_9 0 (List.length x_8) gc_10)) (), cown go_9 (rU UInt8) x_8 0 gc_10, cvar gb_2 r_api_Event t_1], []⟩ [0, 0, 1] rfl (.cons rfl (.cons rfl (.cons rfl .nil))) rfl ?_
 refine JL.nil ?_
 refine JQ.then ?_
 refine JC.seq ?_
 refine JC.region ?_
 refine jc (op_move lb (.tmp rfl)) ?_
 refine jc (op_fieldAddr (off := 2) lb tf38_1 (.tmp rfl)) ?_
 refine jc (op_loadS (j := 2) lb tS9 (.tmp rfl) rfl (Comp.trans (Comp.self r_api_Event t_1) (comp_api_Event_Topic t_1) (Nat.le_of_ble_eq_true rfl)) rfl rfl) ?_
 refine jc (op_convSB lb tu9 tu35 tu5 (.tmp rfl)) ?_
 replace hm := bnd_inv hm
 obtain ⟨⟨v_11, v_12⟩, hv_v_11, hm⟩ := hm
 refine jx (op_call (js := []) ld cl55 (sim_wire_Blob k t_1.Topic (v_11, v_12) hv_v_11) .func (.cons (.tmp rfl) .nil) rfl) (fun q => ?_)
 obtain ⟨go_13, gc_14⟩ := q
 refine jc (op_extract (i := 0) lb (.tmp rfl) rfl) ?_
 refine jc (op_extract (i := 1) lb (.tmp rfl) rfl) ?_
 replace hm := bnd_inv hm
 obtain ⟨x_15, hv_x_15, hm⟩ := hm
 refine JL.pre (Imp.frz (j := 0) rfl (ImpK.tupAt (s := 19) (i := 0) (q := HL go_13 (rU UInt8) v_11 gc_14) rfl rfl ownHL (ImpK.slotH (s := 20) rfl ImpK.refl))) ?_
 refine jx (op_call (js := [1, 1]) ld cl53 (sim_event_bytes_1'2 k v_11 v_12 x_8 gb_3 go_9 gc_10 x_15 hv_x_15) (.tmp rfl) (.cons (HasO.wk (.tmp rfl) wkHL) (.cons (.tmp rfl) .nil)) rfl) (fun q => ?_)
 obtain ⟨go_16, gc_17⟩ := q
 refine JL.nrm ⟨[(1, ov (PTR gb_2 0)), (3, ov (PTR gb_3 0)), (4, ov (CLO 53 [PTR gb_3 0]))], [cvar gb_3 (rW (HDR go_16 0 (List.length x_15) gc_17)) (), cown go_16 (rU UInt8) x_15 0 gc_17, cvar gb_2 r_api_Event t_1], []⟩ [0, 0, 1] rfl (.cons rfl (.cons rfl (.cons rfl .nil))) rfl ?_
 refine JL.nil ?_
 refine JQ.then ?_
 refine JC.seq ?_
 refine JC.region ?_
 refine jc (op_move lb (.tmp rfl)) ?_
 refine jc (op_fieldAddr (off := 3) lb tf38_2 (.tmp rfl)) ?_
 refine jc (op_loadS (j := 2) lb tS35 (.tmp rfl) rfl (Comp.trans (Comp.self r_api_Event t_1) (comp_api_Event_Payload t_1) (Nat.le_of_ble_eq_true rfl)) rfl rfl) ?_
 replace hm := bnd_inv hm
 obtain ⟨⟨v_18, v_19⟩, hv_v_18, hm⟩ := hm
 refine jx (op_call (js := []) ld cl55 (sim_wire_Blob k t_1.Payload (v_18, v_19) hv_v_18) .func (.cons (.tmp rfl) .nil) rfl) (fun q => ?_)
 obtain ⟨go_20, gc_21⟩ := q
 refine jc (op_extract (i := 0) lb (.tmp rfl) rfl) ?_
 refine jc (op_extract (i := 1) lb (.tmp rfl) rfl) ?_
 replace hm := bnd_inv hm
 obtain ⟨x_22, hv_x_22, hm⟩ := hm
 refine JL.pre (Imp.frz (j := 0) rfl (ImpK.tupAt (s := 26) (i := 0) (q := HL go_20 (rU UInt8) v_18 gc_21) rfl rfl ownHL (ImpK.slotH (s := 27) rfl ImpK.refl))) ?_
 refine jx (op_call (js := [1, 1]) ld cl53 (sim_event_bytes_1'2 k v_18 v_19 x_15 gb_3 go_16 gc_17 x_22 hv_x_22) (.tmp rfl) (.cons (HasO.wk (.tmp rfl) wkHL) (.cons (.tmp rfl) .nil)) rfl) (fun q => ?_)
 obtain ⟨go_23, gc_24⟩ := q
 refine JL.nrm ⟨[(1, ov (PTR gb_2 0)), (3, ov (PTR gb_3 0)), (4, ov (CLO 53 [PTR gb_3 0]))], [cvar gb_3 (rW (HDR go_23 0 (List.length x_22) gc_24)) (), cown go_23 (rU UInt8) x_22 0 gc_24, cvar gb_2 r_api_Event t_1], []⟩ [0, 0, 1] rfl (.cons rfl (.cons rfl (.cons rfl .nil))) rfl ?_
 refine JL.nil ?_
 refine JQ.then ?_
 refine JC.seq ?_
 refine JC.region ?_
 refine jc (op_move lb (.tmp rfl)) ?_
 refine jc (op_fieldAddr (off := 4) lb tf38_3 (.tmp rfl)) ?_
 refine jc (op_loadA (j := 2) lb tA26 (.tmp rfl) rfl (Comp.trans (Comp.self r_api_Event t_1) (comp_api_Event_Past t_1) (Nat.le_of_ble_eq_true rfl)) rfl) ?_
 replace hm := bnd_inv hm
 obtain ⟨v_25, hv_v_25, hm⟩ := hm
 refine jx (op_call (js := []) ld cl56 (sim_wire_Vector k t_1.Past v_25 hv_v_25) .func (.cons (.tmp rfl) .nil) rfl) (fun q => ?_)
 obtain ⟨go_26, gc_27⟩ := q
 replace hm := bnd_inv hm
 obtain ⟨x_28, hv_x_28, hm⟩ := hm
 refine JL.pre (Imp.frz (j := 0) rfl (ImpK.slotH (s := 33) rfl ImpK.refl)) ?_
 refine jx (op_call (js := [1, 1]) ld cl53 (sim_event_bytes_1'2 k v_25 (0 : Int) x_22 gb_3 go_23 gc_24 x_28 hv_x_28) (.tmp rfl) (.cons (HasO.wk (.tmp rfl) wkHL) (.cons .cI .nil)) rfl) (fun q => ?_)
 obtain ⟨go_29, gc_30⟩ := q
 refine JL.nrm ⟨[(1, ov (PTR gb_2 0)), (3, ov (PTR gb_3 0)), (4, ov (CLO 53 [PTR gb_3 0]))], [cvar gb_3 (rW (HDR go_29 0 (List.length x_28) gc_30)) (), cown go_29 (rU UInt8) x_28 0 gc_30, cvar gb_2 r_api_Event t_1], []⟩ [0, 0, 1] rfl (.cons rfl (.cons rfl (.cons rfl .nil))) rfl ?_
 refine JL.nil ?_
 refine JQ.then ?_
 refine JC.seq ?_
 refine JC.region ?_
 refine jc (op_move lb (.tmp rfl)) ?_
 refine jc (op_fieldAddr (off := 20) lb tf38_4 (.tmp rfl)) ?_
 refine jc (op_loadS (j := 2) lb tS36 (.tmp rfl) rfl (Comp.trans (Comp.self r_api_Event t_1) (comp_api_Event_To t_1) (Nat.le_of_ble_eq_true rfl)) rfl rfl) ?_
 refine jc (op_lenL lb tu36 (.tmp rfl)) ?_
 replace hm := lt1_inv hm
 obtain ⟨v_31, hv_v_31, hm⟩ := hm
 refine jc (op_convIU lb tu3 tu22 (.tmp rfl) hv_v_31) ?_
 replace hm := bnd_inv hm
 obtain ⟨⟨v_32, v_33⟩, hv_v_32, hm⟩ := hm
 refine jx (op_call (js := []) ld cl57 (sim_wire_Put k v_31 (2 : Int) (v_32, v_33) hv_v_32) .func (.cons (.tmp rfl) (.cons .cI .nil)) rfl) (fun q => ?_)
 obtain ⟨go_34, gc_35⟩ := q
 refine jc (op_extract (i := 0) lb (.tmp rfl) rfl) ?_
 refine jc (op_extract (i := 1) lb (.tmp rfl) rfl) ?_
 replace hm := bnd_inv hm
 obtain ⟨x_36, hv_x_36, hm⟩ := hm
 refine JL.pre (Imp.frz (j := 0) rfl (ImpK.tupAt (s := 40) (i := 0) (q := HL go_34 (rU UInt8) v_32 gc_35) rfl rfl ownHL (ImpK.slotH (s := 41) rfl ImpK.refl))) ?_
 refine jx (op_call (js := [1, 1]) ld cl53 (sim_event_bytes_1'2 k v_32 v_33 x_28 gb_3 go_29 gc_30 x_36 hv_x_36) (.tmp rfl) (.cons (HasO.wk (.tmp rfl) wkHL) (.cons (.tmp rfl) .nil)) rfl) (fun q => ?_)
 obtain ⟨go_37, gc_38⟩ := q
 refine JL.nrm ⟨[(1, ov (PTR gb_2 0)), (3, ov (PTR gb_3 0)), (4, ov (CLO 53 [PTR gb_3 0]))], [cvar gb_3 (rW (HDR go_37 0 (List.length x_36) gc_38)) (), cown go_37 (rU UInt8) x_36 0 gc_38, cvar gb_2 r_api_Event t_1], []⟩ [0, 0, 1] rfl (.cons rfl (.cons rfl (.cons rfl .nil))) rfl ?_
 refine JL.nil ?_
 refine JQ.then ?_
 replace hm := bnd_inv hm
 obtain ⟨x_61, hx1, hq1⟩ := hm
 refine JC.seqJ (γ := Option Nat × Nat) (stj := fun q => ⟨[(3, ov (PTR gb_3 0))], [cvar gb_3 (rW (HDR q.1 0 (List.length x_61) q.2)) (), cown q.1 (rU UInt8) x_61 0 q.2], []⟩) (fun q => ?_) ?_
 · obtain ⟨go_62, gc_63⟩ := q
   refine JC.at ⟨[(3, ov (PTR gb_3 0))], [cvar gb_3 (rW (HDR go_62 0 (List.length x_61) gc_63)) (), cown go_62 (rU UInt8) x_61 0 gc_63], []⟩ ?_
   refine JC.seq ?_
   refine JC.region ?_
   refine jc (op_loadW (j := 0) lb tS35 (.tmp rfl) rfl (Comp.self (rW (HDR go_62 0 (List.length x_61) gc_63)) ())) ?_
   refine jc (op_assign lb (.tmp rfl)) ?_
   refine JL.nil ?_
   refine JQ.then ?_
   refine JC.ret ?_
   replace hq1 := Option.some.inj hq1
   subst hq1
   exact JQ.done (js := [1]) (ss := [.val (HDR go_62 0 (List.length x_61) gc_63)]) (go_62, gc_63) (.inl rfl) (.nil rfl) rfl (.cons (.tmp rfl) .nil) rfl rfl rfl
 · refine JC.seq ?_
   refine JC.region ?_
   refine jc (op_fieldAddr (off := 20) lb tf38_4 (.tmp rfl)) ?_
   refine jc (op_loadS (j := 2) lb tS36 (.tmp rfl) rfl (Comp.trans (Comp.self r_api_Event t_1) (comp_api_Event_To t_1) (Nat.le_of_ble_eq_true rfl)) rfl rfl) ?_
   refine jc (op_lenL lb tu36 (.tmp rfl)) ?_
   refine jc (op_move lb .cI) ?_
   refine JL.nil ?_
   refine JQ.then ?_
   refine JC.block ?_
   refine JC.pre ?_ (JC.loop (γ := Option Nat × Nat) (stf := fun s q => ⟨[(3, ov (PTR gb_3 0)), (4, ov (CLO 53 [PTR gb_3 0])), (45, ov (S (rL r_api_Dest) t_1.To)), (46, ov (S (rI .i64) (List.length t_1.To : Int))), (47, ov (S (rI .i64) s.2))], [cvar gb_3 (rW (HDR q.1 0 (List.length s.1) q.2)) (), cown q.1 (rU UInt8) s.1 0 q.2], []⟩) (q := (go_37, gc_38)) hx1 ?_)
   · exact (Imp.norm (js := [0, 0]) rfl (.cons rfl (.cons rfl (.cons rfl (.cons rfl (.cons rfl .nil))))))
   · intro s q x hx hr
     obtain ⟨x_39, x_40⟩ := s
     obtain ⟨go_41, gc_42⟩ := q
     change event_bytes.b1 k t_1 x_39 x_40 = some x at hx
     unfold event_bytes.b1 at hx
     refine JC.at ⟨[(3, ov (PTR gb_3 0)), (4, ov (CLO 53 [PTR gb_3 0])), (45, ov (S (rL r_api_Dest) t_1.To)), (46, ov (S (rI .i64) (List.length t_1.To : Int))), (47, ov (S (rI .i64) x_40))], [cvar gb_3 (rW (HDR go_41 0 (List.length x_39) gc_42)) (), cown go_41 (rU UInt8) x_39 0 gc_42], []⟩ ?_
     refine JC.seq ?_
     refine JC.region ?_
     replace hx := lt1_inv hx
     obtain ⟨v_43, hv_v_43, hx⟩ := hx
     refine jc (op_cmpI lb (.tmp rfl) (.tmp rfl) (congrArg some hv_v_43)) ?_
     refine JL.nil ?_
     refine JQ.then ?_
     refine JC.seq ?_
     replace hx := iteB_inv hx
     rcases hx with ⟨hc3, hx⟩ | ⟨hc3, hx⟩
     · refine JC.condT (.tmp rfl) hc3 ?_
       refine JC.skip ?_
       refine JQ.then ?_
       refine JC.seq ?_
       refine JC.block ?_
       refine JC.seq ?_
       refine JC.region ?_
       replace hx := bnd_inv hx
       obtain ⟨v_44, hv_v_44, hx⟩ := hx
       refine jc (op_indexAddrLg lb tu36 tz59 (.tmp rfl) (.tmp rfl) hv_v_44) ?_
       refine jc (op_loadPAg lb tA59 (.tmp rfl) rfl) ?_
       refine jx (op_alloc lb tZ59 zr59) (fun q => ?_)
       obtain ⟨gb_45, hqq⟩ : ∃ z, z = q := ⟨_, rfl⟩
       subst hqq
       refine jc (op_storeA (j := 2) tA59 (.tmp rfl) (.tmp rfl) rfl (UpdR.self (by rfl)) rfl) ?_
       refine JL.nil ?_
       refine JQ.then ?_
       refine JC.seq ?_
       refine JC.region ?_
       refine jc (op_move lb (.tmp rfl)) ?_
       refine jc (op_fieldAddr (off := 0) lb tf59_0 (.tmp rfl)) ?_
       refine jc (op_loadA (j := 2) lb tA24 (.tmp rfl) rfl (Comp.trans (Comp.self r_api_Dest v_44) (comp_api_Dest_Dot v_44) (Nat.le_of_ble_eq_true rfl)) rfl) ?_
       refine JL.sub ⟨[(3, ov (PTR gb_3 0)), (4, ov (CLO 53 [PTR gb_3 0])), (6, ov (PTR gb_45 0)), (45, ov (S (rL r_api_Dest) t_1.To)), (46, ov (S (rI .i64) (List.length t_1.To : Int))), (47, ov (S (rI .i64) x_40)), (51, ov (CLO 53 [PTR gb_3 0])), (53, ov (A r_api_Dot v_44.Dot))], [cvar gb_3 (rW (HDR go_41 0 (List.length x_39) gc_42)) (), cown go_41 (rU UInt8) x_39 0 gc_42, cvar gb_45 r_api_Dest v_44], []⟩ (.cons rfl (.cons rfl (.cons rfl (.cons rfl (.cons rfl (.cons rfl (.cons rfl (.cons rfl .nil)))))))) rfl rfl ?_
       replace hx := bnd_inv hx
       obtain ⟨⟨v_46, v_47⟩, hv_v_46, hx⟩ := hx
       refine jx (op_call (js := []) ld cl54 (sim_wire_Dot k v_44.Dot (v_46, v_47) hv_v_46) .func (.cons (.tmp rfl) .nil) rfl) (fun q => ?_)
       obtain ⟨go_48, gc_49⟩ := q
       refine jc (op_extract (i := 0) lb (.tmp rfl) rfl) ?_
       refine jc (op_extract (i := 1) lb (.tmp rfl) rfl) ?_
       replace hx := bnd_inv hx
       obtain ⟨x_50, hv_x_50, hx⟩ := hx
       refine JL.pre (Imp.frz (j := 0) rfl (ImpK.tupAt (s := 54) (i := 0) (q := HL go_48 (rU UInt8) v_46 gc_49) rfl rfl ownHL (ImpK.slotH (s := 55) rfl ImpK.refl))) ?_
       refine jx (op_call (js := [1, 1]) ld cl53 (sim_event_bytes_1'2 k v_46 v_47 x_39 gb_3 go_41 gc_42 x_50 hv_x_50) (.tmp rfl) (.cons (HasO.wk (.tmp rfl) wkHL) (.cons (.tmp rfl) .nil)) rfl) (fun q => ?_)
       obtain ⟨go_51, gc_52⟩ := q
       refine JL.nrm ⟨[(3, ov (PTR gb_3 0)), (4, ov (CLO 53 [PTR gb_3 0])), (6, ov (PTR gb_45 0)), (45, ov (S (rL r_api_Dest) t_1.To)), (46, ov (S (rI .i64) (List.length t_1.To : Int))), (47, ov (S (rI .i64) x_40))], [cvar gb_3 (rW (HDR go_51 0 (List.length x_50) gc_52)) (), cown go_51 (rU UInt8) x_50 0 gc_52, cvar gb_45 r_api_Dest v_44], []⟩ [0, 0, 1] rfl (.cons rfl (.cons rfl (.cons rfl (.cons rfl (.cons rfl (.cons rfl .nil)))))) rfl ?_
       refine JL.nil ?_
       refine JQ.then ?_
       refine JC.region ?_
       refine jc (op_move lb (.tmp rfl)) ?_
       refine jc (op_fieldAddr (off := 2) lb tf59_1 (.tmp rfl)) ?_
       refine jc (op_loadS (j := 2) lb tS9 (.tmp rfl) rfl (Comp.trans (Comp.self r_api_Dest v_44) (comp_api_Dest_Device v_44) (Nat.le_of_ble_eq_true rfl)) rfl rfl) ?_
       refine jc (op_convSB lb tu9 tu35 tu5 (.tmp rfl)) ?_
       replace hx := bnd_inv hx
       obtain ⟨⟨v_53, v_54⟩, hv_v_53, hx⟩ := hx
       refine jx (op_call (js := []) ld cl55 (sim_wire_Blob k v_44.Device (v_53, v_54) hv_v_53) .func (.cons (.tmp rfl) .nil) rfl) (fun q => ?_)
       obtain ⟨go_55, gc_56⟩ := q
       refine jc (op_extract (i := 0) lb (.tmp rfl) rfl) ?_
       refine jc (op_extract (i := 1) lb (.tmp rfl) rfl) ?_
       replace hx := bnd_inv hx
       obtain ⟨x_57, hv_x_57, hx⟩ := hx
       refine JL.pre (Imp.frz (j := 0) rfl (ImpK.tupAt (s := 62) (i := 0) (q := HL go_55 (rU UInt8) v_53 gc_56) rfl rfl ownHL (ImpK.slotH (s := 63) rfl ImpK.refl))) ?_
       refine jx (op_call (js := [1, 1]) ld cl53 (sim_event_bytes_1'2 k v_53 v_54 x_50 gb_3 go_51 gc_52 x_57 hv_x_57) (.tmp rfl) (.cons (HasO.wk (.tmp rfl) wkHL) (.cons (.tmp rfl) .nil)) rfl) (fun q => ?_)
       obtain ⟨go_58, gc_59⟩ := q
       refine JL.nrm ⟨[(3, ov (PTR gb_3 0)), (4, ov (CLO 53 [PTR gb_3 0])), (45, ov (S (rL r_api_Dest) t_1.To)), (46, ov (S (rI .i64) (List.length t_1.To : Int))), (47, ov (S (rI .i64) x_40))], [cvar gb_3 (rW (HDR go_58 0 (List.length x_57) gc_59)) (), cown go_58 (rU UInt8) x_57 0 gc_59], []⟩ [0, 0] rfl (.cons rfl (.cons rfl (.cons rfl (.cons rfl (.cons rfl .nil))))) rfl ?_
       refine JL.nil ?_
       refine JQ.outNB ?_
       refine JQ.then ?_
       refine JC.region ?_
       replace hx := lt1_inv hx
       obtain ⟨v_60, hv_v_60, hx⟩ := hx
       refine jc (op_arI lb (.tmp rfl) .cI (congrArg some hv_v_60)) ?_
       refine jc (op_move lb (.tmp rfl)) ?_
       refine JL.nil ?_
       replace hx := Option.some.inj hx
       first | subst hx | clear hx
       exact JQ.next (go_58, gc_59) rfl (Imp.norm (js := [0, 0]) rfl (.cons rfl (.cons rfl (.cons rfl (.cons rfl (.cons rfl .nil))))))
     · refine JC.condF (.tmp rfl) hc3 ?_
       refine JC.exit ?_
       refine JQ.outX ?_
       replace hx := Option.some.inj hx
       first | subst hx | clear hx
       have ht := hr _ rfl
       have hq2 := congrArg some ht
       clear hr ht
       refine JQ.outX ?_
       refine JQ.here ?_
       replace hq2 := Option.some.inj hq2
       first | subst hq2 | clear hq2
       exact JQ.join (go_41, gc_42) (Imp.norm (js := [0, 0]) rfl (.cons rfl .nil))

theorem sim_event_Bytes (k : Nat) (e_1 : api_Event) (r : (List UInt8) × Int) (hm : event_Bytes k e_1 = some r) : Sim Try.prog 16 [A r_api_Event e_1] [] (γ := Option Nat × Nat) (fun q => [cown q.1 (rU UInt8) r.1 0 q.2]) (fun q => .tup [.val (HDR q.1 0 (List.length r.1) q.2), .val (S (rI .i64) r.2)]) := by
 unfold event_Bytes at hm
 refine Sim.of Try.func16 rfl rfl (Nat.le_of_ble_eq_true rfl) (fun e0 w0 => ?_)
 refine JC.at ⟨[(0, ov (A r_api_Event e_1))], [], []⟩ ?_
 refine JC.seq ?_
 refine JC.region ?_
 refine jx (op_boxA lb (.tmp rfl)) (fun q => ?_)
 obtain ⟨gb_2, hqq⟩ : ∃ z, z = q := ⟨_, rfl⟩
 subst hqq
 refine jc (op_assign lb HasO.nilH) ?_
 refine jc (op_assign lb .cI) ?_
 refine JL.nil ?_
 refine JQ.then ?_
 refine JC.seq ?_
 refine JC.seq ?_
 refine JC.region ?_
 refine jc (op_loadA (j := 0) lb tA38 (.tmp rfl) rfl (Comp.self r_api_Event e_1) rfl) ?_
 replace hm := bnd_inv hm
 obtain ⟨v_3, hv_v_3, hm⟩ := hm
 refine jx (op_call (js := []) ld cl17 (sim_event_May k e_1 v_3 hv_v_3) .func (.cons (.tmp rfl) .nil) rfl) (fun _ => ?_)
 replace hm := lt1_inv hm
 obtain ⟨v_4, hv_v_4, hm⟩ := hm
 refine jc (op_not lb (.tmp rfl) hv_v_4) ?_
 refine JL.nil ?_
 refine JQ.then ?_
 replace hm := iteB_inv hm
 rcases hm with ⟨hc1, hm⟩ | ⟨hc1, hm⟩
 · refine JC.condT (.tmp rfl) hc1 ?_
   refine JC.seq ?_
   refine JC.region ?_
   refine jc (op_assign lb HasO.nilH) ?_
   refine jc (op_assign lb .cI) ?_
   refine JL.nil ?_
   refine JQ.then ?_
   refine JC.ret ?_
   refine JQ.outR ?_
   replace hm := Option.some.inj hm
   subst hm
   refine JQ.pre (Imp.nilown (rU UInt8)) ?_
   exact JQ.done (js := [1]) (ss := [.val (HDR none 0 (List.length ([] : (List UInt8))) (0)), .val (S (rI .i64) (2 : Int))]) (none, 0) (.inl rfl) (.nil rfl) rfl (.cons (.tmp rfl) (.cons (.tmp rfl) .nil)) rfl rfl rfl
 · refine JC.condF (.tmp rfl) hc1 ?_
   refine JC.skip ?_
   refine JQ.then ?_
   refine JC.seq ?_
   refine JC.region ?_
   refine jc (op_loadA (j := 0) lb tA38 (.tmp rfl) rfl (Comp.self r_api_Event e_1) rfl) ?_
   replace hm := bnd_inv hm
   obtain ⟨v_5, hv_v_5, hm⟩ := hm
   refine jx (op_call (js := []) ld cl28 (sim_event_bytes k e_1 v_5 hv_v_5) .func (.cons (.tmp rfl) .nil) rfl) (fun q => ?_)
   obtain ⟨go_6, gc_7⟩ := q
   refine JL.nrm ⟨[(2, ov (HDR none 0 0 0)), (3, ov (S (rI .i64) (0 : Int))), (8, ov (HDR go_6 0 (List.length v_5) gc_7))], [cown go_6 (rU UInt8) v_5 0 gc_7], []⟩ [0] rfl (.cons rfl (.cons rfl (.cons rfl .nil))) rfl ?_
   refine jc (op_assign lb (.tmp rfl)) ?_
   refine jc (op_assign lb .cI) ?_
   refine JL.nil ?_
   refine JQ.then ?_
   refine JC.ret ?_
   replace hm := Option.some.inj hm
   subst hm
   exact JQ.done (js := [0]) (ss := [.val (HDR go_6 0 (List.length v_5) gc_7), .val (S (rI .i64) (0 : Int))]) (go_6, gc_7) (.inl rfl) (.nil rfl) rfl (.cons (.tmp rfl) (.cons (.tmp rfl) .nil)) rfl rfl rfl

theorem sim_ref09_MayDot (k : Nat) (d_1 : api_Dot) (r : Bool) (hm : ref09_MayDot k d_1 = some r) : Sim Try.prog 31 [A r_api_Dot d_1] [] (γ := Unit) (fun q => []) (fun q => .one (.val (S rB r))) := by
 unfold ref09_MayDot at hm
 refine Sim.of Try.func31 rfl rfl (Nat.le_of_ble_eq_true rfl) (fun e0 w0 => ?_)
 refine JC.at ⟨[(0, ov (A r_api_Dot d_1))], [], []⟩ ?_
 refine JC.seq ?_
 refine JC.region ?_
 refine jx (op_boxA lb (.tmp rfl)) (fun q => ?_)
 obtain ⟨gb_2, hqq⟩ : ∃ z, z = q := ⟨_, rfl⟩
 subst hqq
 refine jc (op_assign lb .cB) ?_
 refine JL.nil ?_
 refine JQ.then ?_
 replace hm := bnd_inv hm
 obtain ⟨x_7, hx1, hq1⟩ := hm
 refine JC.seqJ (γ := Unit) (stj := fun q => ⟨[(2, ov (S rB x_7))], [], []⟩) (fun q => ?_) ?_
 · obtain _ := q
   refine JC.at ⟨[(2, ov (S rB x_7))], [], []⟩ ?_
   refine JC.ret ?_
   replace hq1 := Option.some.inj hq1
   subst hq1
   exact JQ.done (js := []) (ss := [.val (S rB x_7)]) () (.inl rfl) (.nil rfl) rfl (.cons (.tmp rfl) .nil) rfl rfl rfl
 · refine JC.region ?_
   refine jc (op_fieldAddr (off := 0) lb tf24_0 (.tmp rfl)) ?_
   refine jc (op_loadS (j := 0) lb tS3 (.tmp rfl) rfl (Comp.trans (Comp.self r_api_Dot d_1) (comp_api_Dot_Region d_1) (Nat.le_of_ble_eq_true rfl)) rfl rfl) ?_
   replace hx1 := lt1_inv hx1
   obtain ⟨v_3, hv_v_3, hx1⟩ := hx1
   refine jc (op_cmpI lb (.tmp rfl) .cI (congrArg some hv_v_3)) ?_
   refine jc (op_move lb (.tmp rfl)) ?_
   replace hx1 := iteB_inv hx1
   rcases hx1 with ⟨hc3, hx1⟩ | ⟨hc3, hx1⟩
   · refine JL.run (.yes rfl (ltB rfl) rfl hc3) (op_fieldAddr (off := 0) lb tf24_0 (.tmp rfl)) ?_
     refine JL.run (.yes rfl (ltB rfl) rfl hc3) (op_loadS (j := 0) lb tS3 (.tmp rfl) rfl (Comp.trans (Comp.self r_api_Dot d_1) (comp_api_Dot_Region d_1) (Nat.le_of_ble_eq_true rfl)) rfl rfl) ?_
     replace hx1 := lt1_inv hx1
     obtain ⟨v_4, hv_v_4, hx1⟩ := hx1
     refine JL.run (.yes rfl (ltB rfl) rfl hc3) (op_cmpI lb (.tmp rfl) .cI (congrArg some hv_v_4)) ?_
     refine jc (op_pickT lb (.tmp rfl) hc3 (.tmp rfl)) ?_
     refine JL.sub ⟨[(1, ov (PTR gb_2 0)), (2, ov (S rB false)), (10, ov (S rB v_4))], [cvar gb_2 r_api_Dot d_1], []⟩ (.cons rfl (.cons rfl (.cons rfl .nil))) rfl rfl ?_
     refine jc (op_move lb (.tmp rfl)) ?_
     replace hx1 := iteB_inv hx1
     rcases hx1 with ⟨hc5, hx1⟩ | ⟨hc5, hx1⟩
     · refine JL.run (.yes rfl (ltB rfl) rfl hc5) (op_fieldAddr (off := 1) lb tf24_1 (.tmp rfl)) ?_
       refine JL.run (.yes rfl (ltB rfl) rfl hc5) (op_loadS (j := 0) lb tS22 (.tmp rfl) rfl (Comp.trans (Comp.self r_api_Dot d_1) (comp_api_Dot_Count d_1) (Nat.le_of_ble_eq_true rfl)) rfl rfl) ?_
       replace hx1 := lt1_inv hx1
       obtain ⟨v_5, hv_v_5, hx1⟩ := hx1
       refine JL.run (.yes rfl (ltB rfl) rfl hc5) (op_cmpU lb (.tmp rfl) (HasO.cU (x := (1 : UInt64)) rfl (by decide)) (congrArg some hv_v_5)) ?_
       refine jc (op_pickT lb (.tmp rfl) hc5 (.tmp rfl)) ?_
       refine jc (op_move lb (.tmp rfl)) ?_
       replace hx1 := iteB_inv hx1
       rcases hx1 with ⟨hc7, hx1⟩ | ⟨hc7, hx1⟩
       · refine JL.run (.yes rfl (ltB rfl) rfl hc7) (op_fieldAddr (off := 1) lb tf24_1 (.tmp rfl)) ?_
         refine JL.run (.yes rfl (ltB rfl) rfl hc7) (op_loadS (j := 0) lb tS22 (.tmp rfl) rfl (Comp.trans (Comp.self r_api_Dot d_1) (comp_api_Dot_Count d_1) (Nat.le_of_ble_eq_true rfl)) rfl rfl) ?_
         replace hx1 := lt1_inv hx1
         obtain ⟨v_6, hv_v_6, hx1⟩ := hx1
         refine JL.run (.yes rfl (ltB rfl) rfl hc7) (op_cmpU lb (.tmp rfl) (HasO.cU (x := (4611686018427387904 : UInt64)) rfl (by decide)) (congrArg some hv_v_6)) ?_
         refine jc (op_pickT lb (.tmp rfl) hc7 (.tmp rfl)) ?_
         refine jc (op_assign lb (.tmp rfl)) ?_
         refine JL.nil ?_
         replace hx1 := Option.some.inj hx1
         first | subst hx1 | clear hx1
         exact JQ.join () (Imp.norm (js := []) rfl (.cons rfl .nil))
       · refine JL.skip (.no rfl (ltB rfl) rfl hc7) (fun d h => by cases h; exact ltB rfl) ?_
         refine JL.skip (.no rfl (ltB rfl) rfl hc7) (fun d h => by cases h; exact ltB rfl) ?_
         refine JL.skip (.no rfl (ltB rfl) rfl hc7) (fun d h => by cases h; exact ltB rfl) ?_
         refine jc (op_pickF lb (.tmp rfl) hc7 .cB) ?_
         refine jc (op_assign lb (.tmp rfl)) ?_
         refine JL.nil ?_
         replace hx1 := Option.some.inj hx1
         first | subst hx1 | clear hx1
         exact JQ.join () (Imp.norm (js := []) rfl (.cons rfl .nil))
     · refine JL.skip (.no rfl (ltB rfl) rfl hc5) (fun d h => by cases h; exact ltB rfl) ?_
       refine JL.skip (.no rfl (ltB rfl) rfl hc5) (fun d h => by cases h; exact ltB rfl) ?_
       refine JL.skip (.no rfl (ltB rfl) rfl hc5) (fun d h => by cases h; exact ltB rfl) ?_
       refine jc (op_pickF lb (.tmp rfl) hc5 .cB) ?_
       refine jc (op_move lb (.tmp rfl)) ?_
       refine JL.skip (.no rfl (ltB rfl) rfl rfl) (fun d h => by cases h; exact ltB rfl) ?_
       refine JL.skip (.no rfl (ltB rfl) rfl rfl) (fun d h => by cases h; exact ltB rfl) ?_
       refine JL.skip (.no rfl (ltB rfl) rfl rfl) (fun d h => by cases h; exact ltB rfl) ?_
       refine jc (op_pickF lb (.tmp rfl) rfl .cB) ?_
       refine jc (op_assign lb (.tmp rfl)) ?_
       refine JL.nil ?_
       replace hx1 := Option.some.inj hx1
       first | subst hx1 | clear hx1
       exact JQ.join () (Imp.norm (js := []) rfl (.cons rfl .nil))
   · refine JL.skip (.no rfl (ltB rfl) rfl hc3) (fun d h => by cases h; exact ltB rfl) ?_
     refine JL.skip (.no rfl (ltB rfl) rfl hc3) (fun d h => by cases h; exact ltB rfl) ?_
     refine JL.skip (.no rfl (ltB rfl) rfl hc3) (fun d h => by cases h; exact ltB rfl) ?_
     refine jc (op_pickF lb (.tmp rfl) hc3 .cB) ?_
     refine jc (op_move lb (.tmp rfl)) ?_
     refine JL.skip (.no rfl (ltB rfl) rfl rfl) (fun d h => by cases h; exact ltB rfl) ?_
     refine JL.skip (.no rfl (ltB rfl) rfl rfl) (fun d h => by cases h; exact ltB rfl) ?_
     refine JL.skip (.no rfl (ltB rfl) rfl rfl) (fun d h => by cases h; exact ltB rfl) ?_
     refine jc (op_pickF lb (.tmp rfl) rfl .cB) ?_
     refine jc (op_move lb (.tmp rfl)) ?_
     refine JL.sub ⟨[(1, ov (PTR gb_2 0)), (2, ov (S rB false)), (16, ov (S rB false))], [cvar gb_2 r_api_Dot d_1], []⟩ (.cons rfl (.cons rfl (.cons rfl .nil))) rfl rfl ?_
     refine JL.skip (.no rfl (ltB rfl) rfl rfl) (fun d h => by cases h; exact ltB rfl) ?_
     refine JL.skip (.no rfl (ltB rfl) rfl rfl) (fun d h => by cases h; exact ltB rfl) ?_
     refine JL.skip (.no rfl (ltB rfl) rfl rfl) (fun d h => by cases h; exact ltB rfl) ?_
     refine jc (op_pickF lb (.tmp rfl) rfl .cB) ?_
     refine jc (op_assign lb (.tmp rfl)) ?_
     refine JL.nil ?_
     replace hx1 := Option.some.inj hx1
     first | subst hx1 | clear hx1
     exact JQ.join () (Imp.norm (js := []) rfl (.cons rfl .nil))

end Go.Proofs.Ythoggbomakolkaa
