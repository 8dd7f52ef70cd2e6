/- Walks. -/
import Derived.Test.YtklnihlchhhhlaaT
import Derived.Test.YtklnihlchhhhlaaW3
import Derived.Test.YtklnihlchhhhlaaW8
namespace Go.Proofs.Ytklnihlchhhhlaa
open Go Fw
set_option linter.unusedVariables false
set_option maxRecDepth 100000
set_option maxHeartbeats 4000000

theorem sim_event_bytes (k : Nat) (t_1 : api_Event) (r : (List UInt8)) (hm : event_bytes k t_1 = some r) : Sim Try.prog 95 [A r_api_Event t_1] [] (γ := Option Nat × Nat) (fun q => [cown q.1 (rU UInt8) r 0 q.2]) (fun q => .one (.val (HDR q.1 0 (List.length r) q.2))) := by
 unfold event_bytes at hm
 refine Sim.of Try.func95 rfl rfl (lE rfl) (fun e0 w0 => ?_)
 refine JC.at ⟨[(0, ov (A r_api_Event t_1))], [], []⟩ ?_
 refine jr ?_
 refine jx (op_boxA lb (.tmp rfl)) (fun q => ?_)
 obtain ⟨gb_2, hqq⟩ : ∃ z, z = q := ⟨_, rfl⟩
 subst hqq
 refine jc (op_assign lb HasO.nilH) <| jn <| jr ?_
 refine jx (op_alloc lb tZ25 zr25) (fun q => ?_)
 obtain ⟨gb_3, hqq⟩ : ∃ z, z = q := ⟨_, rfl⟩
 subst hqq
 refine jn <| jr <| jc (op_makeFunc lb (.cons (.tmp rfl) .nil)) <| jc (op_assign lb (.tmp rfl)) <| jn ?_
 refine jr <| jmv rfl rfl <| jc (op_fieldAddr (off := 0) lb tf43_0 (.tmp rfl)) <| jc (op_loadA (j := 0) lb tA29 (.tmp rfl) rfl (cT (comp_api_Event_ID t_1) rfl) rfl) ?_
 refine JL.sub ⟨[(1, ov (PTR gb_2 0)), (3, ov (PTR gb_3 0)), (4, ov (CLO 101 [PTR gb_3 0])), (8, ov (CLO 101 [PTR gb_3 0])), (10, ov (A r_api_Dot t_1.ID))], [cvar gb_2 r_api_Event t_1, cvar gb_3 (rW (HDR none 0 0 0)) ()], []⟩ (.cons rfl (.cons rfl (.cons rfl (.cons rfl (.cons rfl .nil))))) rfl rfl ?_
 replace hm := bnd_inv hm
 obtain ⟨⟨v_4, v_5⟩, hv_v_4, hm⟩ := hm
 refine jx (op_call (js := []) ld cl35 (sim_wire_Dot k t_1.ID (v_4, v_5) hv_v_4) .func (.cons (.tmp rfl) .nil) rfl) (fun q => ?_)
 obtain ⟨go_6, gc_7⟩ := q
 refine jc (op_extract (i := 0) lb (.tmp rfl) rfl) <| jc (op_extract (i := 1) lb (.tmp rfl) rfl) ?_
 replace hm := bnd_inv hm
 obtain ⟨x_8, hv_x_8, hm⟩ := hm
 refine JL.pre (Imp.frz (j := 0) rfl (ImpK.tupAt (s := 11) (i := 0) (q := HL go_6 (rU UInt8) v_4 gc_7) rfl rfl ownHL (ImpK.slotH (s := 12) rfl ImpK.refl))) ?_
 refine jx (op_call (js := [2]) ld cl101 (sim_event_bytes_1 k v_4 v_5 gb_3 x_8 hv_x_8) (.tmp rfl) (.cons (HasO.wk (.tmp rfl) wkHL) (.cons (.tmp rfl) .nil)) rfl) (fun q => ?_)
 obtain ⟨go_9, gc_10⟩ := q
 refine JL.nrm ⟨[(1, ov (PTR gb_2 0)), (3, ov (PTR gb_3 0)), (4, ov (CLO 101 [PTR gb_3 0]))], [cvar gb_3 (rW (HDR go_9 0 (List.length x_8) gc_10)) (), cown go_9 (rU UInt8) x_8 0 gc_10, cvar gb_2 r_api_Event t_1], []⟩ [0, 0, 1] rfl (.cons rfl (.cons rfl (.cons rfl .nil))) rfl ?_
 refine jn <| jr <| jmv rfl rfl <| jc (op_fieldAddr (off := 2) lb tf43_1 (.tmp rfl)) <| jc (op_loadS (j := 2) lb tS9 (.tmp rfl) rfl (cT (comp_api_Event_Topic t_1) rfl) rfl rfl) ?_
 refine jc (op_convSB lb tu9 tu25 tu5 (.tmp rfl)) ?_
 replace hm := bnd_inv hm
 obtain ⟨⟨v_11, v_12⟩, hv_v_11, hm⟩ := hm
 refine jx (op_call (js := []) ld cl37 (sim_wire_Blob k t_1.Topic (v_11, v_12) hv_v_11) .func (.cons (.tmp rfl) .nil) rfl) (fun q => ?_)
 obtain ⟨go_13, gc_14⟩ := q
 refine jc (op_extract (i := 0) lb (.tmp rfl) rfl) <| jc (op_extract (i := 1) lb (.tmp rfl) rfl) ?_
 replace hm := bnd_inv hm
 obtain ⟨x_15, hv_x_15, hm⟩ := hm
 refine JL.pre (Imp.frz (j := 0) rfl (ImpK.tupAt (s := 19) (i := 0) (q := HL go_13 (rU UInt8) v_11 gc_14) rfl rfl ownHL (ImpK.slotH (s := 20) rfl ImpK.refl))) ?_
 refine jx (op_call (js := [1, 1]) ld cl101 (sim_event_bytes_1'2 k v_11 v_12 x_8 gb_3 go_9 gc_10 x_15 hv_x_15) (.tmp rfl) (.cons (HasO.wk (.tmp rfl) wkHL) (.cons (.tmp rfl) .nil)) rfl) (fun q => ?_)
 obtain ⟨go_16, gc_17⟩ := q
 refine JL.nrm ⟨[(1, ov (PTR gb_2 0)), (3, ov (PTR gb_3 0)), (4, ov (CLO 101 [PTR gb_3 0]))], [cvar gb_3 (rW (HDR go_16 0 (List.length x_15) gc_17)) (), cown go_16 (rU UInt8) x_15 0 gc_17, cvar gb_2 r_api_Event t_1], []⟩ [0, 0, 1] rfl (.cons rfl (.cons rfl (.cons rfl .nil))) rfl ?_
 refine jn <| jr <| jmv rfl rfl <| jc (op_fieldAddr (off := 3) lb tf43_2 (.tmp rfl)) <| jc (op_loadS (j := 2) lb tS25 (.tmp rfl) rfl (cT (comp_api_Event_Payload t_1) rfl) rfl rfl) ?_
 replace hm := bnd_inv hm
 obtain ⟨⟨v_18, v_19⟩, hv_v_18, hm⟩ := hm
 refine jx (op_call (js := []) ld cl37 (sim_wire_Blob k t_1.Payload (v_18, v_19) hv_v_18) .func (.cons (.tmp rfl) .nil) rfl) (fun q => ?_)
 obtain ⟨go_20, gc_21⟩ := q
 refine jc (op_extract (i := 0) lb (.tmp rfl) rfl) <| jc (op_extract (i := 1) lb (.tmp rfl) rfl) ?_
 replace hm := bnd_inv hm
 obtain ⟨x_22, hv_x_22, hm⟩ := hm
 refine JL.pre (Imp.frz (j := 0) rfl (ImpK.tupAt (s := 26) (i := 0) (q := HL go_20 (rU UInt8) v_18 gc_21) rfl rfl ownHL (ImpK.slotH (s := 27) rfl ImpK.refl))) ?_
 refine jx (op_call (js := [1, 1]) ld cl101 (sim_event_bytes_1'2 k v_18 v_19 x_15 gb_3 go_16 gc_17 x_22 hv_x_22) (.tmp rfl) (.cons (HasO.wk (.tmp rfl) wkHL) (.cons (.tmp rfl) .nil)) rfl) (fun q => ?_)
 obtain ⟨go_23, gc_24⟩ := q
 refine JL.nrm ⟨[(1, ov (PTR gb_2 0)), (3, ov (PTR gb_3 0)), (4, ov (CLO 101 [PTR gb_3 0]))], [cvar gb_3 (rW (HDR go_23 0 (List.length x_22) gc_24)) (), cown go_23 (rU UInt8) x_22 0 gc_24, cvar gb_2 r_api_Event t_1], []⟩ [0, 0, 1] rfl (.cons rfl (.cons rfl (.cons rfl .nil))) rfl ?_
 refine jn <| jr <| jmv rfl rfl <| jc (op_fieldAddr (off := 4) lb tf43_3 (.tmp rfl)) <| jc (op_loadA (j := 2) lb tA40 (.tmp rfl) rfl (cT (comp_api_Event_Past t_1) rfl) rfl) ?_
 replace hm := bnd_inv hm
 obtain ⟨v_25, hv_v_25, hm⟩ := hm
 refine jx (op_call (js := []) ld cl76 (sim_wire_Vector k t_1.Past v_25 hv_v_25) .func (.cons (.tmp rfl) .nil) rfl) (fun q => ?_)
 obtain ⟨go_26, gc_27⟩ := q
 replace hm := bnd_inv hm
 obtain ⟨x_28, hv_x_28, hm⟩ := hm
 refine JL.pre (Imp.frz (j := 0) rfl (ImpK.slotH (s := 33) rfl ImpK.refl)) ?_
 refine jx (op_call (js := [1, 1]) ld cl101 (sim_event_bytes_1'2 k v_25 (0 : Int) x_22 gb_3 go_23 gc_24 x_28 hv_x_28) (.tmp rfl) (.cons (HasO.wk (.tmp rfl) wkHL) (.cons .cI .nil)) rfl) (fun q => ?_)
 obtain ⟨go_29, gc_30⟩ := q
 refine JL.nrm ⟨[(1, ov (PTR gb_2 0)), (3, ov (PTR gb_3 0)), (4, ov (CLO 101 [PTR gb_3 0]))], [cvar gb_3 (rW (HDR go_29 0 (List.length x_28) gc_30)) (), cown go_29 (rU UInt8) x_28 0 gc_30, cvar gb_2 r_api_Event t_1], []⟩ [0, 0, 1] rfl (.cons rfl (.cons rfl (.cons rfl .nil))) rfl ?_
 refine jn <| jr <| jmv rfl rfl <| jc (op_fieldAddr (off := 20) lb tf43_4 (.tmp rfl)) <| jc (op_loadS (j := 2) lb tS41 (.tmp rfl) rfl (cT (comp_api_Event_To t_1) rfl) rfl rfl) ?_
 refine jc (op_lenL lb tu41 (.tmp rfl)) ?_
 replace hm := lt1_inv hm
 obtain ⟨v_31, hv_v_31, hm⟩ := hm
 refine jc (op_convIU lb tu3 tu27 (.tmp rfl) hv_v_31) ?_
 replace hm := bnd_inv hm
 obtain ⟨⟨v_32, v_33⟩, hv_v_32, hm⟩ := hm
 refine jx (op_call (js := []) ld cl34 (sim_wire_Put k v_31 (2 : Int) (v_32, v_33) hv_v_32) .func (.cons (.tmp rfl) (.cons .cI .nil)) rfl) (fun q => ?_)
 obtain ⟨go_34, gc_35⟩ := q
 refine jc (op_extract (i := 0) lb (.tmp rfl) rfl) <| jc (op_extract (i := 1) lb (.tmp rfl) rfl) ?_
 replace hm := bnd_inv hm
 obtain ⟨x_36, hv_x_36, hm⟩ := hm
 refine JL.pre (Imp.frz (j := 0) rfl (ImpK.tupAt (s := 40) (i := 0) (q := HL go_34 (rU UInt8) v_32 gc_35) rfl rfl ownHL (ImpK.slotH (s := 41) rfl ImpK.refl))) ?_
 refine jx (op_call (js := [1, 1]) ld cl101 (sim_event_bytes_1'2 k v_32 v_33 x_28 gb_3 go_29 gc_30 x_36 hv_x_36) (.tmp rfl) (.cons (HasO.wk (.tmp rfl) wkHL) (.cons (.tmp rfl) .nil)) rfl) (fun q => ?_)
 obtain ⟨go_37, gc_38⟩ := q
 refine JL.nrm ⟨[(1, ov (PTR gb_2 0)), (3, ov (PTR gb_3 0)), (4, ov (CLO 101 [PTR gb_3 0]))], [cvar gb_3 (rW (HDR go_37 0 (List.length x_36) gc_38)) (), cown go_37 (rU UInt8) x_36 0 gc_38, cvar gb_2 r_api_Event t_1], []⟩ [0, 0, 1] rfl (.cons rfl (.cons rfl (.cons rfl .nil))) rfl ?_
 refine jn ?_
 replace hm := bnd_inv hm
 obtain ⟨x_61, hx1, hq1⟩ := hm
 refine JC.seqJ (γ := Option Nat × Nat) (stj := fun q => ⟨[(3, ov (PTR gb_3 0))], [cvar gb_3 (rW (HDR q.1 0 (List.length x_61) q.2)) (), cown q.1 (rU UInt8) x_61 0 q.2], []⟩) (fun q => ?_) ?_
 · obtain ⟨go_62, gc_63⟩ := q
   refine JC.at ⟨[(3, ov (PTR gb_3 0))], [cvar gb_3 (rW (HDR go_62 0 (List.length x_61) gc_63)) (), cown go_62 (rU UInt8) x_61 0 gc_63], []⟩ ?_
   refine jr <| jc (op_loadW (j := 0) lb tS25 (.tmp rfl) rfl (Comp.self (rW (HDR go_62 0 (List.length x_61) gc_63)) ())) <| jc (op_assign lb (.tmp rfl)) <| jn ?_
   refine JC.ret ?_
   replace hq1 := Option.some.inj hq1
   subst hq1
   exact JQ.done (js := [1]) (ss := [.val (HDR go_62 0 (List.length x_61) gc_63)]) (go_62, gc_63) (.inl rfl) (.nil rfl) rfl (.cons (.tmp rfl) .nil) rfl rfl rfl
 refine jr <| jc (op_fieldAddr (off := 20) lb tf43_4 (.tmp rfl)) <| jc (op_loadS (j := 2) lb tS41 (.tmp rfl) rfl (cT (comp_api_Event_To t_1) rfl) rfl rfl) <| jc (op_lenL lb tu41 (.tmp rfl)) <| jc (op_move lb .cI) ?_
 refine jn <| JC.block ?_
 refine JC.pre ?_ (JC.loop (γ := Option Nat × Nat) (stf := fun s q => ⟨[(3, ov (PTR gb_3 0)), (4, ov (CLO 101 [PTR gb_3 0])), (45, ov (S (rL r_api_Dest) t_1.To)), (46, ov (S (rI .i64) (List.length t_1.To : Int))), (47, ov (S (rI .i64) s.2))], [cvar gb_3 (rW (HDR q.1 0 (List.length s.1) q.2)) (), cown q.1 (rU UInt8) s.1 0 q.2], []⟩) (q := (go_37, gc_38)) hx1 ?_)
 · exact (Imp.norm (js := [0, 0]) rfl (.cons rfl (.cons rfl (.cons rfl (.cons rfl (.cons rfl .nil))))))
 intro s q x hx hr
 obtain ⟨x_39, x_40⟩ := s
 obtain ⟨go_41, gc_42⟩ := q
 change event_bytes.b1 k t_1 x_39 x_40 = some x at hx
 unfold event_bytes.b1 at hx
 refine JC.at ⟨[(3, ov (PTR gb_3 0)), (4, ov (CLO 101 [PTR gb_3 0])), (45, ov (S (rL r_api_Dest) t_1.To)), (46, ov (S (rI .i64) (List.length t_1.To : Int))), (47, ov (S (rI .i64) x_40))], [cvar gb_3 (rW (HDR go_41 0 (List.length x_39) gc_42)) (), cown go_41 (rU UInt8) x_39 0 gc_42], []⟩ ?_
 refine jr ?_
 replace hx := lt1_inv hx
 obtain ⟨v_43, hv_v_43, hx⟩ := hx
 refine jc (op_cmpI lb (.tmp rfl) (.tmp rfl) (congrArg some hv_v_43)) <| jn <| JC.seq ?_
 replace hx := iteB_inv hx
 rcases hx with ⟨hc3, hx⟩ | ⟨hc3, hx⟩
 · refine JC.condT (.tmp rfl) hc3 ?_
   refine JC.skip ?_
   refine JQ.then <| JC.seq <| JC.block <| jr ?_
   replace hx := bnd_inv hx
   obtain ⟨v_44, hv_v_44, hx⟩ := hx
   refine jc (op_indexAddrLg lb tu41 tz110 (.tmp rfl) (.tmp rfl) hv_v_44) <| jc (op_loadPAg lb tA110 (.tmp rfl) rfl) ?_
   refine jx (op_alloc lb tZ110 zr110) (fun q => ?_)
   obtain ⟨gb_45, hqq⟩ : ∃ z, z = q := ⟨_, rfl⟩
   subst hqq
   refine jc (op_storeA (j := 2) tA110 (.tmp rfl) (.tmp rfl) rfl (UpdR.self (by rfl)) rfl) <| jn <| jr <| jmv rfl rfl <| jc (op_fieldAddr (off := 0) lb tf110_0 (.tmp rfl)) ?_
   refine jc (op_loadA (j := 2) lb tA29 (.tmp rfl) rfl (cT (comp_api_Dest_Dot v_44) rfl) rfl) ?_
   refine JL.sub ⟨[(3, ov (PTR gb_3 0)), (4, ov (CLO 101 [PTR gb_3 0])), (6, ov (PTR gb_45 0)), (45, ov (S (rL r_api_Dest) t_1.To)), (46, ov (S (rI .i64) (List.length t_1.To : Int))), (47, ov (S (rI .i64) x_40)), (51, ov (CLO 101 [PTR gb_3 0])), (53, ov (A r_api_Dot v_44.Dot))], [cvar gb_3 (rW (HDR go_41 0 (List.length x_39) gc_42)) (), cown go_41 (rU UInt8) x_39 0 gc_42, cvar gb_45 r_api_Dest v_44], []⟩ (.cons rfl (.cons rfl (.cons rfl (.cons rfl (.cons rfl (.cons rfl (.cons rfl (.cons rfl .nil)))))))) rfl rfl ?_
   replace hx := bnd_inv hx
   obtain ⟨⟨v_46, v_47⟩, hv_v_46, hx⟩ := hx
   refine jx (op_call (js := []) ld cl35 (sim_wire_Dot k v_44.Dot (v_46, v_47) hv_v_46) .func (.cons (.tmp rfl) .nil) rfl) (fun q => ?_)
   obtain ⟨go_48, gc_49⟩ := q
   refine jc (op_extract (i := 0) lb (.tmp rfl) rfl) <| jc (op_extract (i := 1) lb (.tmp rfl) rfl) ?_
   replace hx := bnd_inv hx
   obtain ⟨x_50, hv_x_50, hx⟩ := hx
   refine JL.pre (Imp.frz (j := 0) rfl (ImpK.tupAt (s := 54) (i := 0) (q := HL go_48 (rU UInt8) v_46 gc_49) rfl rfl ownHL (ImpK.slotH (s := 55) rfl ImpK.refl))) ?_
   refine jx (op_call (js := [1, 1]) ld cl101 (sim_event_bytes_1'2 k v_46 v_47 x_39 gb_3 go_41 gc_42 x_50 hv_x_50) (.tmp rfl) (.cons (HasO.wk (.tmp rfl) wkHL) (.cons (.tmp rfl) .nil)) rfl) (fun q => ?_)
   obtain ⟨go_51, gc_52⟩ := q
   refine JL.nrm ⟨[(3, ov (PTR gb_3 0)), (4, ov (CLO 101 [PTR gb_3 0])), (6, ov (PTR gb_45 0)), (45, ov (S (rL r_api_Dest) t_1.To)), (46, ov (S (rI .i64) (List.length t_1.To : Int))), (47, ov (S (rI .i64) x_40))], [cvar gb_3 (rW (HDR go_51 0 (List.length x_50) gc_52)) (), cown go_51 (rU UInt8) x_50 0 gc_52, cvar gb_45 r_api_Dest v_44], []⟩ [0, 0, 1] rfl (.cons rfl (.cons rfl (.cons rfl (.cons rfl (.cons rfl (.cons rfl .nil)))))) rfl ?_
   refine jn <| JC.region <| jmv rfl rfl <| jc (op_fieldAddr (off := 2) lb tf110_1 (.tmp rfl)) <| jc (op_loadS (j := 2) lb tS9 (.tmp rfl) rfl (cT (comp_api_Dest_Device v_44) rfl) rfl rfl) ?_
   refine jc (op_convSB lb tu9 tu25 tu5 (.tmp rfl)) ?_
   replace hx := bnd_inv hx
   obtain ⟨⟨v_53, v_54⟩, hv_v_53, hx⟩ := hx
   refine jx (op_call (js := []) ld cl37 (sim_wire_Blob k v_44.Device (v_53, v_54) hv_v_53) .func (.cons (.tmp rfl) .nil) rfl) (fun q => ?_)
   obtain ⟨go_55, gc_56⟩ := q
   refine jc (op_extract (i := 0) lb (.tmp rfl) rfl) <| jc (op_extract (i := 1) lb (.tmp rfl) rfl) ?_
   replace hx := bnd_inv hx
   obtain ⟨x_57, hv_x_57, hx⟩ := hx
   refine JL.pre (Imp.frz (j := 0) rfl (ImpK.tupAt (s := 62) (i := 0) (q := HL go_55 (rU UInt8) v_53 gc_56) rfl rfl ownHL (ImpK.slotH (s := 63) rfl ImpK.refl))) ?_
   refine jx (op_call (js := [1, 1]) ld cl101 (sim_event_bytes_1'2 k v_53 v_54 x_50 gb_3 go_51 gc_52 x_57 hv_x_57) (.tmp rfl) (.cons (HasO.wk (.tmp rfl) wkHL) (.cons (.tmp rfl) .nil)) rfl) (fun q => ?_)
   obtain ⟨go_58, gc_59⟩ := q
   refine JL.nrm ⟨[(3, ov (PTR gb_3 0)), (4, ov (CLO 101 [PTR gb_3 0])), (45, ov (S (rL r_api_Dest) t_1.To)), (46, ov (S (rI .i64) (List.length t_1.To : Int))), (47, ov (S (rI .i64) x_40))], [cvar gb_3 (rW (HDR go_58 0 (List.length x_57) gc_59)) (), cown go_58 (rU UInt8) x_57 0 gc_59], []⟩ [0, 0] rfl (.cons rfl (.cons rfl (.cons rfl (.cons rfl (.cons rfl .nil))))) rfl ?_
   refine JL.nil ?_
   refine JQ.outNB ?_
   refine JQ.then <| JC.region ?_
   replace hx := lt1_inv hx
   obtain ⟨v_60, hv_v_60, hx⟩ := hx
   refine jc (op_arI lb (.tmp rfl) .cI (congrArg some hv_v_60)) <| jmv rfl rfl <| JL.nil ?_
   replace hx := Option.some.inj hx
   first | subst hx | clear hx
   exact JQ.next (go_58, gc_59) rfl (Imp.norm (js := [0, 0]) rfl (.cons rfl (.cons rfl (.cons rfl (.cons rfl (.cons rfl .nil))))))
 refine JC.condF (.tmp rfl) hc3 ?_
 refine JC.exit ?_
 refine JQ.outX ?_
 replace hx := Option.some.inj hx
 first | subst hx | clear hx
 have ht := hr _ rfl
 have hq2 := congrArg some ht
 clear hr ht
 refine JQ.outX ?_
 refine JQ.here ?_
 replace hq2 := Option.some.inj hq2
 first | subst hq2 | clear hq2
 exact JQ.join (go_41, gc_42) (Imp.norm (js := [0, 0]) rfl (.cons rfl .nil))

theorem sim_event_Bytes (k : Nat) (e_1 : api_Event) (r : (List UInt8) × Int) (hm : event_Bytes k e_1 = some r) : Sim Try.prog 73 [A r_api_Event e_1] [] (γ := Option Nat × Nat) (fun q => [cown q.1 (rU UInt8) r.1 0 q.2]) (fun q => .tup [.val (HDR q.1 0 (List.length r.1) q.2), .val (S (rI .i64) r.2)]) := by
 unfold event_Bytes at hm
 refine Sim.of Try.func73 rfl rfl (lE rfl) (fun e0 w0 => ?_)
 refine JC.at ⟨[(0, ov (A r_api_Event e_1))], [], []⟩ ?_
 refine jr ?_
 refine jx (op_boxA lb (.tmp rfl)) (fun q => ?_)
 obtain ⟨gb_2, hqq⟩ : ∃ z, z = q := ⟨_, rfl⟩
 subst hqq
 refine jc (op_assign lb HasO.nilH) <| jc (op_assign lb .cI) <| jn <| JC.seq <| jr ?_
 refine jc (op_loadA (j := 0) lb tA43 (.tmp rfl) rfl (Comp.self r_api_Event e_1) rfl) ?_
 replace hm := bnd_inv hm
 obtain ⟨v_3, hv_v_3, hm⟩ := hm
 refine jx (op_call (js := []) ld cl25 (sim_event_May k e_1 v_3 hv_v_3) .func (.cons (.tmp rfl) .nil) rfl) (fun _ => ?_)
 replace hm := lt1_inv hm
 obtain ⟨v_4, hv_v_4, hm⟩ := hm
 refine jc (op_not lb (.tmp rfl) hv_v_4) <| jn ?_
 replace hm := iteB_inv hm
 rcases hm with ⟨hc1, hm⟩ | ⟨hc1, hm⟩
 · refine JC.condT (.tmp rfl) hc1 ?_
   refine jr <| jc (op_assign lb HasO.nilH) <| jc (op_assign lb .cI) <| jn ?_
   refine JC.ret ?_
   refine JQ.outR ?_
   replace hm := Option.some.inj hm
   subst hm
   refine JQ.pre (Imp.nilown (rU UInt8)) ?_
   exact JQ.done (js := [1]) (ss := [.val (HDR none 0 (List.length ([] : (List UInt8))) (0)), .val (S (rI .i64) (2 : Int))]) (none, 0) (.inl rfl) (.nil rfl) rfl (.cons (.tmp rfl) (.cons (.tmp rfl) .nil)) rfl rfl rfl
 refine JC.condF (.tmp rfl) hc1 ?_
 refine JC.skip ?_
 refine JQ.then <| jr <| jc (op_loadA (j := 0) lb tA43 (.tmp rfl) rfl (Comp.self r_api_Event e_1) rfl) ?_
 replace hm := bnd_inv hm
 obtain ⟨v_5, hv_v_5, hm⟩ := hm
 refine jx (op_call (js := []) ld cl95 (sim_event_bytes k e_1 v_5 hv_v_5) .func (.cons (.tmp rfl) .nil) rfl) (fun q => ?_)
 obtain ⟨go_6, gc_7⟩ := q
 refine JL.nrm ⟨[(2, ov (HDR none 0 0 0)), (3, ov (S (rI .i64) (0 : Int))), (8, ov (HDR go_6 0 (List.length v_5) gc_7))], [cown go_6 (rU UInt8) v_5 0 gc_7], []⟩ [0] rfl (.cons rfl (.cons rfl (.cons rfl .nil))) rfl ?_
 refine jc (op_assign lb (.tmp rfl)) <| jc (op_assign lb .cI) <| jn ?_
 refine JC.ret ?_
 replace hm := Option.some.inj hm
 subst hm
 exact JQ.done (js := [0]) (ss := [.val (HDR go_6 0 (List.length v_5) gc_7), .val (S (rI .i64) (0 : Int))]) (go_6, gc_7) (.inl rfl) (.nil rfl) rfl (.cons (.tmp rfl) (.cons (.tmp rfl) .nil)) rfl rfl rfl

theorem sim_frame_writer_event (k : Nat) (f_1 : api_Frame) (x_3 : (List UInt8)) (gb_2 : Nat) (go_4 : Option Nat) (gc_5 : Nat) (r : (List UInt8)) (hm : frame_writer_event k f_1 x_3 = some r) : Sim Try.prog 44 [PTR gb_2 0, A r_api_Frame f_1] [cvar gb_2 (zq21 go_4 x_3 gc_5) ((), ()), cown go_4 (rU UInt8) x_3 0 gc_5] (γ := Option Nat × Nat) (fun q => [cvar gb_2 (rP (rW (HDR q.1 0 (List.length r) q.2)) r0) ((), ()), cown q.1 (rU UInt8) r 0 q.2]) (fun q => .tup []) := by
 unfold frame_writer_event at hm
 refine Sim.of Try.func44 rfl rfl (lE rfl) (fun e0 w0 => ?_)
 refine JC.at ⟨[(0, ov (PTR gb_2 0)), (1, ov (A r_api_Frame f_1))], [cvar gb_2 (zq21 go_4 x_3 gc_5) ((), ()), cown go_4 (rU UInt8) x_3 0 gc_5], []⟩ ?_
 refine jr ?_
 refine jx (op_boxA lb (.tmp rfl)) (fun q => ?_)
 obtain ⟨gb_6, hqq⟩ : ∃ z, z = q := ⟨_, rfl⟩
 subst hqq
 refine jn <| jr <| jc (op_fieldAddr (off := 4) lb tf50_4 (.tmp rfl)) <| jc (op_loadA (j := 2) lb tA43 (.tmp rfl) rfl (cT (comp_api_Frame_Event f_1) rfl) rfl) ?_
 replace hm := bnd_inv hm
 obtain ⟨⟨v_7, v_8⟩, hv_v_7, hm⟩ := hm
 refine jx (op_call (js := []) ld cl73 (sim_event_Bytes k f_1.Event (v_7, v_8) hv_v_7) .func (.cons (.tmp rfl) .nil) rfl) (fun q => ?_)
 obtain ⟨go_9, gc_10⟩ := q
 refine jmv rfl rfl <| jc (op_extract (i := 0) lb (.tmp rfl) rfl) <| jc (op_extract (i := 1) lb (.tmp rfl) rfl) <| jc (op_assign lb (.tmp rfl)) ?_
 refine JL.nrm ⟨[(0, ov (PTR gb_2 0)), (4, ov (HDR go_9 0 (List.length v_7) gc_10)), (11, ov (S (rI .i64) v_8))], [cown go_9 (rU UInt8) v_7 0 gc_10, cvar gb_2 (zq21 go_4 x_3 gc_5) ((), ()), cown go_4 (rU UInt8) x_3 0 gc_5], []⟩ [0, 0, 0] rfl (.cons rfl (.cons rfl (.cons rfl .nil))) rfl ?_
 refine jc (op_assign lb (.tmp rfl)) <| jn <| jr <| jmv rfl rfl <| jmv rfl rfl ?_
 refine jc (op_lenH lb tu25 (.tmp rfl)) ?_
 replace hm := lt1_inv hm
 obtain ⟨v_11, hv_v_11, hm⟩ := hm
 refine jc (op_convIU lb tu3 tu27 (.tmp rfl) hv_v_11) ?_
 replace hm := bnd_inv hm
 obtain ⟨⟨v_12, v_13⟩, hv_v_12, hm⟩ := hm
 refine jx (op_call (js := []) ld cl34 (sim_wire_Put k v_11 (4 : Int) (v_12, v_13) hv_v_12) .func (.cons (.tmp rfl) (.cons .cI .nil)) rfl) (fun q => ?_)
 obtain ⟨go_14, gc_15⟩ := q
 refine jc (op_extract (i := 0) lb (.tmp rfl) rfl) <| jc (op_extract (i := 1) lb (.tmp rfl) rfl) ?_
 replace hm := bnd_inv hm
 obtain ⟨x_16, hv_x_16, hm⟩ := hm
 refine JL.pre (Imp.frz (j := 0) rfl (ImpK.tupAt (s := 16) (i := 0) (q := HL go_14 (rU UInt8) v_12 gc_15) rfl rfl ownHL (ImpK.slotH (s := 17) rfl ImpK.refl))) ?_
 refine jx (op_call (js := [2, 2]) ld cl33 (sim_frame_writer_put'2 k v_12 v_13 x_3 gb_2 go_4 gc_5 x_16 hv_x_16) .func (.cons (.tmp rfl) (.cons (HasO.wk (.tmp rfl) wkHL) (.cons (.tmp rfl) .nil))) rfl) (fun q => ?_)
 obtain ⟨go_17, gc_18⟩ := q
 refine JL.nrm ⟨[(0, ov (PTR gb_2 0)), (4, ov (HDR go_9 0 (List.length v_7) gc_10))], [cvar gb_2 (zq21 go_17 x_16 gc_18) ((), ()), cown go_17 (rU UInt8) x_16 0 gc_18, cown go_9 (rU UInt8) v_7 0 gc_10], []⟩ [0, 0, 1] rfl (.cons rfl (.cons rfl .nil)) rfl ?_
 refine jn <| JC.region <| jmv rfl rfl <| jmv rfl rfl <| jc (op_nilCheck lb (.tmp rfl) (fun e v h => by subst h; rfl)) ?_
 refine jc (op_fieldAddr (off := 0) lb tf60_0 (.tmp rfl)) <| jc (op_loadW (j := 0) lb tS25 (.tmp rfl) rfl (Comp.trans (Comp.self (zq21 go_17 x_16 gc_18) ((), ())) (Comp.at' (Comp.inF (Comp.self (rW (HDR go_17 0 (List.length x_16) gc_18)) ()) (lE rfl)) (by rfl : _ = 0)) (lE rfl))) <| jmv rfl rfl ?_
 replace hm := bnd_inv hm
 obtain ⟨x_19, hv_x_19, hm⟩ := hm
 refine jx (op_appendO (j := 1) (j' := 2) lb tu25 tu25 rfl tB5 rfl (Nat.lt_of_lt_of_le Nat.zero_lt_one (lE rfl)) (Nat.lt_of_lt_of_le Nat.zero_lt_one (lE rfl))  rfl (.tmp rfl) rfl (.tmp rfl) hv_x_19) (fun q => ?_)
 obtain ⟨go_20, gc_21⟩ := q
 refine jc (op_nilCheck lb (.tmp rfl) (fun e v h => by subst h; rfl)) <| jc (op_fieldAddr (off := 0) lb tf60_0 (.tmp rfl)) <| jc (op_storeW (j := 0) tS25 (.tmp rfl) (.tmp rfl) rfl ((UpdR.fst (UpdR.self (by rfl))).at (by change 0 = (0 + 0); omega)) rfl) ?_
 refine JL.nrm ⟨[], [cvar gb_2 (zq21 go_20 x_19 gc_21) ((), ()), cown go_20 (rU UInt8) x_19 0 gc_21], []⟩ [0, 0] rfl .nil rfl ?_
 refine JL.nil ?_
 replace hm := Option.some.inj hm
 subst hm
 exact JQ.done (js := [0, 0]) (ss := []) (go_20, gc_21) (.inr rfl) (.nil rfl) rfl .nil rfl rfl rfl

theorem sim_frame_writer_have (k : Nat) (f_1 : api_Frame) (x_3 : (List UInt8)) (gb_2 : Nat) (go_4 : Option Nat) (gc_5 : Nat) (r : (List UInt8)) (hm : frame_writer_have k f_1 x_3 = some r) : Sim Try.prog 46 [PTR gb_2 0, A r_api_Frame f_1] [cvar gb_2 (zq21 go_4 x_3 gc_5) ((), ()), cown go_4 (rU UInt8) x_3 0 gc_5] (γ := Option Nat × Nat) (fun q => [cvar gb_2 (rP (rW (HDR q.1 0 (List.length r) q.2)) r0) ((), ()), cown q.1 (rU UInt8) r 0 q.2]) (fun q => .tup []) := by
 unfold frame_writer_have at hm
 refine Sim.of Try.func46 rfl rfl (lE rfl) (fun e0 w0 => ?_)
 refine JC.at ⟨[(0, ov (PTR gb_2 0)), (1, ov (A r_api_Frame f_1))], [cvar gb_2 (zq21 go_4 x_3 gc_5) ((), ()), cown go_4 (rU UInt8) x_3 0 gc_5], []⟩ ?_
 refine jr ?_
 refine jx (op_boxA lb (.tmp rfl)) (fun q => ?_)
 obtain ⟨gb_6, hqq⟩ : ∃ z, z = q := ⟨_, rfl⟩
 subst hqq
 refine jn <| JC.region <| jmv rfl rfl <| jc (op_fieldAddr (off := 25) lb tf50_5 (.tmp rfl)) <| jc (op_loadA (j := 2) lb tA40 (.tmp rfl) rfl (cT (comp_api_Frame_Past f_1) rfl) rfl) ?_
 replace hm := bnd_inv hm
 obtain ⟨v_7, hv_v_7, hm⟩ := hm
 refine jx (op_call (js := []) ld cl76 (sim_wire_Vector k f_1.Past v_7 hv_v_7) .func (.cons (.tmp rfl) .nil) rfl) (fun q => ?_)
 obtain ⟨go_8, gc_9⟩ := q
 replace hm := bnd_inv hm
 obtain ⟨x_10, hv_x_10, hm⟩ := hm
 refine JL.pre (Imp.frz (j := 0) rfl (ImpK.slotH (s := 7) rfl ImpK.refl)) ?_
 refine jx (op_call (js := [1, 1]) ld cl33 (sim_frame_writer_put'2 k v_7 (0 : Int) x_3 gb_2 go_4 gc_5 x_10 hv_x_10) .func (.cons (.tmp rfl) (.cons (HasO.wk (.tmp rfl) wkHL) (.cons .cI .nil))) rfl) (fun q => ?_)
 obtain ⟨go_11, gc_12⟩ := q
 refine JL.nrm ⟨[], [cvar gb_2 (zq21 go_11 x_10 gc_12) ((), ()), cown go_11 (rU UInt8) x_10 0 gc_12], []⟩ [0, 0] rfl .nil rfl ?_
 refine JL.nil ?_
 replace hm := Option.some.inj hm
 subst hm
 exact JQ.done (js := [0, 0]) (ss := []) (go_11, gc_12) (.inr rfl) (.nil rfl) rfl .nil rfl rfl rfl

theorem sim_frame_writer_dots (k : Nat) (l_1 : (List api_Dot)) (x_3 : (List UInt8)) (gb_2 : Nat) (go_4 : Option Nat) (gc_5 : Nat) (r : (List UInt8)) (hm : frame_writer_dots k l_1 x_3 = some r) : Sim Try.prog 79 [PTR gb_2 0, S (rL r_api_Dot) l_1] [cvar gb_2 (zq21 go_4 x_3 gc_5) ((), ()), cown go_4 (rU UInt8) x_3 0 gc_5] (γ := Option Nat × Nat) (fun q => [cvar gb_2 (rP (rW (HDR q.1 0 (List.length r) q.2)) r0) ((), ()), cown q.1 (rU UInt8) r 0 q.2]) (fun q => .tup []) := by
 unfold frame_writer_dots at hm
 refine Sim.of Try.func79 rfl rfl (lE rfl) (fun e0 w0 => ?_)
 refine JC.at ⟨[(0, ov (PTR gb_2 0)), (1, ov (S (rL r_api_Dot) l_1))], [cvar gb_2 (zq21 go_4 x_3 gc_5) ((), ()), cown go_4 (rU UInt8) x_3 0 gc_5], []⟩ ?_
 refine jr <| jmv rfl rfl <| jmv rfl rfl <| jc (op_lenL lb tu44 (.tmp rfl)) ?_
 replace hm := lt1_inv hm
 obtain ⟨v_6, hv_v_6, hm⟩ := hm
 refine jc (op_convIU lb tu3 tu27 (.tmp rfl) hv_v_6) ?_
 replace hm := bnd_inv hm
 obtain ⟨⟨v_7, v_8⟩, hv_v_7, hm⟩ := hm
 refine jx (op_call (js := []) ld cl34 (sim_wire_Put k v_6 (2 : Int) (v_7, v_8) hv_v_7) .func (.cons (.tmp rfl) (.cons .cI .nil)) rfl) (fun q => ?_)
 obtain ⟨go_9, gc_10⟩ := q
 refine jc (op_extract (i := 0) lb (.tmp rfl) rfl) <| jc (op_extract (i := 1) lb (.tmp rfl) rfl) ?_
 replace hm := bnd_inv hm
 obtain ⟨x_11, hv_x_11, hm⟩ := hm
 refine JL.pre (Imp.frz (j := 0) rfl (ImpK.tupAt (s := 10) (i := 0) (q := HL go_9 (rU UInt8) v_7 gc_10) rfl rfl ownHL (ImpK.slotH (s := 11) rfl ImpK.refl))) ?_
 refine jx (op_call (js := [1, 1]) ld cl33 (sim_frame_writer_put'2 k v_7 v_8 x_3 gb_2 go_4 gc_5 x_11 hv_x_11) .func (.cons (.tmp rfl) (.cons (HasO.wk (.tmp rfl) wkHL) (.cons (.tmp rfl) .nil))) rfl) (fun q => ?_)
 obtain ⟨go_12, gc_13⟩ := q
 refine JL.nrm ⟨[(0, ov (PTR gb_2 0)), (1, ov (S (rL r_api_Dot) l_1))], [cvar gb_2 (zq21 go_12 x_11 gc_13) ((), ()), cown go_12 (rU UInt8) x_11 0 gc_13], []⟩ [0, 0] rfl (.cons rfl (.cons rfl .nil)) rfl ?_
 refine jn <| jr <| jmv rfl rfl <| jc (op_lenL lb tu44 (.tmp rfl)) <| jc (op_move lb .cI) ?_
 refine jn <| JC.block ?_
 refine JC.pre ?_ (JC.loop (γ := Option Nat × Nat) (stf := fun s q => ⟨[(0, ov (PTR gb_2 0)), (14, ov (S (rL r_api_Dot) l_1)), (15, ov (S (rI .i64) (List.length l_1 : Int))), (16, ov (S (rI .i64) s.2))], [cvar gb_2 (rP (rW (HDR q.1 0 (List.length s.1) q.2)) r0) ((), ()), cown q.1 (rU UInt8) s.1 0 q.2], []⟩) (q := (go_12, gc_13)) hm ?_)
 · exact (Imp.norm (js := [0, 0]) rfl (.cons rfl (.cons rfl (.cons rfl (.cons rfl .nil)))))
 intro s q x hx hr
 obtain ⟨b_14, x_15⟩ := s
 obtain ⟨go_16, gc_17⟩ := q
 change frame_writer_dots.b1 k l_1 b_14 x_15 = some x at hx
 unfold frame_writer_dots.b1 at hx
 refine JC.at ⟨[(0, ov (PTR gb_2 0)), (14, ov (S (rL r_api_Dot) l_1)), (15, ov (S (rI .i64) (List.length l_1 : Int))), (16, ov (S (rI .i64) x_15))], [cvar gb_2 (zq21 go_16 b_14 gc_17) ((), ()), cown go_16 (rU UInt8) b_14 0 gc_17], []⟩ ?_
 refine jr ?_
 replace hx := lt1_inv hx
 obtain ⟨v_18, hv_v_18, hx⟩ := hx
 refine jc (op_cmpI lb (.tmp rfl) (.tmp rfl) (congrArg some hv_v_18)) <| jn <| JC.seq ?_
 replace hx := iteB_inv hx
 rcases hx with ⟨hc2, hx⟩ | ⟨hc2, hx⟩
 · refine JC.condT (.tmp rfl) hc2 ?_
   refine JC.skip ?_
   refine JQ.then <| JC.seq <| JC.block <| jr ?_
   replace hx := bnd_inv hx
   obtain ⟨v_19, hv_v_19, hx⟩ := hx
   refine jc (op_indexAddrLg lb tu44 tz29 (.tmp rfl) (.tmp rfl) hv_v_19) <| jc (op_loadPAg lb tA29 (.tmp rfl) rfl) ?_
   refine jx (op_alloc lb tZ29 zr29) (fun q => ?_)
   obtain ⟨gb_20, hqq⟩ : ∃ z, z = q := ⟨_, rfl⟩
   subst hqq
   refine jc (op_storeA (j := 2) tA29 (.tmp rfl) (.tmp rfl) rfl (UpdR.self (by rfl)) rfl) <| jn <| JC.region <| jmv rfl rfl <| jc (op_loadA (j := 2) lb tA29 (.tmp rfl) rfl (Comp.self r_api_Dot v_19) rfl) ?_
   replace hx := bnd_inv hx
   obtain ⟨⟨v_21, v_22⟩, hv_v_21, hx⟩ := hx
   refine jx (op_call (js := []) ld cl35 (sim_wire_Dot k v_19 (v_21, v_22) hv_v_21) .func (.cons (.tmp rfl) .nil) rfl) (fun q => ?_)
   obtain ⟨go_23, gc_24⟩ := q
   refine JL.nrm ⟨[(0, ov (PTR gb_2 0)), (14, ov (S (rL r_api_Dot) l_1)), (15, ov (S (rI .i64) (List.length l_1 : Int))), (16, ov (S (rI .i64) x_15)), (20, ov (PTR gb_2 0)), (22, .tup [.val (HDR go_23 0 (List.length v_21) gc_24), .val (S (rI .i64) v_22)])], [cown go_23 (rU UInt8) v_21 0 gc_24, cvar gb_2 (zq21 go_16 b_14 gc_17) ((), ()), cown go_16 (rU UInt8) b_14 0 gc_17], []⟩ [0, 0, 0] rfl (.cons rfl (.cons rfl (.cons rfl (.cons rfl (.cons rfl (.cons rfl .nil)))))) rfl ?_
   refine jc (op_extract (i := 0) lb (.tmp rfl) rfl) <| jc (op_extract (i := 1) lb (.tmp rfl) rfl) ?_
   replace hx := bnd_inv hx
   obtain ⟨x_25, hv_x_25, hx⟩ := hx
   refine JL.pre (Imp.frz (j := 0) rfl (ImpK.tupAt (s := 22) (i := 0) (q := HL go_23 (rU UInt8) v_21 gc_24) rfl rfl ownHL (ImpK.slotH (s := 23) rfl ImpK.refl))) ?_
   refine jx (op_call (js := [1, 1]) ld cl33 (sim_frame_writer_put'2 k v_21 v_22 b_14 gb_2 go_16 gc_17 x_25 hv_x_25) .func (.cons (.tmp rfl) (.cons (HasO.wk (.tmp rfl) wkHL) (.cons (.tmp rfl) .nil))) rfl) (fun q => ?_)
   obtain ⟨go_26, gc_27⟩ := q
   refine JL.nrm ⟨[(0, ov (PTR gb_2 0)), (14, ov (S (rL r_api_Dot) l_1)), (15, ov (S (rI .i64) (List.length l_1 : Int))), (16, ov (S (rI .i64) x_15))], [cvar gb_2 (zq21 go_26 x_25 gc_27) ((), ()), cown go_26 (rU UInt8) x_25 0 gc_27], []⟩ [0, 0] rfl (.cons rfl (.cons rfl (.cons rfl (.cons rfl .nil)))) rfl ?_
   refine JL.nil ?_
   refine JQ.outNB ?_
   refine JQ.then <| JC.region ?_
   replace hx := lt1_inv hx
   obtain ⟨v_28, hv_v_28, hx⟩ := hx
   refine jc (op_arI lb (.tmp rfl) .cI (congrArg some hv_v_28)) <| jmv rfl rfl <| JL.nil ?_
   replace hx := Option.some.inj hx
   first | subst hx | clear hx
   exact JQ.next (go_26, gc_27) rfl (Imp.norm (js := [0, 0]) rfl (.cons rfl (.cons rfl (.cons rfl (.cons rfl .nil)))))
 refine JC.condF (.tmp rfl) hc2 ?_
 refine JC.exit ?_
 refine JQ.outX ?_
 replace hx := Option.some.inj hx
 first | subst hx | clear hx
 have ht := hr _ rfl
 have hq1 := congrArg some ht
 clear hr ht
 refine JQ.outX ?_
 refine JQ.here ?_
 replace hq1 := Option.some.inj hq1
 subst hq1
 exact JQ.done (js := [0, 0]) (ss := []) (go_16, gc_17) (.inr rfl) (.nil rfl) rfl .nil rfl rfl rfl

theorem sim_frame_writer_seen (k : Nat) (f_1 : api_Frame) (x_3 : (List UInt8)) (gb_2 : Nat) (go_4 : Option Nat) (gc_5 : Nat) (r : (List UInt8)) (hm : frame_writer_seen k f_1 x_3 = some r) : Sim Try.prog 78 [PTR gb_2 0, A r_api_Frame f_1] [cvar gb_2 (zq21 go_4 x_3 gc_5) ((), ()), cown go_4 (rU UInt8) x_3 0 gc_5] (γ := Option Nat × Nat) (fun q => [cvar gb_2 (rP (rW (HDR q.1 0 (List.length r) q.2)) r0) ((), ()), cown q.1 (rU UInt8) r 0 q.2]) (fun q => .tup []) := by
 unfold frame_writer_seen at hm
 refine Sim.of Try.func78 rfl rfl (lE rfl) (fun e0 w0 => ?_)
 refine JC.at ⟨[(0, ov (PTR gb_2 0)), (1, ov (A r_api_Frame f_1))], [cvar gb_2 (zq21 go_4 x_3 gc_5) ((), ()), cown go_4 (rU UInt8) x_3 0 gc_5], []⟩ ?_
 refine jr ?_
 refine jx (op_boxA lb (.tmp rfl)) (fun q => ?_)
 obtain ⟨gb_6, hqq⟩ : ∃ z, z = q := ⟨_, rfl⟩
 subst hqq
 refine jn <| jr <| jmv rfl rfl <| jc (op_fieldAddr (off := 41) lb tf50_6 (.tmp rfl)) <| jc (op_loadA (j := 2) lb tA40 (.tmp rfl) rfl (cT (comp_api_Frame_Seen f_1) rfl) rfl) ?_
 replace hm := bnd_inv hm
 obtain ⟨v_7, hv_v_7, hm⟩ := hm
 refine jx (op_call (js := []) ld cl76 (sim_wire_Vector k f_1.Seen v_7 hv_v_7) .func (.cons (.tmp rfl) .nil) rfl) (fun q => ?_)
 obtain ⟨go_8, gc_9⟩ := q
 replace hm := bnd_inv hm
 obtain ⟨x_10, hv_x_10, hm⟩ := hm
 refine JL.pre (Imp.frz (j := 0) rfl (ImpK.slotH (s := 7) rfl ImpK.refl)) ?_
 refine jx (op_call (js := [1, 1]) ld cl33 (sim_frame_writer_put'2 k v_7 (0 : Int) x_3 gb_2 go_4 gc_5 x_10 hv_x_10) .func (.cons (.tmp rfl) (.cons (HasO.wk (.tmp rfl) wkHL) (.cons .cI .nil))) rfl) (fun q => ?_)
 obtain ⟨go_11, gc_12⟩ := q
 refine JL.nrm ⟨[(0, ov (PTR gb_2 0)), (3, ov (PTR gb_6 0))], [cvar gb_2 (zq21 go_11 x_10 gc_12) ((), ()), cown go_11 (rU UInt8) x_10 0 gc_12, cvar gb_6 r_api_Frame f_1], []⟩ [0, 0, 1] rfl (.cons rfl (.cons rfl .nil)) rfl ?_
 refine jn <| JC.region <| jmv rfl rfl <| jc (op_fieldAddr (off := 57) lb tf50_7 (.tmp rfl)) <| jc (op_loadS (j := 2) lb tS44 (.tmp rfl) rfl (cT (comp_api_Frame_Extra f_1) rfl) rfl rfl) ?_
 replace hm := bnd_inv hm
 obtain ⟨x_13, hv_x_13, hm⟩ := hm
 refine jx (op_call (js := [0, 0]) ld cl79 (sim_frame_writer_dots k f_1.Extra x_10 gb_2 go_11 gc_12 x_13 hv_x_13) .func (.cons (.tmp rfl) (.cons (.tmp rfl) .nil)) rfl) (fun q => ?_)
 obtain ⟨go_14, gc_15⟩ := q
 refine JL.nil ?_
 replace hm := Option.some.inj hm
 subst hm
 exact JQ.done (js := [0, 0]) (ss := []) (go_14, gc_15) (.inr rfl) (.nil rfl) rfl .nil rfl rfl rfl

theorem sim_frame_writer_known (k : Nat) (f_1 : api_Frame) (x_3 : (List UInt8)) (gb_2 : Nat) (go_4 : Option Nat) (gc_5 : Nat) (r : (List UInt8)) (hm : frame_writer_known k f_1 x_3 = some r) : Sim Try.prog 48 [PTR gb_2 0, A r_api_Frame f_1] [cvar gb_2 (zq21 go_4 x_3 gc_5) ((), ()), cown go_4 (rU UInt8) x_3 0 gc_5] (γ := Option Nat × Nat) (fun q => [cvar gb_2 (rP (rW (HDR q.1 0 (List.length r) q.2)) r0) ((), ()), cown q.1 (rU UInt8) r 0 q.2]) (fun q => .tup []) := by
 unfold frame_writer_known at hm
 refine Sim.of Try.func48 rfl rfl (lE rfl) (fun e0 w0 => ?_)
 refine JC.at ⟨[(0, ov (PTR gb_2 0)), (1, ov (A r_api_Frame f_1))], [cvar gb_2 (zq21 go_4 x_3 gc_5) ((), ()), cown go_4 (rU UInt8) x_3 0 gc_5], []⟩ ?_
 refine jr ?_
 refine jx (op_boxA lb (.tmp rfl)) (fun q => ?_)
 obtain ⟨gb_6, hqq⟩ : ∃ z, z = q := ⟨_, rfl⟩
 subst hqq
 refine jn <| jr <| jmv rfl rfl <| jc (op_loadA (j := 2) lb tA50 (.tmp rfl) rfl (Comp.self r_api_Frame f_1) rfl) ?_
 replace hm := bnd_inv hm
 obtain ⟨x_7, hv_x_7, hm⟩ := hm
 refine jx (op_call (js := [0, 0]) ld cl78 (sim_frame_writer_seen k f_1 x_3 gb_2 go_4 gc_5 x_7 hv_x_7) .func (.cons (.tmp rfl) (.cons (.tmp rfl) .nil)) rfl) (fun q => ?_)
 obtain ⟨go_8, gc_9⟩ := q
 refine jn <| JC.region <| jmv rfl rfl <| jc (op_fieldAddr (off := 58) lb tf50_8 (.tmp rfl)) <| jc (op_loadS (j := 2) lb tS44 (.tmp rfl) rfl (cT (comp_api_Frame_Live f_1) rfl) rfl rfl) ?_
 replace hm := bnd_inv hm
 obtain ⟨x_10, hv_x_10, hm⟩ := hm
 refine jx (op_call (js := [0, 0]) ld cl79 (sim_frame_writer_dots k f_1.Live x_7 gb_2 go_8 gc_9 x_10 hv_x_10) .func (.cons (.tmp rfl) (.cons (.tmp rfl) .nil)) rfl) (fun q => ?_)
 obtain ⟨go_11, gc_12⟩ := q
 refine JL.nrm ⟨[], [cvar gb_2 (zq21 go_11 x_10 gc_12) ((), ()), cown go_11 (rU UInt8) x_10 0 gc_12], []⟩ [0, 0] rfl .nil rfl ?_
 refine JL.nil ?_
 replace hm := Option.some.inj hm
 subst hm
 exact JQ.done (js := [0, 0]) (ss := []) (go_11, gc_12) (.inr rfl) (.nil rfl) rfl .nil rfl rfl rfl

theorem sim_frame_writer_root (k : Nat) (f_1 : api_Frame) (x_3 : (List UInt8)) (gb_2 : Nat) (go_4 : Option Nat) (gc_5 : Nat) (r : (List UInt8)) (hm : frame_writer_root k f_1 x_3 = some r) : Sim Try.prog 50 [PTR gb_2 0, A r_api_Frame f_1] [cvar gb_2 (zq21 go_4 x_3 gc_5) ((), ()), cown go_4 (rU UInt8) x_3 0 gc_5] (γ := Option Nat × Nat) (fun q => [cvar gb_2 (rP (rW (HDR q.1 0 (List.length r) q.2)) r0) ((), ()), cown q.1 (rU UInt8) r 0 q.2]) (fun q => .tup []) := by
 unfold frame_writer_root at hm
 refine Sim.of Try.func50 rfl rfl (lE rfl) (fun e0 w0 => ?_)
 refine JC.at ⟨[(0, ov (PTR gb_2 0)), (1, ov (A r_api_Frame f_1))], [cvar gb_2 (zq21 go_4 x_3 gc_5) ((), ()), cown go_4 (rU UInt8) x_3 0 gc_5], []⟩ ?_
 refine jr ?_
 refine jx (op_boxA lb (.tmp rfl)) (fun q => ?_)
 obtain ⟨gb_6, hqq⟩ : ∃ z, z = q := ⟨_, rfl⟩
 subst hqq
 refine jn ?_
 refine JC.pre (Imp.frzVar (j := 2) rfl (ImpK.slotP (s := 3) rfl (Comp.self r_api_Frame f_1) ImpK.refl)) ?_
 replace hm := bnd_inv hm
 obtain ⟨v_7, hv_v_7, hm⟩ := hm
 replace hm := bnd_inv hm
 obtain ⟨x_8, hv_x_8, hm⟩ := hm
 refine JC.anyE (kl := []) (kk := 0) (base := [(0, ov (PTR gb_2 0)), (3, ov (PT r_api_Frame f_1))])
     (fs := fun γ => [⟨some 4, ov (PTR gb_2 0)⟩, ⟨some 5, ov (PTR gb_2 0)⟩, ⟨some 6, ov (PTR gb_2 0)⟩, ⟨some 7, ov (PTR gb_2 (0 + 0))⟩, ⟨some 8, ov (HDR go_4 0 (List.length x_3) gc_5)⟩, ⟨some 9, ov (PT (rV 32 (rU UInt8)) f_1.Hash)⟩, ⟨some 10, ov (S (rL (rU UInt8)) v_7)⟩, ⟨some 11, ov (HDR (deo (γ 7 0)) 0 (List.length x_8) (γ 7 1))⟩, ⟨some 12, ov (PTR gb_2 0)⟩, ⟨some 13, ov (PTR gb_2 (0 + 0))⟩, ⟨none, .one .any⟩])
     (rs := fun γ => [⟨cvar gb_2 (zq21 go_4 x_3 gc_5) ((), ()), none, (some 10), [4]⟩, ⟨cown go_4 (rU UInt8) x_3 0 gc_5, none, (some 7), []⟩, ⟨cown (deo (γ 7 0)) (rU UInt8) x_8 0 (γ 7 1), (some 7), none, []⟩, ⟨cvar gb_2 (zq21 (deo (γ 7 0)) x_8 (γ 7 1)) ((), ()), (some 10), none, []⟩])
     (ds := [4, 5, 6, 7, 8, 9, 10, 11, 12, 13]) (bs := [0, 3]) (afts := [[], [], [], [], [], [], [], [7, 8, 9, 10], [], [], []]) (js := [0, 0]) mixed (.cons rfl (.cons rfl .nil)) (fun _ => rfl)
     (by
      refine dS 1 (fun γ ρ B hb hd => op_move lb (.tmp (hb 0 _ rfl))) <| dS 2 (fun γ ρ B hb hd => op_move lb (.tmp (hb 0 _ rfl))) <| dS 3 (fun γ ρ B hb hd => op_nilCheck lb (tl hd 1 5) (fun e v h => by subst h; rfl)) <| dS 4 (fun γ ρ B hb hd => op_fieldAddr (off := 0) lb tf60_0 (tl hd 2 6)) <| dR 5 (fun γ ρ B hb hd => OpStep.lk ⟨ρ, (cvar gb_2 (zq21 go_4 x_3 gc_5) ((), ())) :: B, _⟩ (op_loadW (j := 0) lb tS25 (tl hd 3 7) rfl (Comp.trans (Comp.self (zq21 go_4 x_3 gc_5) ((), ())) (Comp.at' (Comp.inF (Comp.self (rW (HDR go_4 0 (List.length x_3) gc_5)) ()) (lE rfl)) (by rfl : _ = 0)) (lE rfl)))) ?_
      refine dS 6 (fun γ ρ B hb hd => op_fieldAddrP lb tf50_9 (.tmp (hb 3 _ rfl)) (comp_api_Frame_Hash f_1)) <| dS 7 (fun γ ρ B hb hd => op_sliceP lb tu46 tz5 (tl hd 5 9) .none .none hv_v_7) ?_
      refine DSteps.cons (j := 8) rfl (fun _ => rfl) (.runX (fun _ _ => rfl) (fun γ ρ B hb hd => ⟨.none, OpX.ghost (γ := Option Nat × Nat) (st' := fun q => setO ⟨ρ, (cown q.1 (rU UInt8) x_8 0 q.2) :: B, _⟩ (some 11) (ov (HDR q.1 0 (List.length x_8) q.2))) (fun q c => bif Nat.beq c 0 then eno q.1 else q.2) (op_appendL (j := 0) lb tu25 tu25 rfl tB5 rfl (Nat.lt_of_lt_of_le Nat.zero_lt_one (lE rfl)) (Nat.lt_of_lt_of_le Nat.zero_lt_one (lE rfl))  rfl (tl hd 4 8) (tl hd 6 10) hv_x_8) (fun q => by obtain ⟨q0, q1⟩ := q; cases q0 <;> exact Imp.refl)⟩) (fun _ _ => rfl) (fun _ _ => rfl)) ?_
      refine dS 9 (fun γ ρ B hb hd => op_nilCheck lb (tl hd 0 4) (fun e v h => by subst h; rfl)) <| dS 10 (fun γ ρ B hb hd => op_fieldAddr (off := 0) lb tf60_0 (tl hd 8 12)) <| dR 11 (fun γ ρ B hb hd => OpStep.at ⟨ρ, (cvar gb_2 (zq21 go_4 x_3 gc_5) ((), ())) :: B, _⟩ (setO ⟨ρ, (cvar gb_2 (zq21 (deo (γ 7 0)) x_8 (γ 7 1)) ((), ())) :: B, _⟩ _ _) (op_storeW (j := 0) tS25 (tl hd 9 13) (tl hd 7 11) rfl ((UpdR.fst (UpdR.self (by rfl))).at (by change 0 = (0 + 0); omega)) rfl)) ?_
      exact DSteps.nil)
     (by decide +kernel) (fun _ => rfl) rfl (fun _ => rfl) (fun _ => rfl) rfl (by decide) (by decide) (by decide +kernel) (fun _ d h => by cases h)
     (ρ' := fun γ => [])
     (X' := fun γ => [cown (deo (γ 7 0)) (rU UInt8) x_8 0 (γ 7 1), cvar gb_2 (zq21 (deo (γ 7 0)) x_8 (γ 7 1)) ((), ())])
     (fun γ ρ hb hd => .nil) (fun _ => rfl) (fun γ => ?_)
 generalize (deo (γ 7 0)) = go_9
 generalize (γ 7 1) = gc_10
 clear γ
 refine JQ.at ⟨[], [cown go_9 (rU UInt8) x_8 0 gc_10, cvar gb_2 (zq21 go_9 x_8 gc_10) ((), ())], []⟩ ?_
 replace hm := Option.some.inj hm
 subst hm
 exact JQ.done (js := [1, 0]) (ss := []) (go_9, gc_10) (.inr rfl) (.nil rfl) rfl .nil rfl rfl rfl

theorem sim_frame_writer_leaves (k : Nat) (f_1 : api_Frame) (x_3 : (List UInt8)) (gb_2 : Nat) (go_4 : Option Nat) (gc_5 : Nat) (r : (List UInt8)) (hm : frame_writer_leaves k f_1 x_3 = some r) : Sim Try.prog 52 [PTR gb_2 0, A r_api_Frame f_1] [cvar gb_2 (zq21 go_4 x_3 gc_5) ((), ()), cown go_4 (rU UInt8) x_3 0 gc_5] (γ := Option Nat × Nat) (fun q => [cvar gb_2 (rP (rW (HDR q.1 0 (List.length r) q.2)) r0) ((), ()), cown q.1 (rU UInt8) r 0 q.2]) (fun q => .tup []) := by
 unfold frame_writer_leaves at hm
 refine Sim.of Try.func52 rfl rfl (lE rfl) (fun e0 w0 => ?_)
 refine JC.at ⟨[(0, ov (PTR gb_2 0)), (1, ov (A r_api_Frame f_1))], [cvar gb_2 (zq21 go_4 x_3 gc_5) ((), ()), cown go_4 (rU UInt8) x_3 0 gc_5], []⟩ ?_
 refine jr ?_
 refine jx (op_boxA lb (.tmp rfl)) (fun q => ?_)
 obtain ⟨gb_6, hqq⟩ : ∃ z, z = q := ⟨_, rfl⟩
 subst hqq
 refine jn <| jr <| jc (op_fieldAddr (off := 91) lb tf50_10 (.tmp rfl)) <| jc (op_loadS (j := 2) lb tS47 (.tmp rfl) rfl (cT (comp_api_Frame_Leaves f_1) rfl) rfl rfl) <| jc (op_lenL lb tu47 (.tmp rfl)) ?_
 refine jc (op_move lb .cI) <| jn <| JC.block ?_
 refine JC.pre ?_ (JC.loop (γ := Option Nat × Nat) (stf := fun s q => ⟨[(0, ov (PTR gb_2 0)), (7, ov (S (rL (rV 32 (rU UInt8))) f_1.Leaves)), (8, ov (S (rI .i64) (List.length f_1.Leaves : Int))), (9, ov (S (rI .i64) s.2))], [cvar gb_2 (rP (rW (HDR q.1 0 (List.length s.1) q.2)) r0) ((), ()), cown q.1 (rU UInt8) s.1 0 q.2], []⟩) (q := (go_4, gc_5)) hm ?_)
 · exact (Imp.norm (js := [0, 0]) rfl (.cons rfl (.cons rfl (.cons rfl (.cons rfl .nil)))))
 intro s q x hx hr
 obtain ⟨b_7, x_8⟩ := s
 obtain ⟨go_9, gc_10⟩ := q
 change frame_writer_leaves.b1 k f_1 b_7 x_8 = some x at hx
 unfold frame_writer_leaves.b1 at hx
 refine JC.at ⟨[(0, ov (PTR gb_2 0)), (7, ov (S (rL (rV 32 (rU UInt8))) f_1.Leaves)), (8, ov (S (rI .i64) (List.length f_1.Leaves : Int))), (9, ov (S (rI .i64) x_8))], [cvar gb_2 (zq21 go_9 b_7 gc_10) ((), ()), cown go_9 (rU UInt8) b_7 0 gc_10], []⟩ ?_
 refine jr ?_
 replace hx := lt1_inv hx
 obtain ⟨v_11, hv_v_11, hx⟩ := hx
 refine jc (op_cmpI lb (.tmp rfl) (.tmp rfl) (congrArg some hv_v_11)) <| jn <| JC.seq ?_
 replace hx := iteB_inv hx
 rcases hx with ⟨hc2, hx⟩ | ⟨hc2, hx⟩
 · refine JC.condT (.tmp rfl) hc2 ?_
   refine JC.skip ?_
   refine JQ.then <| JC.seq <| JC.block <| jr ?_
   replace hx := bnd_inv hx
   obtain ⟨v_12, hv_v_12, hx⟩ := hx
   refine jc (op_indexAddrLg lb tu47 tz46 (.tmp rfl) (.tmp rfl) hv_v_12) <| jc (op_loadPAg lb tA46 (.tmp rfl) rfl) ?_
   refine jx (op_alloc lb tZ46 zr46) (fun q => ?_)
   obtain ⟨gb_13, hqq⟩ : ∃ z, z = q := ⟨_, rfl⟩
   subst hqq
   refine jc (op_storeA (j := 2) tA46 (.tmp rfl) (.tmp rfl) rfl (UpdR.self (by rfl)) rfl) <| jn ?_
   refine JC.pre (Imp.frzVar (j := 2) rfl (ImpK.slotP (s := 5) rfl (Comp.self (rV 32 (rU UInt8)) v_12) ImpK.refl)) ?_
   replace hx := bnd_inv hx
   obtain ⟨v_14, hv_v_14, hx⟩ := hx
   replace hx := bnd_inv hx
   obtain ⟨x_15, hv_x_15, hx⟩ := hx
   refine JC.anyE (kl := []) (kk := 0) (base := [(0, ov (PTR gb_2 0)), (5, ov (PT (rV 32 (rU UInt8)) v_12)), (7, ov (S (rL (rV 32 (rU UInt8))) f_1.Leaves)), (8, ov (S (rI .i64) (List.length f_1.Leaves : Int))), (9, ov (S (rI .i64) x_8))])
       (fs := fun γ => [⟨some 13, ov (PTR gb_2 0)⟩, ⟨some 14, ov (PTR gb_2 0)⟩, ⟨some 15, ov (PTR gb_2 0)⟩, ⟨some 16, ov (PTR gb_2 (0 + 0))⟩, ⟨some 17, ov (HDR go_9 0 (List.length b_7) gc_10)⟩, ⟨some 18, ov (S (rL (rU UInt8)) v_14)⟩, ⟨some 19, ov (HDR (deo (γ 6 0)) 0 (List.length x_15) (γ 6 1))⟩, ⟨some 20, ov (PTR gb_2 0)⟩, ⟨some 21, ov (PTR gb_2 (0 + 0))⟩, ⟨none, .one .any⟩])
       (rs := fun γ => [⟨cvar gb_2 (zq21 go_9 b_7 gc_10) ((), ()), none, (some 9), [4]⟩, ⟨cown go_9 (rU UInt8) b_7 0 gc_10, none, (some 6), []⟩, ⟨cown (deo (γ 6 0)) (rU UInt8) x_15 0 (γ 6 1), (some 6), none, []⟩, ⟨cvar gb_2 (zq21 (deo (γ 6 0)) x_15 (γ 6 1)) ((), ()), (some 9), none, []⟩])
       (ds := [13, 14, 15, 16, 17, 18, 19, 20, 21]) (bs := [0, 5, 7, 8, 9]) (afts := [[], [], [], [], [], [], [6, 7, 8, 9], [], [], []]) (js := [0, 0]) mixed (.cons rfl (.cons rfl (.cons rfl (.cons rfl (.cons rfl .nil))))) (fun _ => rfl)
       (by
      refine dS 1 (fun γ ρ B hb hd => op_move lb (.tmp (hb 0 _ rfl))) <| dS 2 (fun γ ρ B hb hd => op_move lb (.tmp (hb 0 _ rfl))) <| dS 3 (fun γ ρ B hb hd => op_nilCheck lb (tl hd 1 14) (fun e v h => by subst h; rfl)) <| dS 4 (fun γ ρ B hb hd => op_fieldAddr (off := 0) lb tf60_0 (tl hd 2 15)) <| dR 5 (fun γ ρ B hb hd => OpStep.lk ⟨ρ, (cvar gb_2 (zq21 go_9 b_7 gc_10) ((), ())) :: B, _⟩ (op_loadW (j := 0) lb tS25 (tl hd 3 16) rfl (Comp.trans (Comp.self (zq21 go_9 b_7 gc_10) ((), ())) (Comp.at' (Comp.inF (Comp.self (rW (HDR go_9 0 (List.length b_7) gc_10)) ()) (lE rfl)) (by rfl : _ = 0)) (lE rfl)))) ?_
      refine dS 6 (fun γ ρ B hb hd => op_sliceP lb tu46 tz5 (.tmp (hb 5 _ rfl)) .none .none hv_v_14) ?_
      refine DSteps.cons (j := 7) rfl (fun _ => rfl) (.runX (fun _ _ => rfl) (fun γ ρ B hb hd => ⟨.none, OpX.ghost (γ := Option Nat × Nat) (st' := fun q => setO ⟨ρ, (cown q.1 (rU UInt8) x_15 0 q.2) :: B, _⟩ (some 19) (ov (HDR q.1 0 (List.length x_15) q.2))) (fun q c => bif Nat.beq c 0 then eno q.1 else q.2) (op_appendL (j := 0) lb tu25 tu25 rfl tB5 rfl (Nat.lt_of_lt_of_le Nat.zero_lt_one (lE rfl)) (Nat.lt_of_lt_of_le Nat.zero_lt_one (lE rfl))  rfl (tl hd 4 17) (tl hd 5 18) hv_x_15) (fun q => by obtain ⟨q0, q1⟩ := q; cases q0 <;> exact Imp.refl)⟩) (fun _ _ => rfl) (fun _ _ => rfl)) ?_
      refine dS 8 (fun γ ρ B hb hd => op_nilCheck lb (tl hd 0 13) (fun e v h => by subst h; rfl)) <| dS 9 (fun γ ρ B hb hd => op_fieldAddr (off := 0) lb tf60_0 (tl hd 7 20)) <| dR 10 (fun γ ρ B hb hd => OpStep.at ⟨ρ, (cvar gb_2 (zq21 go_9 b_7 gc_10) ((), ())) :: B, _⟩ (setO ⟨ρ, (cvar gb_2 (zq21 (deo (γ 6 0)) x_15 (γ 6 1)) ((), ())) :: B, _⟩ _ _) (op_storeW (j := 0) tS25 (tl hd 8 21) (tl hd 6 19) rfl ((UpdR.fst (UpdR.self (by rfl))).at (by change 0 = (0 + 0); omega)) rfl)) ?_
      exact DSteps.nil)
       (by decide +kernel) (fun _ => rfl) rfl (fun _ => rfl) (fun _ => rfl) rfl (by decide) (by decide) (by decide +kernel) (fun _ d h => by cases h)
       (ρ' := fun γ => [(0, ov (PTR gb_2 0)), (7, ov (S (rL (rV 32 (rU UInt8))) f_1.Leaves)), (8, ov (S (rI .i64) (List.length f_1.Leaves : Int))), (9, ov (S (rI .i64) x_8))])
       (X' := fun γ => [cown (deo (γ 6 0)) (rU UInt8) x_15 0 (γ 6 1), cvar gb_2 (zq21 (deo (γ 6 0)) x_15 (γ 6 1)) ((), ())])
       (fun γ ρ hb hd => (.cons (hb 0 _ rfl (by decide)) (.cons (hb 7 _ rfl (by decide)) (.cons (hb 8 _ rfl (by decide)) (.cons (hb 9 _ rfl (by decide)) .nil))))) (fun _ => rfl) (fun γ => ?_)
   generalize (deo (γ 6 0)) = go_16
   generalize (γ 6 1) = gc_17
   clear γ
   refine JQ.at ⟨[(0, ov (PTR gb_2 0)), (7, ov (S (rL (rV 32 (rU UInt8))) f_1.Leaves)), (8, ov (S (rI .i64) (List.length f_1.Leaves : Int))), (9, ov (S (rI .i64) x_8))], [cown go_16 (rU UInt8) x_15 0 gc_17, cvar gb_2 (zq21 go_16 x_15 gc_17) ((), ())], []⟩ ?_
   refine JQ.outNB ?_
   refine JQ.then <| JC.region ?_
   replace hx := lt1_inv hx
   obtain ⟨v_18, hv_v_18, hx⟩ := hx
   refine jc (op_arI lb (.tmp rfl) .cI (congrArg some hv_v_18)) <| jmv rfl rfl <| JL.nil ?_
   replace hx := Option.some.inj hx
   first | subst hx | clear hx
   exact JQ.next (go_16, gc_17) rfl (Imp.norm (js := [1, 0]) rfl (.cons rfl (.cons rfl (.cons rfl (.cons rfl .nil)))))
 refine JC.condF (.tmp rfl) hc2 ?_
 refine JC.exit ?_
 refine JQ.outX ?_
 replace hx := Option.some.inj hx
 first | subst hx | clear hx
 have ht := hr _ rfl
 have hq1 := congrArg some ht
 clear hr ht
 refine JQ.outX ?_
 refine JQ.here ?_
 replace hq1 := Option.some.inj hq1
 subst hq1
 exact JQ.done (js := [0, 0]) (ss := []) (go_9, gc_10) (.inr rfl) (.nil rfl) rfl .nil rfl rfl rfl

theorem sim_frame_writer_buckets (k : Nat) (f_1 : api_Frame) (x_3 : (List UInt8)) (gb_2 : Nat) (go_4 : Option Nat) (gc_5 : Nat) (r : (List UInt8)) (hm : frame_writer_buckets k f_1 x_3 = some r) : Sim Try.prog 54 [PTR gb_2 0, A r_api_Frame f_1] [cvar gb_2 (zq21 go_4 x_3 gc_5) ((), ()), cown go_4 (rU UInt8) x_3 0 gc_5] (γ := Option Nat × Nat) (fun q => [cvar gb_2 (rP (rW (HDR q.1 0 (List.length r) q.2)) r0) ((), ()), cown q.1 (rU UInt8) r 0 q.2]) (fun q => .tup []) := by
 unfold frame_writer_buckets at hm
 refine Sim.of Try.func54 rfl rfl (lE rfl) (fun e0 w0 => ?_)
 refine JC.at ⟨[(0, ov (PTR gb_2 0)), (1, ov (A r_api_Frame f_1))], [cvar gb_2 (zq21 go_4 x_3 gc_5) ((), ()), cown go_4 (rU UInt8) x_3 0 gc_5], []⟩ ?_
 refine jr ?_
 refine jx (op_boxA lb (.tmp rfl)) (fun q => ?_)
 obtain ⟨gb_6, hqq⟩ : ∃ z, z = q := ⟨_, rfl⟩
 subst hqq
 refine jn <| JC.seq ?_
 replace hm := lt1_inv hm
 obtain ⟨v_7, hv_v_7, hm⟩ := hm
 replace hm := bnd_inv hm
 obtain ⟨x_8, hv_x_8, hm⟩ := hm
 refine JC.anyE (kl := []) (kk := 0) (base := [(0, ov (PTR gb_2 0)), (3, ov (PTR gb_6 0))])
     (fs := fun γ => [⟨some 6, ov (PTR gb_2 0)⟩, ⟨some 7, ov (PTR gb_2 0)⟩, ⟨some 8, ov (PTR gb_2 0)⟩, ⟨some 9, ov (PTR gb_2 (0 + 0))⟩, ⟨some 10, ov (HDR go_4 0 (List.length x_3) gc_5)⟩, ⟨some 11, ov (PTR gb_6 (0 + 92))⟩, ⟨some 12, ov (S (rL (rI .i64)) f_1.Buckets)⟩, ⟨some 13, ov (S (rI .i64) (List.length f_1.Buckets : Int))⟩, ⟨some 14, ov (S (rU UInt8) v_7)⟩, ⟨some 15, ov (S (rL (rU UInt8)) ([v_7] : (List UInt8)))⟩, ⟨some 16, ov (HDR (deo (γ 10 0)) 0 (List.length x_8) (γ 10 1))⟩, ⟨some 17, ov (PTR gb_2 0)⟩, ⟨some 18, ov (PTR gb_2 (0 + 0))⟩, ⟨none, .one .any⟩])
     (rs := fun γ => [⟨cvar gb_2 (zq21 go_4 x_3 gc_5) ((), ()), none, (some 13), [4]⟩, ⟨cown go_4 (rU UInt8) x_3 0 gc_5, none, (some 10), []⟩, ⟨cvar gb_6 r_api_Frame f_1, none, none, [6]⟩, ⟨cown (deo (γ 10 0)) (rU UInt8) x_8 0 (γ 10 1), (some 10), none, []⟩, ⟨cvar gb_2 (zq21 (deo (γ 10 0)) x_8 (γ 10 1)) ((), ()), (some 13), none, []⟩])
     (ds := [6, 7, 8, 9, 10, 11, 12, 13, 14, 15, 16, 17, 18]) (bs := [0, 3]) (afts := [[], [], [], [], [], [], [], [], [], [], [10, 11, 12, 13], [], [], []]) (js := [0, 0, 0]) mixed (.cons rfl (.cons rfl .nil)) (fun _ => rfl)
     (by
      refine dS 1 (fun γ ρ B hb hd => op_move lb (.tmp (hb 0 _ rfl))) <| dS 2 (fun γ ρ B hb hd => op_move lb (.tmp (hb 0 _ rfl))) <| dS 3 (fun γ ρ B hb hd => op_nilCheck lb (tl hd 1 7) (fun e v h => by subst h; rfl)) <| dS 4 (fun γ ρ B hb hd => op_fieldAddr (off := 0) lb tf60_0 (tl hd 2 8)) <| dR 5 (fun γ ρ B hb hd => OpStep.lk ⟨ρ, (cvar gb_2 (zq21 go_4 x_3 gc_5) ((), ())) :: B, _⟩ (op_loadW (j := 0) lb tS25 (tl hd 3 9) rfl (Comp.trans (Comp.self (zq21 go_4 x_3 gc_5) ((), ())) (Comp.at' (Comp.inF (Comp.self (rW (HDR go_4 0 (List.length x_3) gc_5)) ()) (lE rfl)) (by rfl : _ = 0)) (lE rfl)))) ?_
      refine dS 6 (fun γ ρ B hb hd => op_fieldAddr (off := 92) lb tf50_11 (.tmp (hb 3 _ rfl))) <| dR 7 (fun γ ρ B hb hd => OpStep.lk ⟨ρ, (cvar gb_6 r_api_Frame f_1) :: B, _⟩ (op_loadS (j := 0) lb tS48 (tl hd 5 11) rfl (cT (comp_api_Frame_Buckets f_1) rfl) rfl rfl)) <| dS 8 (fun γ ρ B hb hd => op_lenL lb tu48 (tl hd 6 12)) <| dS 9 (fun γ ρ B hb hd => op_convIU lb tu3 tu5 (tl hd 7 13) hv_v_7) <| dS 10 (fun γ ρ B hb hd => op_buildF (r := (rU UInt8)) lb tu25 tz5 tZ5 rfl (lE rfl) (.S rfl (tl hd 8 14) .nil) rfl) ?_
      refine DSteps.cons (j := 11) rfl (fun _ => rfl) (.runX (fun _ _ => rfl) (fun γ ρ B hb hd => ⟨.none, OpX.ghost (γ := Option Nat × Nat) (st' := fun q => setO ⟨ρ, (cown q.1 (rU UInt8) x_8 0 q.2) :: B, _⟩ (some 16) (ov (HDR q.1 0 (List.length x_8) q.2))) (fun q c => bif Nat.beq c 0 then eno q.1 else q.2) (op_appendL (j := 0) lb tu25 tu25 rfl tB5 rfl (Nat.lt_of_lt_of_le Nat.zero_lt_one (lE rfl)) (Nat.lt_of_lt_of_le Nat.zero_lt_one (lE rfl))  rfl (tl hd 4 10) (tl hd 9 15) hv_x_8) (fun q => by obtain ⟨q0, q1⟩ := q; cases q0 <;> exact Imp.refl)⟩) (fun _ _ => rfl) (fun _ _ => rfl)) ?_
      refine dS 12 (fun γ ρ B hb hd => op_nilCheck lb (tl hd 0 6) (fun e v h => by subst h; rfl)) <| dS 13 (fun γ ρ B hb hd => op_fieldAddr (off := 0) lb tf60_0 (tl hd 11 17)) <| dR 14 (fun γ ρ B hb hd => OpStep.at ⟨ρ, (cvar gb_2 (zq21 go_4 x_3 gc_5) ((), ())) :: B, _⟩ (setO ⟨ρ, (cvar gb_2 (zq21 (deo (γ 10 0)) x_8 (γ 10 1)) ((), ())) :: B, _⟩ _ _) (op_storeW (j := 0) tS25 (tl hd 12 18) (tl hd 10 16) rfl ((UpdR.fst (UpdR.self (by rfl))).at (by change 0 = (0 + 0); omega)) rfl)) ?_
      exact DSteps.nil)
     (by decide +kernel) (fun _ => rfl) rfl (fun _ => rfl) (fun _ => rfl) rfl (by decide) (by decide) (by decide +kernel) (fun _ d h => by cases h)
     (ρ' := fun γ => [(0, ov (PTR gb_2 0)), (3, ov (PTR gb_6 0))])
     (X' := fun γ => [cvar gb_6 r_api_Frame f_1, cown (deo (γ 10 0)) (rU UInt8) x_8 0 (γ 10 1), cvar gb_2 (zq21 (deo (γ 10 0)) x_8 (γ 10 1)) ((), ())])
     (fun γ ρ hb hd => (.cons (hb 0 _ rfl (by decide)) (.cons (hb 3 _ rfl (by decide)) .nil))) (fun _ => rfl) (fun γ => ?_)
 generalize (deo (γ 10 0)) = go_9
 generalize (γ 10 1) = gc_10
 clear γ
 refine JQ.at ⟨[(0, ov (PTR gb_2 0)), (3, ov (PTR gb_6 0))], [cvar gb_6 r_api_Frame f_1, cown go_9 (rU UInt8) x_8 0 gc_10, cvar gb_2 (zq21 go_9 x_8 gc_10) ((), ())], []⟩ ?_
 refine JQ.then ?_
 replace hm := bnd_inv hm
 obtain ⟨b_22, hx1, hq1⟩ := hm
 refine JC.seqJ (γ := Option Nat × Nat) (stj := fun q => ⟨[(0, ov (PTR gb_2 0)), (3, ov (PTR gb_6 0))], [cvar gb_2 (rP (rW (HDR q.1 0 (List.length b_22) q.2)) r0) ((), ()), cown q.1 (rU UInt8) b_22 0 q.2, cvar gb_6 r_api_Frame f_1], []⟩) (fun q => ?_) ?_
 · obtain ⟨go_23, gc_24⟩ := q
   refine JC.at ⟨[(0, ov (PTR gb_2 0)), (3, ov (PTR gb_6 0))], [cvar gb_2 (zq21 go_23 b_22 gc_24) ((), ()), cown go_23 (rU UInt8) b_22 0 gc_24, cvar gb_6 r_api_Frame f_1], []⟩ ?_
   refine jr <| jmv rfl rfl <| jc (op_fieldAddr (off := 3) lb tf50_3 (.tmp rfl)) <| jc (op_loadS (j := 2) lb tS22 (.tmp rfl) rfl (cT (comp_api_Frame_Items f_1) rfl) rfl rfl) ?_
   replace hq1 := bnd_inv hq1
   obtain ⟨x_25, hv_x_25, hq1⟩ := hq1
   refine jx (op_call (js := [0, 0]) ld cl15 (sim_frame_writer_items'3 k f_1.Items b_22 gb_2 go_23 gc_24 x_25 hv_x_25) .func (.cons (.tmp rfl) (.cons (.tmp rfl) .nil)) rfl) (fun q => ?_)
   obtain ⟨go_26, gc_27⟩ := q
   refine jn <| jr <| jmv rfl rfl <| jc (op_loadA (j := 2) lb tA50 (.tmp rfl) rfl (Comp.self r_api_Frame f_1) rfl) ?_
   replace hq1 := bnd_inv hq1
   obtain ⟨x_28, hv_x_28, hq1⟩ := hq1
   refine jx (op_call (js := [0, 0]) ld cl78 (sim_frame_writer_seen k f_1 x_25 gb_2 go_26 gc_27 x_28 hv_x_28) .func (.cons (.tmp rfl) (.cons (.tmp rfl) .nil)) rfl) (fun q => ?_)
   obtain ⟨go_29, gc_30⟩ := q
   refine jn <| JC.region <| jmv rfl rfl ?_
   refine JL.sub ⟨[(3, ov (PTR gb_6 0)), (45, ov (PTR gb_2 0))], [cvar gb_2 (zq21 go_29 x_28 gc_30) ((), ()), cown go_29 (rU UInt8) x_28 0 gc_30, cvar gb_6 r_api_Frame f_1], []⟩ (.cons rfl (.cons rfl .nil)) rfl rfl ?_
   refine jc (op_fieldAddr (off := 93) lb tf50_12 (.tmp rfl)) <| jc (op_loadS (j := 2) lb tS4 (.tmp rfl) rfl (cT (comp_api_Frame_Reply f_1) rfl) rfl rfl) ?_
   replace hq1 := bnd_inv hq1
   obtain ⟨x_31, hv_x_31, hq1⟩ := hq1
   refine jx (op_call (js := [0, 0]) ld cl36 (sim_frame_writer_flag k f_1.Reply x_28 gb_2 go_29 gc_30 x_31 hv_x_31) .func (.cons (.tmp rfl) (.cons (.tmp rfl) .nil)) rfl) (fun q => ?_)
   obtain ⟨go_32, gc_33⟩ := q
   refine JL.nil ?_
   replace hq1 := Option.some.inj hq1
   subst hq1
   exact JQ.done (js := [0, 0]) (ss := []) (go_32, gc_33) (.inr rfl) (.nil rfl) rfl .nil rfl rfl rfl
 refine jr <| jc (op_fieldAddr (off := 92) lb tf50_11 (.tmp rfl)) <| jc (op_loadS (j := 0) lb tS48 (.tmp rfl) rfl (cT (comp_api_Frame_Buckets f_1) rfl) rfl rfl) <| jc (op_lenL lb tu48 (.tmp rfl)) <| jc (op_move lb .cI) ?_
 refine jn <| JC.block ?_
 refine JC.pre ?_ (JC.loop (γ := Option Nat × Nat) (stf := fun s q => ⟨[(0, ov (PTR gb_2 0)), (3, ov (PTR gb_6 0)), (20, ov (S (rL (rI .i64)) f_1.Buckets)), (21, ov (S (rI .i64) (List.length f_1.Buckets : Int))), (22, ov (S (rI .i64) s.2))], [cvar gb_2 (rP (rW (HDR q.1 0 (List.length s.1) q.2)) r0) ((), ()), cown q.1 (rU UInt8) s.1 0 q.2, cvar gb_6 r_api_Frame f_1], []⟩) (q := (go_9, gc_10)) hx1 ?_)
 · exact (Imp.norm (js := [2, 1, 0]) rfl (.cons rfl (.cons rfl (.cons rfl (.cons rfl (.cons rfl .nil))))))
 intro s q x hx hr
 obtain ⟨b_11, x_12⟩ := s
 obtain ⟨go_13, gc_14⟩ := q
 change frame_writer_buckets.b1 k f_1 b_11 x_12 = some x at hx
 unfold frame_writer_buckets.b1 at hx
 refine JC.at ⟨[(0, ov (PTR gb_2 0)), (3, ov (PTR gb_6 0)), (20, ov (S (rL (rI .i64)) f_1.Buckets)), (21, ov (S (rI .i64) (List.length f_1.Buckets : Int))), (22, ov (S (rI .i64) x_12))], [cvar gb_2 (zq21 go_13 b_11 gc_14) ((), ()), cown go_13 (rU UInt8) b_11 0 gc_14, cvar gb_6 r_api_Frame f_1], []⟩ ?_
 refine jr ?_
 replace hx := lt1_inv hx
 obtain ⟨v_15, hv_v_15, hx⟩ := hx
 refine jc (op_cmpI lb (.tmp rfl) (.tmp rfl) (congrArg some hv_v_15)) <| jn <| JC.seq ?_
 replace hx := iteB_inv hx
 rcases hx with ⟨hc3, hx⟩ | ⟨hc3, hx⟩
 · refine JC.condT (.tmp rfl) hc3 ?_
   refine JC.skip ?_
   refine JQ.then <| JC.seq <| JC.block <| jr ?_
   replace hx := bnd_inv hx
   obtain ⟨v_16, hv_v_16, hx⟩ := hx
   refine jc (op_indexAddrLg lb tu48 tz3 (.tmp rfl) (.tmp rfl) hv_v_16) <| jc (op_loadPSg lb tS3 rfl (.tmp rfl) rfl) <| jc (op_assign lb (.tmp rfl)) <| jn <| JC.region ?_
   refine jmv rfl rfl <| jmv rfl rfl <| jc (op_nilCheck lb (.tmp rfl) (fun e v h => by subst h; rfl)) <| jc (op_fieldAddr (off := 0) lb tf60_0 (.tmp rfl)) <| jc (op_loadW (j := 0) lb tS25 (.tmp rfl) rfl (Comp.trans (Comp.self (zq21 go_13 b_11 gc_14) ((), ())) (Comp.at' (Comp.inF (Comp.self (rW (HDR go_13 0 (List.length b_11) gc_14)) ()) (lE rfl)) (by rfl : _ = 0)) (lE rfl))) ?_
   refine jmv rfl rfl ?_
   replace hx := lt1_inv hx
   obtain ⟨v_17, hv_v_17, hx⟩ := hx
   refine jc (op_convIU lb tu3 tu5 (.tmp rfl) hv_v_17) <| jc (op_buildF (r := (rU UInt8)) lb tu25 tz5 tZ5 rfl (lE rfl) (.S rfl (.tmp rfl) .nil) rfl) ?_
   refine JL.sub ⟨[(0, ov (PTR gb_2 0)), (3, ov (PTR gb_6 0)), (20, ov (S (rL (rI .i64)) f_1.Buckets)), (21, ov (S (rI .i64) (List.length f_1.Buckets : Int))), (22, ov (S (rI .i64) x_12)), (26, ov (PTR gb_2 0)), (30, ov (HDR go_13 0 (List.length b_11) gc_14)), (33, ov (S (rL (rU UInt8)) ([v_17] : (List UInt8))))], [cvar gb_2 (zq21 go_13 b_11 gc_14) ((), ()), cown go_13 (rU UInt8) b_11 0 gc_14, cvar gb_6 r_api_Frame f_1], []⟩ (.cons rfl (.cons rfl (.cons rfl (.cons rfl (.cons rfl (.cons rfl (.cons rfl (.cons rfl .nil)))))))) rfl rfl ?_
   replace hx := bnd_inv hx
   obtain ⟨x_18, hv_x_18, hx⟩ := hx
   refine jx (op_appendL (j := 1) lb tu25 tu25 rfl tB5 rfl (Nat.lt_of_lt_of_le Nat.zero_lt_one (lE rfl)) (Nat.lt_of_lt_of_le Nat.zero_lt_one (lE rfl))  rfl (.tmp rfl) (.tmp rfl) hv_x_18) (fun q => ?_)
   obtain ⟨go_19, gc_20⟩ := q
   refine jc (op_nilCheck lb (.tmp rfl) (fun e v h => by subst h; rfl)) <| jc (op_fieldAddr (off := 0) lb tf60_0 (.tmp rfl)) <| jc (op_storeW (j := 0) tS25 (.tmp rfl) (.tmp rfl) rfl ((UpdR.fst (UpdR.self (by rfl))).at (by change 0 = (0 + 0); omega)) rfl) <| JL.nil ?_
   refine JQ.outNB ?_
   refine JQ.then <| JC.region ?_
   replace hx := lt1_inv hx
   obtain ⟨v_21, hv_v_21, hx⟩ := hx
   refine jc (op_arI lb (.tmp rfl) .cI (congrArg some hv_v_21)) <| jmv rfl rfl <| JL.nil ?_
   replace hx := Option.some.inj hx
   first | subst hx | clear hx
   exact JQ.next (go_19, gc_20) rfl (Imp.norm (js := [0, 0, 0]) rfl (.cons rfl (.cons rfl (.cons rfl (.cons rfl (.cons rfl .nil))))))
 refine JC.condF (.tmp rfl) hc3 ?_
 refine JC.exit ?_
 refine JQ.outX ?_
 replace hx := Option.some.inj hx
 first | subst hx | clear hx
 have ht := hr _ rfl
 have hq2 := congrArg some ht
 clear hr ht
 refine JQ.outX ?_
 refine JQ.here ?_
 replace hq2 := Option.some.inj hq2
 first | subst hq2 | clear hq2
 exact JQ.join (go_13, gc_14) (Imp.norm (js := [0, 0, 0]) rfl (.cons rfl (.cons rfl .nil)))

end Go.Proofs.Ytklnihlchhhhlaa
