/- Walks. -/
import Derived.Test.YtklnihlchhhhlaaT
import Derived.Test.YtklnihlchhhhlaaW0
import Derived.Test.YtklnihlchhhhlaaW11
import Derived.Test.YtklnihlchhhhlaaW8
namespace Go.Proofs.Ytklnihlchhhhlaa
open Go Fw
set_option linter.unusedVariables false
set_option maxRecDepth 100000
set_option maxHeartbeats 4000000

theorem sim_slices_IndexFuncapi_Item_api_Item'2 (k : Nat) (s_1 : (List api_Item)) (r : Int) (hm : slices_IndexFuncapi_Item_api_Item'2 k s_1 = some r) : Sim Try.prog 31 [S (rL r_api_Item) s_1, CLO 13 []] [] (γ := Unit) (fun q => []) (fun q => .one (.val (S (rI .i64) r))) := by
 unfold slices_IndexFuncapi_Item_api_Item'2 at hm
 refine Sim.of Try.func31 rfl rfl (lE rfl) (fun e0 w0 => ?_)
 refine JC.at ⟨[(0, ov (S (rL r_api_Item) s_1)), (1, ov (CLO 13 []))], [], []⟩ ?_
 refine jr <| jc (op_assign lb .cI) <| jn ?_
 replace hm := bnd_inv hm
 obtain ⟨tv1, hx1, hq1⟩ := hm
 refine JC.seqK (α := Unit) (γ := Unit) (stj := fun v q => ⟨[], [], []⟩) (p := fun v => tv1 = (.inl v)) (fun v q hv => ?_) ?_
 · subst hv
   skip
   obtain _ := q
   dsimp only at hq1
   refine JC.at ⟨[], [], []⟩ ?_
   refine jr <| jc (op_assign lb .cI) <| jn ?_
   refine JC.ret ?_
   replace hq1 := Option.some.inj hq1
   subst hq1
   exact JQ.done (js := []) (ss := [.val (S (rI .i64) (-1 : Int))]) () (.inl rfl) (.nil rfl) rfl (.cons (.tmp rfl) .nil) rfl rfl rfl
 refine jr <| jmv rfl rfl <| jc (op_lenL lb tu22 (.tmp rfl)) <| jc (op_move lb .cI) <| jn ?_
 refine JC.block ?_
 replace hx1 := bnd_inv hx1
 obtain ⟨tv2, hL2, hq2⟩ := hx1
 refine JC.pre ?_ (JC.loop (γ := Unit) (stf := fun s q => ⟨[(0, ov (S (rL r_api_Item) s_1)), (1, ov (CLO 13 [])), (7, ov (S (rI .i64) (List.length s_1 : Int))), (8, ov (S (rI .i64) s))], [], []⟩) (q := ()) hL2 ?_)
 · exact (Imp.norm (js := []) rfl (.cons rfl (.cons rfl (.cons rfl (.cons rfl .nil)))))
 intro x_2 q x hx hr
 obtain _ := q
 change slices_IndexFuncapi_Item_api_Item'2.b1 k s_1 x_2 = some x at hx
 unfold slices_IndexFuncapi_Item_api_Item'2.b1 at hx
 refine JC.at ⟨[(0, ov (S (rL r_api_Item) s_1)), (1, ov (CLO 13 [])), (7, ov (S (rI .i64) (List.length s_1 : Int))), (8, ov (S (rI .i64) x_2))], [], []⟩ ?_
 refine jr ?_
 replace hx := lt1_inv hx
 obtain ⟨v_3, hv_v_3, hx⟩ := hx
 refine jc (op_cmpI lb (.tmp rfl) (.tmp rfl) (congrArg some hv_v_3)) <| jn <| JC.seq ?_
 replace hx := iteB_inv hx
 rcases hx with ⟨hc3, hx⟩ | ⟨hc3, hx⟩
 · refine JC.condT (.tmp rfl) hc3 ?_
   refine JC.skip ?_
   refine JQ.then <| JC.seq <| JC.block <| jr <| jmv rfl rfl ?_
   refine jc (op_assign lb (.tmp rfl)) <| jn <| jr <| jmv rfl rfl <| jmv rfl rfl ?_
   refine jmv rfl rfl ?_
   replace hx := bnd_inv hx
   obtain ⟨v_4, hv_v_4, hx⟩ := hx
   refine jc (op_indexAddrLg lb tu22 tz33 (.tmp rfl) (.tmp rfl) hv_v_4) <| jc (op_loadPAg lb tA33 (.tmp rfl) rfl) ?_
   replace hx := bnd_inv hx
   obtain ⟨v_5, hv_v_5, hx⟩ := hx
   refine jx (op_call (js := []) ld cl13 (sim_frame_ItemBytes_1 k v_4 v_5 hv_v_5) (.tmp rfl) (.cons (.tmp rfl) .nil) rfl) (fun _ => ?_)
   refine jn ?_
   replace hx := iteB_inv hx
   rcases hx with ⟨hc4, hx⟩ | ⟨hc4, hx⟩
   · refine JC.condT (.tmp rfl) hc4 ?_
     refine jr <| jmv rfl rfl <| jc (op_assign lb (.tmp rfl)) <| jn ?_
     refine JC.ret ?_
     refine JQ.outRB ?_
     refine JQ.outR ?_
     replace hx := Option.some.inj hx
     first | subst hx | clear hx
     have ht := hr _ rfl
     clear hr
     first | subst ht | clear ht
     dsimp only at hq2
     refine JQ.outR ?_
     refine JQ.outRB ?_
     replace hq2 := Option.some.inj hq2
     first | subst hq2 | clear hq2
     dsimp only at hq1
     refine JQ.outR ?_
     replace hq1 := Option.some.inj hq1
     subst hq1
     exact JQ.done (js := []) (ss := [.val (S (rI .i64) x_2)]) () (.inl rfl) (.nil rfl) rfl (.cons (.tmp rfl) .nil) rfl rfl rfl
   refine JC.condF (.tmp rfl) hc4 ?_
   refine JC.skip ?_
   refine JQ.outNB ?_
   refine JQ.then <| JC.region ?_
   replace hx := lt1_inv hx
   obtain ⟨v_6, hv_v_6, hx⟩ := hx
   refine jc (op_arI lb (.tmp rfl) .cI (congrArg some hv_v_6)) <| jmv rfl rfl <| JL.nil ?_
   replace hx := Option.some.inj hx
   first | subst hx | clear hx
   exact JQ.next () rfl (Imp.norm (js := []) rfl (.cons rfl (.cons rfl (.cons rfl (.cons rfl .nil)))))
 refine JC.condF (.tmp rfl) hc3 ?_
 refine JC.exit ?_
 refine JQ.outX ?_
 replace hx := Option.some.inj hx
 first | subst hx | clear hx
 have ht := hr _ rfl
 clear hr
 first | subst ht | clear ht
 dsimp only at hq2
 refine JQ.outX ?_
 refine JQ.here ?_
 replace hq2 := Option.some.inj hq2
 first | subst hq2 | clear hq2
 exact JQ.joinK () () rfl (Imp.norm (js := []) rfl .nil)

theorem sim_slices_ContainsFuncapi_Item_api_Item'2 (k : Nat) (s_1 : (List api_Item)) (r : Bool) (hm : slices_ContainsFuncapi_Item_api_Item'2 k s_1 = some r) : Sim Try.prog 12 [S (rL r_api_Item) s_1, CLO 13 []] [] (γ := Unit) (fun q => []) (fun q => .one (.val (S rB r))) := by
 unfold slices_ContainsFuncapi_Item_api_Item'2 at hm
 refine Sim.of Try.func12 rfl rfl (lE rfl) (fun e0 w0 => ?_)
 refine JC.at ⟨[(0, ov (S (rL r_api_Item) s_1)), (1, ov (CLO 13 []))], [], []⟩ ?_
 refine jr <| jc (op_assign lb .cB) <| jn <| jr <| jmv rfl rfl ?_
 refine jmv rfl rfl ?_
 replace hm := bnd_inv hm
 obtain ⟨v_2, hv_v_2, hm⟩ := hm
 refine jx (op_call (js := []) ld cl31 (sim_slices_IndexFuncapi_Item_api_Item'2 k s_1 v_2 hv_v_2) .func (.cons (.tmp rfl) (.cons (.tmp rfl) .nil)) rfl) (fun _ => ?_)
 replace hm := lt1_inv hm
 obtain ⟨v_3, hv_v_3, hm⟩ := hm
 refine jc (op_cmpI lb (.tmp rfl) .cI (congrArg some hv_v_3)) <| jc (op_assign lb (.tmp rfl)) <| jn ?_
 refine JC.ret ?_
 replace hm := Option.some.inj hm
 subst hm
 exact JQ.done (js := []) (ss := [.val (S rB v_3)]) () (.inl rfl) (.nil rfl) rfl (.cons (.tmp rfl) .nil) rfl rfl rfl

theorem sim_frame_writer_put'4 (k : Nat) (b_1 : (List UInt8)) (v_2 : Int) (gb_3 : Nat) (r : (List UInt8)) (hm : frame_writer_put'4 k b_1 v_2 = some r) : Sim Try.prog 33 [PTR gb_3 0, S (rL (rU UInt8)) b_1, S (rI .i64) v_2] [cvar gb_3 (rP (rW (HDR none 0 0 0)) r0) ((), ())] (γ := Option Nat × Nat) (fun q => [cvar gb_3 (rP (rW (HDR q.1 0 (List.length r) q.2)) r0) ((), ()), cown q.1 (rU UInt8) r 0 q.2]) (fun q => .tup []) := by
 unfold frame_writer_put'4 at hm
 refine Sim.of Try.func33 rfl rfl (lE rfl) (fun e0 w0 => ?_)
 refine JC.at ⟨[(0, ov (PTR gb_3 0)), (1, ov (S (rL (rU UInt8)) b_1)), (2, ov (S (rI .i64) v_2))], [cvar gb_3 (rP (rW (HDR none 0 0 0)) r0) ((), ())], []⟩ ?_
 refine JC.region <| jmv rfl rfl <| jmv rfl rfl <| jc (op_nilCheck lb (.tmp rfl) (fun e v h => by subst h; rfl)) <| jc (op_fieldAddr (off := 0) lb tf60_0 (.tmp rfl)) ?_
 refine jc (op_loadW (j := 0) lb tS25 (.tmp rfl) rfl (Comp.trans (Comp.self (rP (rW (HDR none 0 0 0)) r0) ((), ())) (Comp.at' (Comp.inF (Comp.self (rW (HDR none 0 0 0)) ()) (lE rfl)) (by rfl : _ = 0)) (lE rfl))) <| jmv rfl rfl ?_
 replace hm := bnd_inv hm
 obtain ⟨v_4, hv_v_4, hm⟩ := hm
 refine JL.pre (Imp.nilown (rU UInt8)) ?_
 refine jx (op_appendL (j := 1) lb tu25 tu25 rfl tB5 rfl (Nat.lt_of_lt_of_le Nat.zero_lt_one (lE rfl)) (Nat.lt_of_lt_of_le Nat.zero_lt_one (lE rfl))  rfl (.tmp rfl) (.tmp rfl) hv_v_4) (fun q => ?_)
 obtain ⟨go_5, gc_6⟩ := q
 refine JL.sub ⟨[(6, ov (PTR gb_3 0)), (12, ov (HDR go_5 0 (List.length v_4) gc_6))], [cvar gb_3 (rP (rW (HDR none 0 0 0)) r0) ((), ()), cown go_5 (rU UInt8) v_4 0 gc_6], []⟩ (.cons rfl (.cons rfl .nil)) rfl rfl ?_
 refine jc (op_nilCheck lb (.tmp rfl) (fun e v h => by subst h; rfl)) <| jc (op_fieldAddr (off := 0) lb tf60_0 (.tmp rfl)) <| jc (op_storeW (j := 0) tS25 (.tmp rfl) (.tmp rfl) rfl ((UpdR.fst (UpdR.self (by rfl))).at (by change 0 = (0 + 0); omega)) rfl) <| JL.nil ?_
 replace hm := Option.some.inj hm
 subst hm
 exact JQ.done (js := [0, 0]) (ss := []) (go_5, gc_6) (.inr rfl) (.nil rfl) rfl .nil rfl rfl rfl

theorem sim_frame_writer_items'4 (k : Nat) (l_1 : (List api_Item)) (gb_2 : Nat) (r : (List UInt8)) (hm : frame_writer_items'4 k l_1 = some r) : Sim Try.prog 15 [PTR gb_2 0, S (rL r_api_Item) l_1] [cvar gb_2 (rP (rW (HDR none 0 0 0)) r0) ((), ())] (γ := Option Nat × Nat) (fun q => [cvar gb_2 (rP (rW (HDR q.1 0 (List.length r) q.2)) r0) ((), ()), cown q.1 (rU UInt8) r 0 q.2]) (fun q => .tup []) := by
 unfold frame_writer_items'4 at hm
 refine Sim.of Try.func15 rfl rfl (lE rfl) (fun e0 w0 => ?_)
 refine JC.at ⟨[(0, ov (PTR gb_2 0)), (1, ov (S (rL r_api_Item) l_1))], [cvar gb_2 (rP (rW (HDR none 0 0 0)) r0) ((), ())], []⟩ ?_
 refine jr <| jmv rfl rfl <| jmv rfl rfl <| jc (op_lenL lb tu22 (.tmp rfl)) ?_
 replace hm := lt1_inv hm
 obtain ⟨v_3, hv_v_3, hm⟩ := hm
 refine jc (op_convIU lb tu3 tu27 (.tmp rfl) hv_v_3) ?_
 replace hm := bnd_inv hm
 obtain ⟨⟨v_4, v_5⟩, hv_v_4, hm⟩ := hm
 refine jx (op_call (js := []) ld cl34 (sim_wire_Put k v_3 (2 : Int) (v_4, v_5) hv_v_4) .func (.cons (.tmp rfl) (.cons .cI .nil)) rfl) (fun q => ?_)
 obtain ⟨go_6, gc_7⟩ := q
 refine jc (op_extract (i := 0) lb (.tmp rfl) rfl) <| jc (op_extract (i := 1) lb (.tmp rfl) rfl) ?_
 replace hm := bnd_inv hm
 obtain ⟨x_8, hv_x_8, hm⟩ := hm
 refine JL.pre (Imp.frz (j := 0) rfl (ImpK.tupAt (s := 10) (i := 0) (q := HL go_6 (rU UInt8) v_4 gc_7) rfl rfl ownHL (ImpK.slotH (s := 11) rfl ImpK.refl))) ?_
 refine jx (op_call (js := [1]) ld cl33 (sim_frame_writer_put'4 k v_4 v_5 gb_2 x_8 hv_x_8) .func (.cons (.tmp rfl) (.cons (HasO.wk (.tmp rfl) wkHL) (.cons (.tmp rfl) .nil))) rfl) (fun q => ?_)
 obtain ⟨go_9, gc_10⟩ := q
 refine JL.nrm ⟨[(0, ov (PTR gb_2 0)), (1, ov (S (rL r_api_Item) l_1))], [cvar gb_2 (zq21 go_9 x_8 gc_10) ((), ()), cown go_9 (rU UInt8) x_8 0 gc_10], []⟩ [0, 0] rfl (.cons rfl (.cons rfl .nil)) rfl ?_
 refine jn <| jr <| jmv rfl rfl <| jc (op_lenL lb tu22 (.tmp rfl)) <| jc (op_move lb .cI) ?_
 refine jn <| JC.block ?_
 refine JC.pre ?_ (JC.loop (γ := Option Nat × Nat) (stf := fun s q => ⟨[(0, ov (PTR gb_2 0)), (14, ov (S (rL r_api_Item) l_1)), (15, ov (S (rI .i64) (List.length l_1 : Int))), (16, ov (S (rI .i64) s.2))], [cvar gb_2 (rP (rW (HDR q.1 0 (List.length s.1) q.2)) r0) ((), ()), cown q.1 (rU UInt8) s.1 0 q.2], []⟩) (q := (go_9, gc_10)) hm ?_)
 · exact (Imp.norm (js := [0, 0]) rfl (.cons rfl (.cons rfl (.cons rfl (.cons rfl .nil)))))
 intro s q x hx hr
 obtain ⟨b_11, x_12⟩ := s
 obtain ⟨go_13, gc_14⟩ := q
 change frame_writer_items'4.b1 k l_1 b_11 x_12 = some x at hx
 unfold frame_writer_items'4.b1 at hx
 refine JC.at ⟨[(0, ov (PTR gb_2 0)), (14, ov (S (rL r_api_Item) l_1)), (15, ov (S (rI .i64) (List.length l_1 : Int))), (16, ov (S (rI .i64) x_12))], [cvar gb_2 (zq21 go_13 b_11 gc_14) ((), ()), cown go_13 (rU UInt8) b_11 0 gc_14], []⟩ ?_
 refine jr ?_
 replace hx := lt1_inv hx
 obtain ⟨v_15, hv_v_15, hx⟩ := hx
 refine jc (op_cmpI lb (.tmp rfl) (.tmp rfl) (congrArg some hv_v_15)) <| jn <| JC.seq ?_
 replace hx := iteB_inv hx
 rcases hx with ⟨hc2, hx⟩ | ⟨hc2, hx⟩
 · refine JC.condT (.tmp rfl) hc2 ?_
   refine JC.skip ?_
   refine JQ.then ?_
   replace hx := bnd_inv hx
   obtain ⟨b_43, hx3, hq3⟩ := hx
   refine JC.seqJ (γ := Option Nat × Nat) (stj := fun q => ⟨[(0, ov (PTR gb_2 0)), (14, ov (S (rL r_api_Item) l_1)), (15, ov (S (rI .i64) (List.length l_1 : Int))), (16, ov (S (rI .i64) x_12))], [cvar gb_2 (rP (rW (HDR q.1 0 (List.length b_43) q.2)) r0) ((), ()), cown q.1 (rU UInt8) b_43 0 q.2], []⟩) (fun q => ?_) ?_
   · obtain ⟨go_44, gc_45⟩ := q
     refine JC.at ⟨[(0, ov (PTR gb_2 0)), (14, ov (S (rL r_api_Item) l_1)), (15, ov (S (rI .i64) (List.length l_1 : Int))), (16, ov (S (rI .i64) x_12))], [cvar gb_2 (zq21 go_44 b_43 gc_45) ((), ()), cown go_44 (rU UInt8) b_43 0 gc_45], []⟩ ?_
     refine JC.region ?_
     replace hq3 := lt1_inv hq3
     obtain ⟨v_46, hv_v_46, hq3⟩ := hq3
     refine jc (op_arI lb (.tmp rfl) .cI (congrArg some hv_v_46)) <| jmv rfl rfl <| JL.nil ?_
     replace hq3 := Option.some.inj hq3
     first | subst hq3 | clear hq3
     exact JQ.next (go_44, gc_45) rfl (Imp.norm (js := [0, 0]) rfl (.cons rfl (.cons rfl (.cons rfl (.cons rfl .nil)))))
   refine JC.block <| jr ?_
   replace hx3 := bnd_inv hx3
   obtain ⟨v_16, hv_v_16, hx3⟩ := hx3
   refine jc (op_indexAddrLg lb tu22 tz33 (.tmp rfl) (.tmp rfl) hv_v_16) <| jc (op_loadPAg lb tA33 (.tmp rfl) rfl) ?_
   refine jx (op_alloc lb tZ33 zr33) (fun q => ?_)
   obtain ⟨gb_17, hqq⟩ : ∃ z, z = q := ⟨_, rfl⟩
   subst hqq
   refine jc (op_storeA (j := 2) tA33 (.tmp rfl) (.tmp rfl) rfl (UpdR.self (by rfl)) rfl) <| jn <| jr <| jmv rfl rfl <| jc (op_fieldAddr (off := 0) lb tf33_0 (.tmp rfl)) ?_
   refine jc (op_loadA (j := 2) lb tA29 (.tmp rfl) rfl (cT (comp_api_Item_Dot v_16) rfl) rfl) ?_
   refine JL.sub ⟨[(0, ov (PTR gb_2 0)), (5, ov (PTR gb_17 0)), (14, ov (S (rL r_api_Item) l_1)), (15, ov (S (rI .i64) (List.length l_1 : Int))), (16, ov (S (rI .i64) x_12)), (20, ov (PTR gb_2 0)), (22, ov (A r_api_Dot v_16.Dot))], [cvar gb_2 (zq21 go_13 b_11 gc_14) ((), ()), cown go_13 (rU UInt8) b_11 0 gc_14, cvar gb_17 r_api_Item v_16], []⟩ (.cons rfl (.cons rfl (.cons rfl (.cons rfl (.cons rfl (.cons rfl (.cons rfl .nil))))))) rfl rfl ?_
   replace hx3 := bnd_inv hx3
   obtain ⟨⟨v_18, v_19⟩, hv_v_18, hx3⟩ := hx3
   refine jx (op_call (js := []) ld cl35 (sim_wire_Dot k v_16.Dot (v_18, v_19) hv_v_18) .func (.cons (.tmp rfl) .nil) rfl) (fun q => ?_)
   obtain ⟨go_20, gc_21⟩ := q
   refine jc (op_extract (i := 0) lb (.tmp rfl) rfl) <| jc (op_extract (i := 1) lb (.tmp rfl) rfl) ?_
   replace hx3 := bnd_inv hx3
   obtain ⟨x_22, hv_x_22, hx3⟩ := hx3
   refine JL.pre (Imp.frz (j := 0) rfl (ImpK.tupAt (s := 23) (i := 0) (q := HL go_20 (rU UInt8) v_18 gc_21) rfl rfl ownHL (ImpK.slotH (s := 24) rfl ImpK.refl))) ?_
   refine jx (op_call (js := [1, 1]) ld cl33 (sim_frame_writer_put'2 k v_18 v_19 b_11 gb_2 go_13 gc_14 x_22 hv_x_22) .func (.cons (.tmp rfl) (.cons (HasO.wk (.tmp rfl) wkHL) (.cons (.tmp rfl) .nil))) rfl) (fun q => ?_)
   obtain ⟨go_23, gc_24⟩ := q
   refine JL.nrm ⟨[(0, ov (PTR gb_2 0)), (5, ov (PTR gb_17 0)), (14, ov (S (rL r_api_Item) l_1)), (15, ov (S (rI .i64) (List.length l_1 : Int))), (16, ov (S (rI .i64) x_12))], [cvar gb_2 (zq21 go_23 x_22 gc_24) ((), ()), cown go_23 (rU UInt8) x_22 0 gc_24, cvar gb_17 r_api_Item v_16], []⟩ [0, 0, 1] rfl (.cons rfl (.cons rfl (.cons rfl (.cons rfl (.cons rfl .nil))))) rfl ?_
   refine jn <| jr <| jmv rfl rfl <| jc (op_fieldAddr (off := 4) lb tf33_2 (.tmp rfl)) <| jc (op_loadS (j := 2) lb tS4 (.tmp rfl) rfl (cT (comp_api_Item_Gone v_16) rfl) rfl rfl) ?_
   replace hx3 := bnd_inv hx3
   obtain ⟨x_25, hv_x_25, hx3⟩ := hx3
   refine jx (op_call (js := [0, 0]) ld cl36 (sim_frame_writer_flag k v_16.Gone x_22 gb_2 go_23 gc_24 x_25 hv_x_25) .func (.cons (.tmp rfl) (.cons (.tmp rfl) .nil)) rfl) (fun q => ?_)
   obtain ⟨go_26, gc_27⟩ := q
   refine jn <| jr <| jc (op_fieldAddr (off := 4) lb tf33_2 (.tmp rfl)) <| jc (op_loadS (j := 2) lb tS4 (.tmp rfl) rfl (cT (comp_api_Item_Gone v_16) rfl) rfl rfl) ?_
   replace hx3 := lt1_inv hx3
   obtain ⟨v_28, hv_v_28, hx3⟩ := hx3
   refine jc (op_not lb (.tmp rfl) hv_v_28) <| jn ?_
   replace hx3 := iteB_inv hx3
   rcases hx3 with ⟨hc4, hx3⟩ | ⟨hc4, hx3⟩
   · refine JC.condT (.tmp rfl) hc4 ?_
     refine jr <| jmv rfl rfl <| jc (op_fieldAddr (off := 2) lb tf33_1 (.tmp rfl)) <| jc (op_fieldAddr (off := 0) lb tf31_0 (.tmp rfl)) ?_
     refine JL.sub ⟨[(0, ov (PTR gb_2 0)), (5, ov (PTR gb_17 0)), (14, ov (S (rL r_api_Item) l_1)), (15, ov (S (rI .i64) (List.length l_1 : Int))), (16, ov (S (rI .i64) x_12)), (34, ov (PTR gb_2 0)), (36, ov (PTR gb_17 ((0 + 2) + 0)))], [cvar gb_2 (zq21 go_26 x_25 gc_27) ((), ()), cown go_26 (rU UInt8) x_25 0 gc_27, cvar gb_17 r_api_Item v_16], []⟩ (.cons rfl (.cons rfl (.cons rfl (.cons rfl (.cons rfl (.cons rfl (.cons rfl .nil))))))) rfl rfl ?_
     refine jc (op_loadS (j := 2) lb tS9 (.tmp rfl) rfl (Comp.trans (cT (comp_api_Item_Key v_16) rfl) (comp_api_Key_Topic v_16.Key) (lE rfl)) rfl rfl) <| jc (op_convSB lb tu9 tu25 tu5 (.tmp rfl)) ?_
     replace hx3 := bnd_inv hx3
     obtain ⟨⟨v_29, v_30⟩, hv_v_29, hx3⟩ := hx3
     refine jx (op_call (js := []) ld cl37 (sim_wire_Blob k v_16.Key.Topic (v_29, v_30) hv_v_29) .func (.cons (.tmp rfl) .nil) rfl) (fun q => ?_)
     obtain ⟨go_31, gc_32⟩ := q
     refine jc (op_extract (i := 0) lb (.tmp rfl) rfl) <| jc (op_extract (i := 1) lb (.tmp rfl) rfl) ?_
     replace hx3 := bnd_inv hx3
     obtain ⟨x_33, hv_x_33, hx3⟩ := hx3
     refine JL.pre (Imp.frz (j := 0) rfl (ImpK.tupAt (s := 39) (i := 0) (q := HL go_31 (rU UInt8) v_29 gc_32) rfl rfl ownHL (ImpK.slotH (s := 40) rfl ImpK.refl))) ?_
     refine jx (op_call (js := [1, 1]) ld cl33 (sim_frame_writer_put'2 k v_29 v_30 x_25 gb_2 go_26 gc_27 x_33 hv_x_33) .func (.cons (.tmp rfl) (.cons (HasO.wk (.tmp rfl) wkHL) (.cons (.tmp rfl) .nil))) rfl) (fun q => ?_)
     obtain ⟨go_34, gc_35⟩ := q
     refine JL.nrm ⟨[(0, ov (PTR gb_2 0)), (5, ov (PTR gb_17 0)), (14, ov (S (rL r_api_Item) l_1)), (15, ov (S (rI .i64) (List.length l_1 : Int))), (16, ov (S (rI .i64) x_12))], [cvar gb_2 (zq21 go_34 x_33 gc_35) ((), ()), cown go_34 (rU UInt8) x_33 0 gc_35, cvar gb_17 r_api_Item v_16], []⟩ [0, 0, 1] rfl (.cons rfl (.cons rfl (.cons rfl (.cons rfl (.cons rfl .nil))))) rfl ?_
     refine jn <| JC.region <| jmv rfl rfl <| jc (op_fieldAddr (off := 2) lb tf33_1 (.tmp rfl)) <| jc (op_fieldAddr (off := 1) lb tf31_1 (.tmp rfl)) ?_
     refine jc (op_loadS (j := 2) lb tS9 (.tmp rfl) rfl (Comp.trans (cT (comp_api_Item_Key v_16) rfl) (comp_api_Key_Device v_16.Key) (lE rfl)) rfl rfl) <| jc (op_convSB lb tu9 tu25 tu5 (.tmp rfl)) ?_
     replace hx3 := bnd_inv hx3
     obtain ⟨⟨v_36, v_37⟩, hv_v_36, hx3⟩ := hx3
     refine jx (op_call (js := []) ld cl37 (sim_wire_Blob k v_16.Key.Device (v_36, v_37) hv_v_36) .func (.cons (.tmp rfl) .nil) rfl) (fun q => ?_)
     obtain ⟨go_38, gc_39⟩ := q
     refine jc (op_extract (i := 0) lb (.tmp rfl) rfl) <| jc (op_extract (i := 1) lb (.tmp rfl) rfl) ?_
     replace hx3 := bnd_inv hx3
     obtain ⟨x_40, hv_x_40, hx3⟩ := hx3
     refine JL.pre (Imp.frz (j := 0) rfl (ImpK.tupAt (s := 48) (i := 0) (q := HL go_38 (rU UInt8) v_36 gc_39) rfl rfl ownHL (ImpK.slotH (s := 49) rfl ImpK.refl))) ?_
     refine jx (op_call (js := [1, 1]) ld cl33 (sim_frame_writer_put'2 k v_36 v_37 x_33 gb_2 go_34 gc_35 x_40 hv_x_40) .func (.cons (.tmp rfl) (.cons (HasO.wk (.tmp rfl) wkHL) (.cons (.tmp rfl) .nil))) rfl) (fun q => ?_)
     obtain ⟨go_41, gc_42⟩ := q
     refine JL.nrm ⟨[(0, ov (PTR gb_2 0)), (14, ov (S (rL r_api_Item) l_1)), (15, ov (S (rI .i64) (List.length l_1 : Int))), (16, ov (S (rI .i64) x_12))], [cvar gb_2 (zq21 go_41 x_40 gc_42) ((), ()), cown go_41 (rU UInt8) x_40 0 gc_42], []⟩ [0, 0] rfl (.cons rfl (.cons rfl (.cons rfl (.cons rfl .nil)))) rfl ?_
     refine JL.nil ?_
     refine JQ.outNB ?_
     replace hx3 := Option.some.inj hx3
     first | subst hx3 | clear hx3
     exact JQ.join (go_41, gc_42) (Imp.norm (js := [0, 0]) rfl (.cons rfl (.cons rfl (.cons rfl (.cons rfl .nil)))))
   refine JC.condF (.tmp rfl) hc4 ?_
   refine JC.skip ?_
   refine JQ.outNB ?_
   replace hx3 := Option.some.inj hx3
   first | subst hx3 | clear hx3
   exact JQ.join (go_26, gc_27) (Imp.norm (js := [0, 0]) rfl (.cons rfl (.cons rfl (.cons rfl (.cons rfl .nil)))))
 refine JC.condF (.tmp rfl) hc2 ?_
 refine JC.exit ?_
 refine JQ.outX ?_
 replace hx := Option.some.inj hx
 first | subst hx | clear hx
 have ht := hr _ rfl
 have hq1 := congrArg some ht
 clear hr ht
 refine JQ.outX ?_
 refine JQ.here ?_
 replace hq1 := Option.some.inj hq1
 subst hq1
 exact JQ.done (js := [0, 0]) (ss := []) (go_13, gc_14) (.inr rfl) (.nil rfl) rfl .nil rfl rfl rfl

theorem sim_frame_ItemBytes (k : Nat) (l_1 : (List api_Item)) (r : (List UInt8)) (hm : frame_ItemBytes k l_1 = some r) : Sim Try.prog 6 [S (rL r_api_Item) l_1] [] (γ := Option Nat × Nat) (fun q => [cown q.1 (rU UInt8) r 0 q.2]) (fun q => .one (.val (HDR q.1 0 (List.length r) q.2))) := by
 unfold frame_ItemBytes at hm
 refine Sim.of Try.func6 rfl rfl (lE rfl) (fun e0 w0 => ?_)
 refine JC.at ⟨[(0, ov (S (rL r_api_Item) l_1))], [], []⟩ ?_
 refine jr <| jc (op_assign lb HasO.nilH) <| jn <| JC.seq ?_
 replace hm := bnd_inv hm
 obtain ⟨x_5, hx1, hq1⟩ := hm
 refine JC.seqJ (γ := Unit) (stj := fun _ => ⟨[(0, ov (S (rL r_api_Item) l_1)), (10, ov (S rB x_5))], [], []⟩) (fun _ => ?_) ?_
 · replace hq1 := iteB_inv hq1
   rcases hq1 with ⟨hc5, hq1⟩ | ⟨hc5, hq1⟩
   · refine JC.condT (.tmp rfl) hc5 ?_
     refine jr <| jc (op_assign lb HasO.nilH) <| jn ?_
     refine JC.ret ?_
     refine JQ.outR ?_
     replace hq1 := Option.some.inj hq1
     subst hq1
     refine JQ.pre (Imp.nilown (rU UInt8)) ?_
     exact JQ.done (js := [0]) (ss := [.val (HDR none 0 (List.length ([] : (List UInt8))) (0))]) (none, 0) (.inl rfl) (.nil rfl) rfl (.cons (.tmp rfl) .nil) rfl rfl rfl
   refine JC.condF (.tmp rfl) hc5 ?_
   refine JC.skip ?_
   refine JQ.then <| jr <| jc (op_build lb tZ60 zr60 tp60 .nil rfl) ?_
   refine jx (op_boxA lb (.tmp rfl)) (fun q => ?_)
   obtain ⟨gb_6, hqq⟩ : ∃ z, z = q := ⟨_, rfl⟩
   subst hqq
   refine jc (op_assign lb (.tmp rfl)) <| jn <| jr <| jmv rfl rfl <| jmv rfl rfl ?_
   replace hq1 := bnd_inv hq1
   obtain ⟨x_7, hv_x_7, hq1⟩ := hq1
   refine jx (op_call (js := [0]) ld cl15 (sim_frame_writer_items'4 k l_1 gb_6 x_7 hv_x_7) .func (.cons (.tmp rfl) (.cons (.tmp rfl) .nil)) rfl) (fun q => ?_)
   obtain ⟨go_8, gc_9⟩ := q
   refine jn <| jr <| jmv rfl rfl <| jc (op_nilCheck lb (.tmp rfl) (fun e v h => by subst h; rfl)) ?_
   refine JL.sub ⟨[(17, ov (PTR gb_6 0))], [cvar gb_6 (zq21 go_8 x_7 gc_9) ((), ()), cown go_8 (rU UInt8) x_7 0 gc_9], []⟩ (.cons rfl .nil) rfl rfl ?_
   refine jc (op_fieldAddr (off := 0) lb tf60_0 (.tmp rfl)) <| jc (op_loadW (j := 0) lb tS25 (.tmp rfl) rfl (Comp.trans (Comp.self (zq21 go_8 x_7 gc_9) ((), ())) (Comp.at' (Comp.inF (Comp.self (rW (HDR go_8 0 (List.length x_7) gc_9)) ()) (lE rfl)) (by rfl : _ = 0)) (lE rfl))) <| jc (op_assign lb (.tmp rfl)) <| jn ?_
   refine JC.ret ?_
   replace hq1 := Option.some.inj hq1
   subst hq1
   exact JQ.done (js := [1]) (ss := [.val (HDR go_8 0 (List.length x_7) gc_9)]) (go_8, gc_9) (.inl rfl) (.nil rfl) rfl (.cons (.tmp rfl) .nil) rfl rfl rfl
 refine JC.region <| jmv rfl rfl <| jc (op_lenL lb tu22 (.tmp rfl)) ?_
 replace hx1 := lt1_inv hx1
 obtain ⟨v_2, hv_v_2, hx1⟩ := hx1
 refine jc (op_cmpI lb (.tmp rfl) .cI (congrArg some hv_v_2)) <| jmv rfl rfl ?_
 refine JL.cnd (sv := ov (S (rL r_api_Item) l_1)) (Guard.isF (ltB rfl) rfl rfl) rfl (ltB rfl) (fun hq_2 => op_move lb (.tmp rfl)) ?_
 replace hx1 := bnd_inv hx1
 obtain ⟨v_3, hv_v_3, hx1⟩ := hx1
 refine JL.cnd (sv := ov (S rB v_3)) (Guard.isF (ltB rfl) rfl rfl) rfl (ltB rfl) (fun hq_3 => (op_call (js := []) ld cl12 (sim_slices_ContainsFuncapi_Item_api_Item'2 k l_1 v_3 (ifT hv_v_3 hq_3)) .func (.cons (HasO.cnd (.tmp rfl) (notT (notF hq_3))) (.cons .func .nil)) rfl).post (fun _ => Imp.refl)) ?_
 replace hx1 := lt1_inv hx1
 obtain ⟨v_4, hv_v_4, hx1⟩ := hx1
 refine jc (op_pickCS lb (.tmp rfl) (fun hb4 => .cB) (fun hb4 => (HasO.cnd (.tmp rfl) (notT hb4))) hv_v_4) <| JL.nil ?_
 replace hx1 := Option.some.inj hx1
 first | subst hx1 | clear hx1
 exact JQ.join () (Imp.norm (js := []) rfl (.cons rfl (.cons rfl .nil)))

theorem sim_law11_FrameLists'4 (k : Nat) (t_1 : (List api_Item)) (a_2 : (List api_Item)) (r : Bool) (hm : law11_FrameLists'4 k t_1 a_2 = some r) : Sim Try.prog 3 [S (rL r_api_Item) t_1, S (rL r_api_Item) a_2] [] (γ := Unit) (fun q => []) (fun q => .one (.val (S rB r))) := by
 unfold law11_FrameLists'4 at hm
 refine Sim.of Try.func3 rfl rfl (lE rfl) (fun e0 w0 => ?_)
 refine JC.at ⟨[(0, ov (S (rL r_api_Item) t_1)), (1, ov (S (rL r_api_Item) a_2))], [], []⟩ ?_
 refine jr <| jc (op_assign lb .cB) <| jn <| JC.seq ?_
 replace hm := bnd_inv hm
 obtain ⟨x_6, hx1, hq1⟩ := hm
 refine JC.seqJ (γ := Unit) (stj := fun _ => ⟨[(0, ov (S (rL r_api_Item) t_1)), (1, ov (S (rL r_api_Item) a_2)), (15, ov (S rB x_6))], [], []⟩) (fun _ => ?_) ?_
 · replace hq1 := iteB_inv hq1
   rcases hq1 with ⟨hc5, hq1⟩ | ⟨hc5, hq1⟩
   · refine JC.condT (.tmp rfl) hc5 ?_
     refine jr ?_
     replace hq1 := bnd_inv hq1
     obtain ⟨v_7, hv_v_7, hq1⟩ := hq1
     refine jx (op_call (js := []) ld cl5 (sim_law11_known'4 k v_7 hv_v_7) .func .nil rfl) (fun _ => ?_)
     refine jc (op_assign lb (.tmp rfl)) <| jn ?_
     refine JC.ret ?_
     refine JQ.outR ?_
     replace hq1 := Option.some.inj hq1
     subst hq1
     exact JQ.done (js := []) (ss := [.val (S rB v_7)]) () (.inl rfl) (.nil rfl) rfl (.cons (.tmp rfl) .nil) rfl rfl rfl
   refine JC.condF (.tmp rfl) hc5 ?_
   refine JC.skip ?_
   refine JQ.then <| jr <| jmv rfl rfl ?_
   replace hq1 := bnd_inv hq1
   obtain ⟨v_8, hv_v_8, hq1⟩ := hq1
   refine jx (op_call (js := []) ld cl6 (sim_frame_ItemBytes k t_1 v_8 hv_v_8) .func (.cons (.tmp rfl) .nil) rfl) (fun q => ?_)
   obtain ⟨go_9, gc_10⟩ := q
   refine jmv rfl rfl ?_
   replace hq1 := bnd_inv hq1
   obtain ⟨v_11, hv_v_11, hq1⟩ := hq1
   refine jx (op_call (js := []) ld cl6 (sim_frame_ItemBytes k a_2 v_11 hv_v_11) .func (.cons (.tmp rfl) .nil) rfl) (fun q => ?_)
   obtain ⟨go_12, gc_13⟩ := q
   refine jc (op_assign lb (.tmp rfl)) <| jc (op_assign lb (.tmp rfl)) <| jn <| JC.seq ?_
   replace hq1 := bnd_inv hq1
   obtain ⟨x_16, hx6, hq6⟩ := hq1
   refine JC.seqJ (γ := Unit) (stj := fun _ => ⟨[(0, ov (S (rL r_api_Item) t_1)), (1, ov (S (rL r_api_Item) a_2)), (5, ov (HDR go_9 0 (List.length v_8) gc_10)), (6, ov (HDR go_12 0 (List.length v_11) gc_13)), (28, ov (S rB x_16))], [cown go_9 (rU UInt8) v_8 0 gc_10, cown go_12 (rU UInt8) v_11 0 gc_13], []⟩) (fun _ => ?_) ?_
   · replace hq6 := iteB_inv hq6
     rcases hq6 with ⟨hc9, hq6⟩ | ⟨hc9, hq6⟩
     · refine JC.condT (.tmp rfl) hc9 ?_
       refine jr ?_
       replace hq6 := bnd_inv hq6
       obtain ⟨v_17, hv_v_17, hq6⟩ := hq6
       refine jx (op_call (js := []) ld cl5 (sim_law11_known'4 k v_17 hv_v_17) .func .nil rfl) (fun _ => ?_)
       refine jc (op_assign lb (.tmp rfl)) <| jn ?_
       refine JC.ret ?_
       refine JQ.outR ?_
       replace hq6 := Option.some.inj hq6
       subst hq6
       exact JQ.done (js := []) (ss := [.val (S rB v_17)]) () (.inl rfl) (.nil rfl) rfl (.cons (.tmp rfl) .nil) rfl rfl rfl
     refine JC.condF (.tmp rfl) hc9 ?_
     refine JC.skip ?_
     refine JQ.then <| jr <| jmv rfl rfl <| jc (op_lenL lb tu22 (.tmp rfl)) <| jmv rfl rfl ?_
     refine jc (op_lenL lb tu22 (.tmp rfl)) ?_
     replace hq6 := lt1_inv hq6
     obtain ⟨v_18, hv_v_18, hq6⟩ := hq6
     refine jc (op_cmpI lb (.tmp rfl) (.tmp rfl) (congrArg some hv_v_18)) <| jc (op_assign lb (.tmp rfl)) <| jn ?_
     replace hq6 := bnd_inv hq6
     obtain ⟨x_28, hx10, hq10⟩ := hq6
     refine JC.seqJ (γ := Unit) (stj := fun _ => ⟨[(0, ov (S (rL r_api_Item) t_1)), (5, ov (HDR go_9 0 (List.length v_8) gc_10)), (6, ov (HDR go_12 0 (List.length v_11) gc_13)), (7, ov (S rB x_28))], [cown go_9 (rU UInt8) v_8 0 gc_10, cown go_12 (rU UInt8) v_11 0 gc_13], []⟩) (fun _ => ?_) ?_
     · replace hq10 := bnd_inv hq10
       obtain ⟨x_32, hx16, hq16⟩ := hq10
       refine JC.seqJ (γ := Unit) (stj := fun _ => ⟨[(0, ov (S (rL r_api_Item) t_1)), (5, ov (HDR go_9 0 (List.length v_8) gc_10)), (6, ov (HDR go_12 0 (List.length v_11) gc_13)), (7, ov (S rB x_28)), (9, ov (S rB x_32))], [cown go_9 (rU UInt8) v_8 0 gc_10, cown go_12 (rU UInt8) v_11 (List.length v_11) gc_13], []⟩) (fun _ => ?_) ?_
       · replace hq16 := bnd_inv hq16
         obtain ⟨x_48, hx19, hq19⟩ := hq16
         refine JC.seqJ (γ := Unit) (stj := fun _ => ⟨[(4, ov (S rB x_48))], [], []⟩) (fun _ => ?_) ?_
         · refine JC.ret ?_
           replace hq19 := Option.some.inj hq19
           subst hq19
           exact JQ.done (js := []) (ss := [.val (S rB x_48)]) () (.inl rfl) (.nil rfl) rfl (.cons (.tmp rfl) .nil) rfl rfl rfl
         replace hx19 := bnd_inv hx19
         obtain ⟨i_33, hv_i_33, hx19⟩ := hx19
         replace hx19 := bnd_inv hx19
         obtain ⟨v_34, hv_v_34, hx19⟩ := hx19
         replace hx19 := lt1_inv hx19
         obtain ⟨v_35, hv_v_35, hx19⟩ := hx19
         replace hx19 := lt1_inv hx19
         obtain ⟨v_36, hv_v_36, hx19⟩ := hx19
         replace hx19 := bnd_inv hx19
         obtain ⟨i_37, hv_i_37, hx19⟩ := hx19
         replace hx19 := bnd_inv hx19
         obtain ⟨v_38, hv_v_38, hx19⟩ := hx19
         replace hx19 := lt1_inv hx19
         obtain ⟨v_39, hv_v_39, hx19⟩ := hx19
         replace hx19 := lt1_inv hx19
         obtain ⟨v_40, hv_v_40, hx19⟩ := hx19
         replace hx19 := lt1_inv hx19
         obtain ⟨v_41, hv_v_41, hx19⟩ := hx19
         replace hx19 := lt1_inv hx19
         obtain ⟨v_42, hv_v_42, hx19⟩ := hx19
         replace hx19 := lt1_inv hx19
         obtain ⟨v_43, hv_v_43, hx19⟩ := hx19
         replace hx19 := iteB_inv hx19
         rcases hx19 with ⟨hc25, hx19⟩ | ⟨hc25, hx19⟩
         · replace hx19 := lt1_inv hx19
           obtain ⟨v_44, hv_v_44, hx19⟩ := hx19
           replace hx19 := lt1_inv hx19
           obtain ⟨v_45, hv_v_45, hx19⟩ := hx19
           replace hx19 := bnd_inv hx19
           obtain ⟨v_46, hv_v_46, hx19⟩ := hx19
           replace hx19 := lt1_inv hx19
           obtain ⟨v_47, hv_v_47, hx19⟩ := hx19
           refine JC.anyE (kl := []) (kk := 0) (base := [(0, ov (S (rL r_api_Item) t_1)), (5, ov (HDR go_9 0 (List.length v_8) gc_10)), (6, ov (HDR go_12 0 (List.length v_11) gc_13)), (7, ov (S rB x_28)), (9, ov (S rB x_32))])
               (fs := fun γ => [⟨some 68, ov (HDR go_9 0 (List.length v_8) gc_10)⟩, ⟨some 69, ov (EPT go_9 (i_33 * 1))⟩, ⟨some 70, ov (S (rU UInt8) v_34)⟩, ⟨some 71, ov (S (rI .i64) v_35)⟩, ⟨some 72, ov (S (rI .i64) v_36)⟩, ⟨some 73, ov (HDR go_9 0 (List.length v_8) gc_10)⟩, ⟨some 74, ov (EPT go_9 (i_37 * 1))⟩, ⟨some 75, ov (S (rU UInt8) v_38)⟩, ⟨some 76, ov (S (rI .i64) v_39)⟩, ⟨some 77, ov (S (rI .i64) v_40)⟩, ⟨some 78, ov (S (rL r_api_Item) t_1)⟩, ⟨some 79, ov (S (rI .i64) (List.length t_1 : Int))⟩, ⟨some 80, ov (S rB v_41)⟩, ⟨some 81, ov (S rB v_41)⟩, ⟨some 82, bif v_41 then ov (S rB x_32) else .one .und⟩, ⟨some 83, bif v_41 then ov (S rB x_28) else .one .und⟩, ⟨some 84, bif v_41 then ov (S rB v_42) else .one .und⟩, ⟨some 85, ov (S rB v_43)⟩, ⟨some 86, ov (S rB v_43)⟩, ⟨some 87, ov (HDR go_9 0 (List.length v_8) gc_10)⟩, ⟨some 88, ov (S rS v_8)⟩, ⟨some 89, ov (HDR go_12 0 (List.length v_11) gc_13)⟩, ⟨some 90, ov (S rS v_11)⟩, ⟨some 91, ov (S rB v_44)⟩, ⟨some 92, ov (S rB x_28)⟩, ⟨some 93, ov (S rB v_45)⟩, ⟨some 94, ov (S rB v_45)⟩, ⟨some 95, ov (S rB v_45)⟩, ⟨some 96, bif v_45 then ov (S rB v_46) else .one .und⟩, ⟨some 97, ov (S rB v_47)⟩, ⟨some 4, ov (S rB v_47)⟩])
               (rs := fun γ => [⟨cown go_9 (rU UInt8) v_8 0 gc_10, none, none, [1, 2, 6, 7, 20]⟩, ⟨cown go_12 (rU UInt8) v_11 (List.length v_11) gc_13, none, none, [22]⟩])
               (ds := [68, 69, 70, 71, 72, 73, 74, 75, 76, 77, 78, 79, 80, 81, 82, 83, 84, 85, 86, 87, 88, 89, 90, 91, 92, 93, 94, 95, 96, 97, 4]) (bs := [0, 5, 6, 7, 9]) (afts := [[], [], [], [], [], [], [], [], [], [], [], [], [], [], [], [], [], [], [], [], [], [], [], [], [], [], [], [], [], [], []]) (js := [0, 0]) mixed (.cons rfl (.cons rfl (.cons rfl (.cons rfl (.cons rfl .nil))))) (fun _ => rfl)
               (by
      refine dS 1 (fun γ ρ B hb hd => op_move lb (.tmp (hb 5 _ rfl))) <| dR 2 (fun γ ρ B hb hd => OpStep.lk ⟨ρ, (cown go_9 (rU UInt8) v_8 0 gc_10) :: B, _⟩ (op_indexAddrOF (r := (rU UInt8)) (j := 0) lb tu25 tz5 rfl (tl hd 0 68) .cI hv_i_33)) <| dR 3 (fun γ ρ B hb hd => OpStep.lk ⟨ρ, (cown go_9 (rU UInt8) v_8 0 gc_10) :: B, _⟩ (op_loadOS (r := (rU UInt8)) (i := i_33) (off := 0) (j := 0) lb tS5 rfl rfl (tl hd 1 69) hv_v_34 (Comp.self (rU UInt8) v_34) (by decide))) <| dS 4 (fun γ ρ B hb hd => op_convUI lb tu5 tu3 (tl hd 2 70) hv_v_35) <| dS 5 (fun γ ρ B hb hd => op_arI lb (tl hd 3 71) .cI (congrArg some hv_v_36)) ?_
      refine dS 6 (fun γ ρ B hb hd => op_move lb (.tmp (hb 5 _ rfl))) <| dR 7 (fun γ ρ B hb hd => OpStep.lk ⟨ρ, (cown go_9 (rU UInt8) v_8 0 gc_10) :: B, _⟩ (op_indexAddrOF (r := (rU UInt8)) (j := 0) lb tu25 tz5 rfl (tl hd 5 73) .cI hv_i_37)) <| dR 8 (fun γ ρ B hb hd => OpStep.lk ⟨ρ, (cown go_9 (rU UInt8) v_8 0 gc_10) :: B, _⟩ (op_loadOS (r := (rU UInt8)) (i := i_37) (off := 0) (j := 0) lb tS5 rfl rfl (tl hd 6 74) hv_v_38 (Comp.self (rU UInt8) v_38) (by decide))) <| dS 9 (fun γ ρ B hb hd => op_convUI lb tu5 tu3 (tl hd 7 75) hv_v_39) <| dS 10 (fun γ ρ B hb hd => op_arI lb (tl hd 4 72) (tl hd 8 76) (congrArg some hv_v_40)) ?_
      refine dS 11 (fun γ ρ B hb hd => op_move lb (.tmp (hb 0 _ rfl))) <| dS 12 (fun γ ρ B hb hd => op_lenL lb tu22 (tl hd 10 78)) <| dS 13 (fun γ ρ B hb hd => op_cmpI lb (tl hd 9 77) (tl hd 11 79) (congrArg some hv_v_41)) <| dS 14 (fun γ ρ B hb hd => op_move lb (tl hd 12 80)) ?_
      refine dC 15 v_41 (fun γ => ov (S rB x_32)) (fun γ ρ B hb hd => ⟨(Guard.isT (ltB rfl) rfl (hl hd 13 81 rfl)), fun hq_20 => op_move lb (.tmp (hb 9 _ rfl))⟩) ?_
      refine dC 16 v_41 (fun γ => ov (S rB x_28)) (fun γ ρ B hb hd => ⟨(Guard.isT (ltB rfl) rfl (hl hd 13 81 rfl)), fun hq_21 => op_move lb (.tmp (hb 7 _ rfl))⟩) ?_
      refine dC 17 v_41 (fun γ => ov (S rB v_42)) (fun γ ρ B hb hd => ⟨(Guard.isT (ltB rfl) rfl (hl hd 13 81 rfl)), fun hq_22 => op_eqB lb tu4 (HasO.cnd (tl hd 14 82) hq_22) (HasO.cnd (tl hd 15 83) hq_22) hv_v_42⟩) ?_
      refine dS 18 (fun γ ρ B hb hd => op_pickCS lb (tl hd 13 81) (fun hb23 => (HasO.cnd (tl hd 16 84) hb23)) (fun hb23 => .cB) hv_v_43) <| dS 19 (fun γ ρ B hb hd => op_move lb (tl hd 17 85)) <| dY 20 (fun γ ρ B hb hd => ⟨.yes rfl (ltB rfl) (hl hd 18 86 rfl) hc25, lkB (op_move lb (.tmp (hb 5 _ rfl)))⟩) <| dY 21 (fun γ ρ B hb hd => ⟨.yes rfl (ltB rfl) (hl hd 18 86 rfl) hc25, OpStep.lk ⟨ρ, (cown go_9 (rU UInt8) v_8 0 gc_10) :: B, _⟩ (op_convOS (j := 0) lb tu25 tu5 tu9 rfl (tl hd 19 87))⟩) <| dY 22 (fun γ ρ B hb hd => ⟨.yes rfl (ltB rfl) (hl hd 18 86 rfl) hc25, lkB (op_move lb (.tmp (hb 6 _ rfl)))⟩) ?_
      refine dY 23 (fun γ ρ B hb hd => ⟨.yes rfl (ltB rfl) (hl hd 18 86 rfl) hc25, OpStep.lk ⟨ρ, (cown go_12 (rU UInt8) v_11 (List.length v_11) gc_13) :: B, _⟩ (op_convOS (j := 0) lb tu25 tu5 tu9 rfl (tl hd 21 89))⟩) <| dY 24 (fun γ ρ B hb hd => ⟨.yes rfl (ltB rfl) (hl hd 18 86 rfl) hc25, lkB (op_cmpS lb (tl hd 20 88) (tl hd 22 90) (congrArg some hv_v_44))⟩) <| dY 25 (fun γ ρ B hb hd => ⟨.yes rfl (ltB rfl) (hl hd 18 86 rfl) hc25, lkB (op_move lb (.tmp (hb 7 _ rfl)))⟩) <| dY 26 (fun γ ρ B hb hd => ⟨.yes rfl (ltB rfl) (hl hd 18 86 rfl) hc25, lkB (op_eqB lb tu4 (tl hd 23 91) (tl hd 24 92) hv_v_45)⟩) <| dS 27 (fun γ ρ B hb hd => op_pickT lb (tl hd 18 86) hc25 (tl hd 25 93)) ?_
      refine dS 28 (fun γ ρ B hb hd => op_move lb (tl hd 26 94)) ?_
      refine dC 29 v_45 (fun γ => ov (S rB v_46)) (fun γ ρ B hb hd => ⟨(Guard.isT (ltB rfl) rfl (hl hd 27 95 rfl)), fun hq_26 => (op_call (js := []) ld cl5 (sim_law11_known'4 k v_46 (ifT hv_v_46 hq_26)) .func .nil rfl).post (fun _ => Imp.refl)⟩) ?_
      refine dS 30 (fun γ ρ B hb hd => op_pickCS lb (tl hd 27 95) (fun hb27 => (HasO.cnd (tl hd 28 96) hb27)) (fun hb27 => .cB) hv_v_47) <| dS 31 (fun γ ρ B hb hd => op_assign lb (tl hd 29 97)) ?_
      exact DSteps.nil)
               (by decide +kernel) (fun _ => rfl) rfl (fun _ => rfl) (fun _ => rfl) rfl (by decide) (by decide) (by decide +kernel) (fun _ d h => by cases h)
               (ρ' := fun γ => [(4, ov (S rB v_47))])
               (X' := fun γ => [cown go_9 (rU UInt8) v_8 0 gc_10, cown go_12 (rU UInt8) v_11 (List.length v_11) gc_13])
               (fun γ ρ hb hd => (.cons (hdq hd 30 4 rfl) .nil)) (fun _ => rfl) (fun γ => ?_)
           refine JQ.at ⟨[(4, ov (S rB v_47))], [cown go_9 (rU UInt8) v_8 0 gc_10, cown go_12 (rU UInt8) v_11 (List.length v_11) gc_13], []⟩ ?_
           replace hx19 := Option.some.inj hx19
           first | subst hx19 | clear hx19
           exact JQ.join () (Imp.norm (js := []) rfl (.cons rfl .nil))
         refine JC.anyE (kl := []) (kk := 0) (base := [(0, ov (S (rL r_api_Item) t_1)), (5, ov (HDR go_9 0 (List.length v_8) gc_10)), (7, ov (S rB x_28)), (9, ov (S rB x_32))])
             (fs := fun γ => [⟨some 68, ov (HDR go_9 0 (List.length v_8) gc_10)⟩, ⟨some 69, ov (EPT go_9 (i_33 * 1))⟩, ⟨some 70, ov (S (rU UInt8) v_34)⟩, ⟨some 71, ov (S (rI .i64) v_35)⟩, ⟨some 72, ov (S (rI .i64) v_36)⟩, ⟨some 73, ov (HDR go_9 0 (List.length v_8) gc_10)⟩, ⟨some 74, ov (EPT go_9 (i_37 * 1))⟩, ⟨some 75, ov (S (rU UInt8) v_38)⟩, ⟨some 76, ov (S (rI .i64) v_39)⟩, ⟨some 77, ov (S (rI .i64) v_40)⟩, ⟨some 78, ov (S (rL r_api_Item) t_1)⟩, ⟨some 79, ov (S (rI .i64) (List.length t_1 : Int))⟩, ⟨some 80, ov (S rB v_41)⟩, ⟨some 81, ov (S rB v_41)⟩, ⟨some 82, bif v_41 then ov (S rB x_32) else .one .und⟩, ⟨some 83, bif v_41 then ov (S rB x_28) else .one .und⟩, ⟨some 84, bif v_41 then ov (S rB v_42) else .one .und⟩, ⟨some 85, ov (S rB v_43)⟩, ⟨some 86, ov (S rB v_43)⟩, ⟨some 87, .one .und⟩, ⟨some 88, .one .und⟩, ⟨some 89, .one .und⟩, ⟨some 90, .one .und⟩, ⟨some 91, .one .und⟩, ⟨some 92, .one .und⟩, ⟨some 93, .one .und⟩, ⟨some 94, ov (S rB false)⟩, ⟨some 95, ov (S rB false)⟩, ⟨some 96, .one .und⟩, ⟨some 97, ov (S rB false)⟩, ⟨some 4, ov (S rB false)⟩])
             (rs := fun γ => [⟨cown go_9 (rU UInt8) v_8 0 gc_10, none, none, [1, 2, 6, 7]⟩, ⟨cown go_12 (rU UInt8) v_11 (List.length v_11) gc_13, none, none, []⟩])
             (ds := [68, 69, 70, 71, 72, 73, 74, 75, 76, 77, 78, 79, 80, 81, 82, 83, 84, 85, 86, 87, 88, 89, 90, 91, 92, 93, 94, 95, 96, 97, 4]) (bs := [0, 5, 7, 9]) (afts := [[], [], [], [], [], [], [], [], [], [], [], [], [], [], [], [], [], [], [], [], [], [], [], [], [], [], [], [], [], [], []]) (js := [0, 0]) mixed (.cons rfl (.cons rfl (.cons rfl (.cons rfl .nil)))) (fun _ => rfl)
             (by
      refine dS 1 (fun γ ρ B hb hd => op_move lb (.tmp (hb 5 _ rfl))) <| dR 2 (fun γ ρ B hb hd => OpStep.lk ⟨ρ, (cown go_9 (rU UInt8) v_8 0 gc_10) :: B, _⟩ (op_indexAddrOF (r := (rU UInt8)) (j := 0) lb tu25 tz5 rfl (tl hd 0 68) .cI hv_i_33)) <| dR 3 (fun γ ρ B hb hd => OpStep.lk ⟨ρ, (cown go_9 (rU UInt8) v_8 0 gc_10) :: B, _⟩ (op_loadOS (r := (rU UInt8)) (i := i_33) (off := 0) (j := 0) lb tS5 rfl rfl (tl hd 1 69) hv_v_34 (Comp.self (rU UInt8) v_34) (by decide))) <| dS 4 (fun γ ρ B hb hd => op_convUI lb tu5 tu3 (tl hd 2 70) hv_v_35) <| dS 5 (fun γ ρ B hb hd => op_arI lb (tl hd 3 71) .cI (congrArg some hv_v_36)) ?_
      refine dS 6 (fun γ ρ B hb hd => op_move lb (.tmp (hb 5 _ rfl))) <| dR 7 (fun γ ρ B hb hd => OpStep.lk ⟨ρ, (cown go_9 (rU UInt8) v_8 0 gc_10) :: B, _⟩ (op_indexAddrOF (r := (rU UInt8)) (j := 0) lb tu25 tz5 rfl (tl hd 5 73) .cI hv_i_37)) <| dR 8 (fun γ ρ B hb hd => OpStep.lk ⟨ρ, (cown go_9 (rU UInt8) v_8 0 gc_10) :: B, _⟩ (op_loadOS (r := (rU UInt8)) (i := i_37) (off := 0) (j := 0) lb tS5 rfl rfl (tl hd 6 74) hv_v_38 (Comp.self (rU UInt8) v_38) (by decide))) <| dS 9 (fun γ ρ B hb hd => op_convUI lb tu5 tu3 (tl hd 7 75) hv_v_39) <| dS 10 (fun γ ρ B hb hd => op_arI lb (tl hd 4 72) (tl hd 8 76) (congrArg some hv_v_40)) ?_
      refine dS 11 (fun γ ρ B hb hd => op_move lb (.tmp (hb 0 _ rfl))) <| dS 12 (fun γ ρ B hb hd => op_lenL lb tu22 (tl hd 10 78)) <| dS 13 (fun γ ρ B hb hd => op_cmpI lb (tl hd 9 77) (tl hd 11 79) (congrArg some hv_v_41)) <| dS 14 (fun γ ρ B hb hd => op_move lb (tl hd 12 80)) ?_
      refine dC 15 v_41 (fun γ => ov (S rB x_32)) (fun γ ρ B hb hd => ⟨(Guard.isT (ltB rfl) rfl (hl hd 13 81 rfl)), fun hq_20 => op_move lb (.tmp (hb 9 _ rfl))⟩) ?_
      refine dC 16 v_41 (fun γ => ov (S rB x_28)) (fun γ ρ B hb hd => ⟨(Guard.isT (ltB rfl) rfl (hl hd 13 81 rfl)), fun hq_21 => op_move lb (.tmp (hb 7 _ rfl))⟩) ?_
      refine dC 17 v_41 (fun γ => ov (S rB v_42)) (fun γ ρ B hb hd => ⟨(Guard.isT (ltB rfl) rfl (hl hd 13 81 rfl)), fun hq_22 => op_eqB lb tu4 (HasO.cnd (tl hd 14 82) hq_22) (HasO.cnd (tl hd 15 83) hq_22) hv_v_42⟩) ?_
      refine dS 18 (fun γ ρ B hb hd => op_pickCS lb (tl hd 13 81) (fun hb23 => (HasO.cnd (tl hd 16 84) hb23)) (fun hb23 => .cB) hv_v_43) <| dS 19 (fun γ ρ B hb hd => op_move lb (tl hd 17 85)) <| dK 20 (fun γ ρ B hb hd => .no rfl (ltB rfl) (hl hd 18 86 rfl) hc25) <| dK 21 (fun γ ρ B hb hd => .no rfl (ltB rfl) (hl hd 18 86 rfl) hc25) <| dK 22 (fun γ ρ B hb hd => .no rfl (ltB rfl) (hl hd 18 86 rfl) hc25) ?_
      refine dK 23 (fun γ ρ B hb hd => .no rfl (ltB rfl) (hl hd 18 86 rfl) hc25) <| dK 24 (fun γ ρ B hb hd => .no rfl (ltB rfl) (hl hd 18 86 rfl) hc25) <| dK 25 (fun γ ρ B hb hd => .no rfl (ltB rfl) (hl hd 18 86 rfl) hc25) <| dK 26 (fun γ ρ B hb hd => .no rfl (ltB rfl) (hl hd 18 86 rfl) hc25) <| dS 27 (fun γ ρ B hb hd => op_pickF lb (tl hd 18 86) hc25 .cB) ?_
      refine dS 28 (fun γ ρ B hb hd => op_move lb (tl hd 26 94)) <| dK 29 (fun γ ρ B hb hd => .no rfl (ltB rfl) (hl hd 27 95 rfl) rfl) <| dS 30 (fun γ ρ B hb hd => op_pickF lb (tl hd 27 95) rfl .cB) <| dS 31 (fun γ ρ B hb hd => op_assign lb (tl hd 29 97)) ?_
      exact DSteps.nil)
             (by decide +kernel) (fun _ => rfl) rfl (fun _ => rfl) (fun _ => rfl) rfl (by decide) (by decide) (by decide +kernel) (fun _ d h => by cases h)
             (ρ' := fun γ => [(4, ov (S rB false))])
             (X' := fun γ => [cown go_9 (rU UInt8) v_8 0 gc_10, cown go_12 (rU UInt8) v_11 (List.length v_11) gc_13])
             (fun γ ρ hb hd => (.cons (hdq hd 30 4 rfl) .nil)) (fun _ => rfl) (fun γ => ?_)
         refine JQ.at ⟨[(4, ov (S rB false))], [cown go_9 (rU UInt8) v_8 0 gc_10, cown go_12 (rU UInt8) v_11 (List.length v_11) gc_13], []⟩ ?_
         replace hx19 := Option.some.inj hx19
         first | subst hx19 | clear hx19
         exact JQ.join () (Imp.norm (js := []) rfl (.cons rfl .nil))
       refine JC.pre (Imp.frz (j := 1) rfl (ImpK.slotH (s := 6) rfl ImpK.refl)) ?_
       replace hx16 := lt1_inv hx16
       obtain ⟨v_29, hv_v_29, hx16⟩ := hx16
       replace hx16 := iteB_inv hx16
       rcases hx16 with ⟨hc18, hx16⟩ | ⟨hc18, hx16⟩
       · replace hx16 := bnd_inv hx16
         obtain ⟨v_30, hv_v_30, hx16⟩ := hx16
         replace hx16 := lt1_inv hx16
         obtain ⟨v_31, hv_v_31, hx16⟩ := hx16
         refine JC.anyE (kl := []) (kk := 0) (base := [(0, ov (S (rL r_api_Item) t_1)), (5, ov (HDR go_9 0 (List.length v_8) gc_10)), (6, ov (HL go_12 (rU UInt8) v_11 gc_13)), (7, ov (S rB x_28))])
             (fs := fun γ => [⟨some 53, ov (HDR go_9 0 (List.length v_8) gc_10)⟩, ⟨some 54, ov (S (rI .i64) (List.length v_8 : Int))⟩, ⟨some 55, ov (HL go_12 (rU UInt8) v_11 gc_13)⟩, ⟨some 56, ov (S (rI .i64) (List.length v_11 : Int))⟩, ⟨some 57, ov (S rB v_29)⟩, ⟨some 58, ov (S rB v_29)⟩, ⟨some 59, ov (HL go_12 (rU UInt8) v_11 gc_13)⟩, ⟨some 60, ov (HDR go_9 0 (List.length v_8) gc_10)⟩, ⟨some 61, ov (S (rI .i64) (List.length v_8 : Int))⟩, ⟨some 62, ov (S (rL (rU UInt8)) v_30)⟩, ⟨some 63, ov (S rS v_30)⟩, ⟨some 64, ov (HDR go_9 0 (List.length v_8) gc_10)⟩, ⟨some 65, ov (S rS v_8)⟩, ⟨some 66, ov (S rB v_31)⟩, ⟨some 67, ov (S rB v_31)⟩, ⟨some 9, ov (S rB v_31)⟩])
             (rs := fun γ => [⟨cown go_9 (rU UInt8) v_8 0 gc_10, none, none, [12]⟩, ⟨cown go_12 (rU UInt8) v_11 (List.length v_11) gc_13, none, none, []⟩])
             (ds := [53, 54, 55, 56, 57, 58, 59, 60, 61, 62, 63, 64, 65, 66, 67, 9]) (bs := [0, 5, 6, 7]) (afts := [[], [], [], [], [], [], [], [], [], [], [], [], [], [], [], []]) (js := [0, 0]) mixed (.cons rfl (.cons rfl (.cons rfl (.cons rfl .nil)))) (fun _ => rfl)
             (by
      refine dS 1 (fun γ ρ B hb hd => op_move lb (.tmp (hb 5 _ rfl))) <| dS 2 (fun γ ρ B hb hd => op_lenH lb tu25 (tl hd 0 53)) <| dS 3 (fun γ ρ B hb hd => op_move lb (.tmp (hb 6 _ rfl))) <| dS 4 (fun γ ρ B hb hd => op_lenH lb tu25 (HasO.wk (tl hd 2 55) wkHH)) <| dS 5 (fun γ ρ B hb hd => op_cmpI lb (tl hd 1 54) (tl hd 3 56) (congrArg some hv_v_29)) ?_
      refine dS 6 (fun γ ρ B hb hd => op_move lb (tl hd 4 57)) <| dY 7 (fun γ ρ B hb hd => ⟨.yes rfl (ltB rfl) (hl hd 5 58 rfl) hc18, lkB (op_move lb (.tmp (hb 6 _ rfl)))⟩) <| dY 8 (fun γ ρ B hb hd => ⟨.yes rfl (ltB rfl) (hl hd 5 58 rfl) hc18, lkB (op_move lb (.tmp (hb 5 _ rfl)))⟩) <| dY 9 (fun γ ρ B hb hd => ⟨.yes rfl (ltB rfl) (hl hd 5 58 rfl) hc18, lkB (op_lenH lb tu25 (tl hd 7 60))⟩) <| dY 10 (fun γ ρ B hb hd => ⟨.yes rfl (ltB rfl) (hl hd 5 58 rfl) hc18, lkB (op_sliceLg lb tu25 tz5 (HasO.wk (tl hd 6 59) wkHL) .none (.some (tl hd 8 61)) hv_v_30)⟩) ?_
      refine dY 11 (fun γ ρ B hb hd => ⟨.yes rfl (ltB rfl) (hl hd 5 58 rfl) hc18, lkB (op_convBS lb tu25 tu5 tu9 (tl hd 9 62))⟩) <| dY 12 (fun γ ρ B hb hd => ⟨.yes rfl (ltB rfl) (hl hd 5 58 rfl) hc18, lkB (op_move lb (.tmp (hb 5 _ rfl)))⟩) <| dY 13 (fun γ ρ B hb hd => ⟨.yes rfl (ltB rfl) (hl hd 5 58 rfl) hc18, OpStep.lk ⟨ρ, (cown go_9 (rU UInt8) v_8 0 gc_10) :: B, _⟩ (op_convOS (j := 0) lb tu25 tu5 tu9 rfl (tl hd 11 64))⟩) <| dY 14 (fun γ ρ B hb hd => ⟨.yes rfl (ltB rfl) (hl hd 5 58 rfl) hc18, lkB (op_cmpS lb (tl hd 10 63) (tl hd 12 65) (congrArg some hv_v_31))⟩) <| dS 15 (fun γ ρ B hb hd => op_pickT lb (tl hd 5 58) hc18 (tl hd 13 66)) ?_
      refine dS 16 (fun γ ρ B hb hd => op_assign lb (tl hd 14 67)) ?_
      exact DSteps.nil)
             (by decide +kernel) (fun _ => rfl) rfl (fun _ => rfl) (fun _ => rfl) rfl (by decide) (by decide) (by decide +kernel) (fun _ d h => by cases h)
             (ρ' := fun γ => [(0, ov (S (rL r_api_Item) t_1)), (5, ov (HDR go_9 0 (List.length v_8) gc_10)), (6, ov (HL go_12 (rU UInt8) v_11 gc_13)), (7, ov (S rB x_28)), (9, ov (S rB v_31))])
             (X' := fun γ => [cown go_9 (rU UInt8) v_8 0 gc_10, cown go_12 (rU UInt8) v_11 (List.length v_11) gc_13])
             (fun γ ρ hb hd => (.cons (hb 0 _ rfl (by decide)) (.cons (hb 5 _ rfl (by decide)) (.cons (hb 6 _ rfl (by decide)) (.cons (hb 7 _ rfl (by decide)) (.cons (hdq hd 15 9 rfl) .nil)))))) (fun _ => rfl) (fun γ => ?_)
         refine JQ.at ⟨[(0, ov (S (rL r_api_Item) t_1)), (5, ov (HDR go_9 0 (List.length v_8) gc_10)), (6, ov (HL go_12 (rU UInt8) v_11 gc_13)), (7, ov (S rB x_28)), (9, ov (S rB v_31))], [cown go_9 (rU UInt8) v_8 0 gc_10, cown go_12 (rU UInt8) v_11 (List.length v_11) gc_13], []⟩ ?_
         replace hx16 := Option.some.inj hx16
         first | subst hx16 | clear hx16
         refine JQ.pre (Imp.slot (s := 6) rfl wkHH) ?_
         exact JQ.join () (Imp.norm (js := [0, 0]) rfl (.cons rfl (.cons rfl (.cons rfl (.cons rfl (.cons rfl .nil))))))
       refine JC.anyE (kl := []) (kk := 0) (base := [(0, ov (S (rL r_api_Item) t_1)), (5, ov (HDR go_9 0 (List.length v_8) gc_10)), (6, ov (HL go_12 (rU UInt8) v_11 gc_13)), (7, ov (S rB x_28))])
           (fs := fun γ => [⟨some 53, ov (HDR go_9 0 (List.length v_8) gc_10)⟩, ⟨some 54, ov (S (rI .i64) (List.length v_8 : Int))⟩, ⟨some 55, ov (HL go_12 (rU UInt8) v_11 gc_13)⟩, ⟨some 56, ov (S (rI .i64) (List.length v_11 : Int))⟩, ⟨some 57, ov (S rB v_29)⟩, ⟨some 58, ov (S rB v_29)⟩, ⟨some 59, .one .und⟩, ⟨some 60, .one .und⟩, ⟨some 61, .one .und⟩, ⟨some 62, .one .und⟩, ⟨some 63, .one .und⟩, ⟨some 64, .one .und⟩, ⟨some 65, .one .und⟩, ⟨some 66, .one .und⟩, ⟨some 67, ov (S rB false)⟩, ⟨some 9, ov (S rB false)⟩])
           (rs := fun γ => [⟨cown go_9 (rU UInt8) v_8 0 gc_10, none, none, []⟩, ⟨cown go_12 (rU UInt8) v_11 (List.length v_11) gc_13, none, none, []⟩])
           (ds := [53, 54, 55, 56, 57, 58, 59, 60, 61, 62, 63, 64, 65, 66, 67, 9]) (bs := [0, 5, 6, 7]) (afts := [[], [], [], [], [], [], [], [], [], [], [], [], [], [], [], []]) (js := [0, 0]) mixed (.cons rfl (.cons rfl (.cons rfl (.cons rfl .nil)))) (fun _ => rfl)
           (by
      refine dS 1 (fun γ ρ B hb hd => op_move lb (.tmp (hb 5 _ rfl))) <| dS 2 (fun γ ρ B hb hd => op_lenH lb tu25 (tl hd 0 53)) <| dS 3 (fun γ ρ B hb hd => op_move lb (.tmp (hb 6 _ rfl))) <| dS 4 (fun γ ρ B hb hd => op_lenH lb tu25 (HasO.wk (tl hd 2 55) wkHH)) <| dS 5 (fun γ ρ B hb hd => op_cmpI lb (tl hd 1 54) (tl hd 3 56) (congrArg some hv_v_29)) ?_
      refine dS 6 (fun γ ρ B hb hd => op_move lb (tl hd 4 57)) <| dK 7 (fun γ ρ B hb hd => .no rfl (ltB rfl) (hl hd 5 58 rfl) hc18) <| dK 8 (fun γ ρ B hb hd => .no rfl (ltB rfl) (hl hd 5 58 rfl) hc18) <| dK 9 (fun γ ρ B hb hd => .no rfl (ltB rfl) (hl hd 5 58 rfl) hc18) <| dK 10 (fun γ ρ B hb hd => .no rfl (ltB rfl) (hl hd 5 58 rfl) hc18) ?_
      refine dK 11 (fun γ ρ B hb hd => .no rfl (ltB rfl) (hl hd 5 58 rfl) hc18) <| dK 12 (fun γ ρ B hb hd => .no rfl (ltB rfl) (hl hd 5 58 rfl) hc18) <| dK 13 (fun γ ρ B hb hd => .no rfl (ltB rfl) (hl hd 5 58 rfl) hc18) <| dK 14 (fun γ ρ B hb hd => .no rfl (ltB rfl) (hl hd 5 58 rfl) hc18) <| dS 15 (fun γ ρ B hb hd => op_pickF lb (tl hd 5 58) hc18 .cB) ?_
      refine dS 16 (fun γ ρ B hb hd => op_assign lb (tl hd 14 67)) ?_
      exact DSteps.nil)
           (by decide +kernel) (fun _ => rfl) rfl (fun _ => rfl) (fun _ => rfl) rfl (by decide) (by decide) (by decide +kernel) (fun _ d h => by cases h)
           (ρ' := fun γ => [(0, ov (S (rL r_api_Item) t_1)), (5, ov (HDR go_9 0 (List.length v_8) gc_10)), (6, ov (HL go_12 (rU UInt8) v_11 gc_13)), (7, ov (S rB x_28)), (9, ov (S rB false))])
           (X' := fun γ => [cown go_9 (rU UInt8) v_8 0 gc_10, cown go_12 (rU UInt8) v_11 (List.length v_11) gc_13])
           (fun γ ρ hb hd => (.cons (hb 0 _ rfl (by decide)) (.cons (hb 5 _ rfl (by decide)) (.cons (hb 6 _ rfl (by decide)) (.cons (hb 7 _ rfl (by decide)) (.cons (hdq hd 15 9 rfl) .nil)))))) (fun _ => rfl) (fun γ => ?_)
       refine JQ.at ⟨[(0, ov (S (rL r_api_Item) t_1)), (5, ov (HDR go_9 0 (List.length v_8) gc_10)), (6, ov (HL go_12 (rU UInt8) v_11 gc_13)), (7, ov (S rB x_28)), (9, ov (S rB false))], [cown go_9 (rU UInt8) v_8 0 gc_10, cown go_12 (rU UInt8) v_11 (List.length v_11) gc_13], []⟩ ?_
       replace hx16 := Option.some.inj hx16
       first | subst hx16 | clear hx16
       refine JQ.pre (Imp.slot (s := 6) rfl wkHH) ?_
       exact JQ.join () (Imp.norm (js := [0, 0]) rfl (.cons rfl (.cons rfl (.cons rfl (.cons rfl (.cons rfl .nil))))))
     refine jr <| jc (op_assign lb .cI) <| jn <| JC.block ?_
     refine JC.pre ?_ (JC.loop (γ := Unit) (stf := fun s q => ⟨[(0, ov (S (rL r_api_Item) t_1)), (1, ov (S (rL r_api_Item) a_2)), (5, ov (HDR go_9 0 (List.length v_8) gc_10)), (6, ov (HDR go_12 0 (List.length v_11) gc_13)), (7, ov (S rB s.1)), (8, ov (S (rI .i64) s.2))], [cown go_9 (rU UInt8) v_8 0 gc_10, cown go_12 (rU UInt8) v_11 0 gc_13], []⟩) (q := ()) hx10 ?_)
     · exact (Imp.norm (js := [0, 0]) rfl (.cons rfl (.cons rfl (.cons rfl (.cons rfl (.cons rfl (.cons rfl .nil)))))))
     intro s q x hx hr
     obtain ⟨x_19, x_20⟩ := s
     obtain _ := q
     change law11_FrameLists'4.b1 k t_1 a_2 x_19 x_20 = some x at hx
     unfold law11_FrameLists'4.b1 at hx
     refine JC.at ⟨[(0, ov (S (rL r_api_Item) t_1)), (1, ov (S (rL r_api_Item) a_2)), (5, ov (HDR go_9 0 (List.length v_8) gc_10)), (6, ov (HDR go_12 0 (List.length v_11) gc_13)), (7, ov (S rB x_19)), (8, ov (S (rI .i64) x_20))], [cown go_9 (rU UInt8) v_8 0 gc_10, cown go_12 (rU UInt8) v_11 0 gc_13], []⟩ ?_
     refine JC.seq ?_
     replace hx := bnd_inv hx
     obtain ⟨x_23, hx12, hq12⟩ := hx
     refine JC.seqJ (γ := Unit) (stj := fun _ => ⟨[(0, ov (S (rL r_api_Item) t_1)), (1, ov (S (rL r_api_Item) a_2)), (5, ov (HDR go_9 0 (List.length v_8) gc_10)), (6, ov (HDR go_12 0 (List.length v_11) gc_13)), (7, ov (S rB x_19)), (8, ov (S (rI .i64) x_20)), (41, ov (S rB x_23))], [cown go_9 (rU UInt8) v_8 0 gc_10, cown go_12 (rU UInt8) v_11 0 gc_13], []⟩) (fun _ => ?_) ?_
     · replace hq12 := iteB_inv hq12
       rcases hq12 with ⟨hc15, hq12⟩ | ⟨hc15, hq12⟩
       · refine JC.condT (.tmp rfl) hc15 ?_
         refine JC.skip ?_
         refine JQ.then <| JC.seq <| JC.block ?_
         replace hq12 := bnd_inv hq12
         obtain ⟨v_24, hv_v_24, hq12⟩ := hq12
         replace hq12 := bnd_inv hq12
         obtain ⟨v_25, hv_v_25, hq12⟩ := hq12
         replace hq12 := lt1_inv hq12
         obtain ⟨v_26, hv_v_26, hq12⟩ := hq12
         refine JC.anyE (kl := []) (kk := 0) (base := [(0, ov (S (rL r_api_Item) t_1)), (1, ov (S (rL r_api_Item) a_2)), (5, ov (HDR go_9 0 (List.length v_8) gc_10)), (6, ov (HDR go_12 0 (List.length v_11) gc_13)), (8, ov (S (rI .i64) x_20))])
             (fs := fun γ => [⟨some 44, ov (S (rL r_api_Item) t_1)⟩, ⟨some 45, ov (S (rI .i64) x_20)⟩, ⟨some 46, ov (PT r_api_Item v_24)⟩, ⟨some 47, ov (A r_api_Item v_24)⟩, ⟨some 48, ov (S (rL r_api_Item) a_2)⟩, ⟨some 49, ov (S (rI .i64) x_20)⟩, ⟨some 50, ov (PT r_api_Item v_25)⟩, ⟨some 51, ov (A r_api_Item v_25)⟩, ⟨some 52, ov (S rB v_26)⟩, ⟨some 7, ov (S rB v_26)⟩])
             (rs := fun γ => [⟨cown go_9 (rU UInt8) v_8 0 gc_10, none, none, []⟩, ⟨cown go_12 (rU UInt8) v_11 0 gc_13, none, none, []⟩])
             (ds := [44, 45, 46, 47, 48, 49, 50, 51, 52, 7]) (bs := [0, 1, 5, 6, 8]) (afts := [[], [], [], [], [], [], [], [], [], []]) (js := [0, 0]) mixed (.cons rfl (.cons rfl (.cons rfl (.cons rfl (.cons rfl .nil))))) (fun _ => rfl)
             (by
      refine dS 1 (fun γ ρ B hb hd => op_move lb (.tmp (hb 0 _ rfl))) <| dS 2 (fun γ ρ B hb hd => op_move lb (.tmp (hb 8 _ rfl))) <| dS 3 (fun γ ρ B hb hd => op_indexAddrLg lb tu22 tz33 (tl hd 0 44) (tl hd 1 45) hv_v_24) <| dS 4 (fun γ ρ B hb hd => op_loadPAg lb tA33 (tl hd 2 46) rfl) <| dS 5 (fun γ ρ B hb hd => op_move lb (.tmp (hb 1 _ rfl))) ?_
      refine dS 6 (fun γ ρ B hb hd => op_move lb (.tmp (hb 8 _ rfl))) <| dS 7 (fun γ ρ B hb hd => op_indexAddrLg lb tu22 tz33 (tl hd 4 48) (tl hd 5 49) hv_v_25) <| dS 8 (fun γ ρ B hb hd => op_loadPAg lb tA33 (tl hd 6 50) rfl) <| dS 9 (fun γ ρ B hb hd => op_eqA lb qa33 (by decide) ng33 (tl hd 3 47) (tl hd 7 51) hv_v_26) <| dS 10 (fun γ ρ B hb hd => op_assign lb (tl hd 8 52)) ?_
      exact DSteps.nil)
             (by decide +kernel) (fun _ => rfl) rfl (fun _ => rfl) (fun _ => rfl) rfl (by decide) (by decide) (by decide +kernel) (fun _ d h => by cases h)
             (ρ' := fun γ => [(0, ov (S (rL r_api_Item) t_1)), (1, ov (S (rL r_api_Item) a_2)), (5, ov (HDR go_9 0 (List.length v_8) gc_10)), (6, ov (HDR go_12 0 (List.length v_11) gc_13)), (7, ov (S rB v_26)), (8, ov (S (rI .i64) x_20))])
             (X' := fun γ => [cown go_9 (rU UInt8) v_8 0 gc_10, cown go_12 (rU UInt8) v_11 0 gc_13])
             (fun γ ρ hb hd => (.cons (hb 0 _ rfl (by decide)) (.cons (hb 1 _ rfl (by decide)) (.cons (hb 5 _ rfl (by decide)) (.cons (hb 6 _ rfl (by decide)) (.cons (hdq hd 9 7 rfl) (.cons (hb 8 _ rfl (by decide)) .nil))))))) (fun _ => rfl) (fun γ => ?_)
         refine JQ.at ⟨[(0, ov (S (rL r_api_Item) t_1)), (1, ov (S (rL r_api_Item) a_2)), (5, ov (HDR go_9 0 (List.length v_8) gc_10)), (6, ov (HDR go_12 0 (List.length v_11) gc_13)), (7, ov (S rB v_26)), (8, ov (S (rI .i64) x_20))], [cown go_9 (rU UInt8) v_8 0 gc_10, cown go_12 (rU UInt8) v_11 0 gc_13], []⟩ ?_
         refine JQ.outNB ?_
         refine JQ.then <| JC.region <| jmv rfl rfl ?_
         replace hq12 := lt1_inv hq12
         obtain ⟨v_27, hv_v_27, hq12⟩ := hq12
         refine jc (op_arI lb (.tmp rfl) .cI (congrArg some hv_v_27)) <| jc (op_assign lb (.tmp rfl)) <| JL.nil ?_
         replace hq12 := Option.some.inj hq12
         first | subst hq12 | clear hq12
         exact JQ.next () rfl (Imp.norm (js := [0, 0]) rfl (.cons rfl (.cons rfl (.cons rfl (.cons rfl (.cons rfl (.cons rfl .nil)))))))
       refine JC.condF (.tmp rfl) hc15 ?_
       refine JC.exit ?_
       refine JQ.outX ?_
       replace hq12 := Option.some.inj hq12
       first | subst hq12 | clear hq12
       have ht := hr _ rfl
       have hq11 := congrArg some ht
       clear hr ht
       refine JQ.outX ?_
       refine JQ.here ?_
       replace hq11 := Option.some.inj hq11
       first | subst hq11 | clear hq11
       exact JQ.join () (Imp.norm (js := [0, 0]) rfl (.cons rfl (.cons rfl (.cons rfl (.cons rfl .nil)))))
     refine JC.region <| jmv rfl rfl <| jmv rfl rfl <| jc (op_lenL lb tu22 (.tmp rfl)) ?_
     replace hx12 := lt1_inv hx12
     obtain ⟨v_21, hv_v_21, hx12⟩ := hx12
     refine jc (op_cmpI lb (.tmp rfl) (.tmp rfl) (congrArg some hv_v_21)) <| jmv rfl rfl ?_
     refine JL.cnd (sv := ov (S rB x_19)) (Guard.isT (ltB rfl) rfl rfl) rfl (ltB rfl) (fun hq_13 => op_move lb (.tmp rfl)) ?_
     replace hx12 := lt1_inv hx12
     obtain ⟨v_22, hv_v_22, hx12⟩ := hx12
     refine jc (op_pickCS lb (.tmp rfl) (fun hb14 => (HasO.cnd (.tmp rfl) hb14)) (fun hb14 => .cB) hv_v_22) <| JL.nil ?_
     replace hx12 := Option.some.inj hx12
     first | subst hx12 | clear hx12
     exact JQ.join () (Imp.norm (js := [0, 0]) rfl (.cons rfl (.cons rfl (.cons rfl (.cons rfl (.cons rfl (.cons rfl (.cons rfl .nil))))))))
   refine JC.region <| jmv rfl rfl <| jc (op_lenH lb tu25 (.tmp rfl)) ?_
   refine JL.sub ⟨[(0, ov (S (rL r_api_Item) t_1)), (1, ov (S (rL r_api_Item) a_2)), (5, ov (HDR go_9 0 (List.length v_8) gc_10)), (6, ov (HDR go_12 0 (List.length v_11) gc_13)), (22, ov (S (rI .i64) (List.length v_8 : Int)))], [cown go_12 (rU UInt8) v_11 0 gc_13, cown go_9 (rU UInt8) v_8 0 gc_10], []⟩ (.cons rfl (.cons rfl (.cons rfl (.cons rfl (.cons rfl .nil))))) rfl rfl ?_
   replace hx6 := lt1_inv hx6
   obtain ⟨v_14, hv_v_14, hx6⟩ := hx6
   refine jc (op_cmpI lb (.tmp rfl) .cI (congrArg some hv_v_14)) <| jmv rfl rfl ?_
   replace hx6 := iteB_inv hx6
   rcases hx6 with ⟨hc8, hx6⟩ | ⟨hc8, hx6⟩
   · refine JL.sk (.no rfl (ltB rfl) rfl hc8) <| JL.sk (.no rfl (ltB rfl) rfl hc8) <| JL.sk (.no rfl (ltB rfl) rfl hc8) <| jc (op_pickT lb (.tmp rfl) hc8 .cB) <| JL.nil ?_
     replace hx6 := Option.some.inj hx6
     first | subst hx6 | clear hx6
     exact JQ.join () (Imp.norm (js := [1, 0]) rfl (.cons rfl (.cons rfl (.cons rfl (.cons rfl (.cons rfl .nil))))))
   refine JL.run (.yes rfl (ltB rfl) rfl hc8) (op_move lb (.tmp rfl)) ?_
   refine JL.run (.yes rfl (ltB rfl) rfl hc8) (op_lenH lb tu25 (.tmp rfl)) ?_
   replace hx6 := lt1_inv hx6
   obtain ⟨v_15, hv_v_15, hx6⟩ := hx6
   refine JL.run (.yes rfl (ltB rfl) rfl hc8) (op_cmpI lb (.tmp rfl) .cI (congrArg some hv_v_15)) ?_
   refine jc (op_pickF lb (.tmp rfl) hc8 (.tmp rfl)) <| JL.nil ?_
   replace hx6 := Option.some.inj hx6
   first | subst hx6 | clear hx6
   exact JQ.join () (Imp.norm (js := [1, 0]) rfl (.cons rfl (.cons rfl (.cons rfl (.cons rfl (.cons rfl .nil))))))
 refine JC.region <| jmv rfl rfl ?_
 replace hx1 := bnd_inv hx1
 obtain ⟨v_3, hv_v_3, hx1⟩ := hx1
 refine jx (op_call (js := []) ld cl4 (sim_ref11_Long k t_1 v_3 hv_v_3) .func (.cons (.tmp rfl) .nil) rfl) (fun _ => ?_)
 refine jmv rfl rfl ?_
 refine JL.cnd (sv := ov (S (rL r_api_Item) a_2)) (Guard.isF (ltB rfl) rfl rfl) rfl (ltB rfl) (fun hq_2 => op_move lb (.tmp rfl)) ?_
 replace hx1 := bnd_inv hx1
 obtain ⟨v_4, hv_v_4, hx1⟩ := hx1
 refine JL.cnd (sv := ov (S rB v_4)) (Guard.isF (ltB rfl) rfl rfl) rfl (ltB rfl) (fun hq_3 => (op_call (js := []) ld cl4 (sim_ref11_Long k a_2 v_4 (ifT hv_v_4 hq_3)) .func (.cons (HasO.cnd (.tmp rfl) (notT (notF hq_3))) .nil) rfl).post (fun _ => Imp.refl)) ?_
 replace hx1 := lt1_inv hx1
 obtain ⟨v_5, hv_v_5, hx1⟩ := hx1
 refine jc (op_pickCS lb (.tmp rfl) (fun hb4 => .cB) (fun hb4 => (HasO.cnd (.tmp rfl) (notT hb4))) hv_v_5) <| JL.nil ?_
 replace hx1 := Option.some.inj hx1
 first | subst hx1 | clear hx1
 exact JQ.join () (Imp.norm (js := []) rfl (.cons rfl (.cons rfl (.cons rfl .nil))))

end Go.Proofs.Ytklnihlchhhhlaa
