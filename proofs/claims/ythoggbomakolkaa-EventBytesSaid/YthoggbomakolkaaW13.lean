/- Walks. -/
import Derived.Test.YthoggbomakolkaaT
import Derived.Test.YthoggbomakolkaaW4
import Derived.Test.YthoggbomakolkaaW5
namespace Go.Proofs.Ythoggbomakolkaa
open Go Fw
set_option linter.unusedVariables false
set_option maxRecDepth 100000
set_option maxHeartbeats 4000000

theorem sim_wire_Blob'2 (k : Nat) (o_1 : Nat) (n_2 : Nat) (x_3 : (List UInt8)) (go_4 : Option Nat) (gc_5 : Nat) (r : (List UInt8) × Int) (hm : wire_Blob'2 k o_1 n_2 x_3 = some r) : Sim Try.prog 55 [HDX go_4 (o_1 * 1) n_2] [cown go_4 (rU UInt8) x_3 0 gc_5] (γ := Option Nat × Nat) (fun q => [cown q.1 (rU UInt8) r.1 0 q.2, cown go_4 (rU UInt8) x_3 0 gc_5]) (fun q => .tup [.val (HDR q.1 0 (List.length r.1) q.2), .val (S (rI .i64) r.2)]) := by
 unfold wire_Blob'2 at hm
 refine Sim.of Try.func55 rfl rfl (Nat.le_of_ble_eq_true rfl) (fun e0 w0 => ?_)
 refine JC.at ⟨[(0, ov (HDX go_4 (o_1 * 1) n_2))], [cown go_4 (rU UInt8) x_3 0 gc_5], []⟩ ?_
 refine JC.seq ?_
 refine JC.region ?_
 refine jc (op_assign lb HasO.nilH) ?_
 refine jc (op_assign lb .cI) ?_
 refine JL.nil ?_
 refine JQ.then ?_
 refine JC.seq ?_
 refine JC.seq ?_
 refine JC.region ?_
 refine jc (op_move lb (.tmp rfl)) ?_
 refine jc (op_lenX lb tu35 (.tmp rfl)) ?_
 replace hm := lt1_inv hm
 obtain ⟨v_6, hv_v_6, hm⟩ := hm
 refine jc (op_cmpI lb (.tmp rfl) .cI (congrArg some hv_v_6)) ?_
 refine JL.nil ?_
 refine JQ.then ?_
 replace hm := iteB_inv hm
 rcases hm with ⟨hc1, hm⟩ | ⟨hc1, hm⟩
 · refine JC.condT (.tmp rfl) hc1 ?_
   refine JC.seq ?_
   refine JC.region ?_
   refine jc (op_assign lb HasO.nilH) ?_
   refine jc (op_assign lb .cI) ?_
   refine JL.nil ?_
   refine JQ.then ?_
   refine JC.ret ?_
   refine JQ.outR ?_
   replace hm := Option.some.inj hm
   subst hm
   refine JQ.pre (Imp.nilown (rU UInt8)) ?_
   exact JQ.done (js := [1, 0]) (ss := [.val (HDR none 0 (List.length ([] : (List UInt8))) (0)), .val (S (rI .i64) (3 : Int))]) (none, 0) (.inl rfl) (.nil rfl) rfl (.cons (.tmp rfl) (.cons (.tmp rfl) .nil)) rfl rfl rfl
 · refine JC.condF (.tmp rfl) hc1 ?_
   refine JC.skip ?_
   refine JQ.then ?_
   refine JC.seq ?_
   refine JC.region ?_
   refine jc (op_move lb (.tmp rfl)) ?_
   refine jc (op_lenX lb tu35 (.tmp rfl)) ?_
   replace hm := lt1_inv hm
   obtain ⟨v_7, hv_v_7, hm⟩ := hm
   refine jc (op_convIU lb tu3 tu22 (.tmp rfl) hv_v_7) ?_
   replace hm := bnd_inv hm
   obtain ⟨⟨v_8, v_9⟩, hv_v_8, hm⟩ := hm
   refine jx (op_call (js := []) ld cl57 (sim_wire_Put k v_7 (2 : Int) (v_8, v_9) hv_v_8) .func (.cons (.tmp rfl) (.cons .cI .nil)) rfl) (fun q => ?_)
   obtain ⟨go_10, gc_11⟩ := q
   refine jc (op_move lb (.tmp rfl)) ?_
   refine JL.sub ⟨[(0, ov (HDX go_4 (o_1 * 1) n_2)), (9, .tup [.val (HDR go_10 0 (List.length v_8) gc_11), .val (S (rI .i64) v_9)])], [cown go_10 (rU UInt8) v_8 0 gc_11, cown go_4 (rU UInt8) x_3 0 gc_5], []⟩ (.cons rfl (.cons rfl .nil)) rfl rfl ?_
   refine jc (op_extract (i := 0) lb (.tmp rfl) rfl) ?_
   refine jc (op_extract (i := 1) lb (.tmp rfl) rfl) ?_
   refine jc (op_assign lb (.tmp rfl)) ?_
   refine jc (op_assign lb (.tmp rfl)) ?_
   refine JL.nil ?_
   refine JQ.then ?_
   refine JC.seq ?_
   refine JC.region ?_
   refine jc (op_move lb (.tmp rfl)) ?_
   refine jc (op_move lb (.tmp rfl)) ?_
   replace hm := bnd_inv hm
   obtain ⟨v_12, hv_v_12, hm⟩ := hm
   refine jx (op_appendXV (j := 0) (j' := 1) (o := o_1) lb tu35 tu35 rfl tB5 rfl (Nat.lt_of_lt_of_le Nat.zero_lt_one (Nat.le_of_ble_eq_true rfl)) (Nat.lt_of_lt_of_le Nat.zero_lt_one (Nat.le_of_ble_eq_true rfl)) rfl (.tmp rfl) rfl (.tmp rfl) hv_v_12) (fun q => ?_)
   obtain ⟨go_13, gc_14⟩ := q
   refine jc (op_assign lb (.tmp rfl)) ?_
   refine jc (op_assign lb .cI) ?_
   refine JL.nil ?_
   refine JQ.then ?_
   refine JC.ret ?_
   replace hm := Option.some.inj hm
   subst hm
   exact JQ.done (js := [0, 0]) (ss := [.val (HDR go_13 0 (List.length v_12) gc_14), .val (S (rI .i64) (0 : Int))]) (go_13, gc_14) (.inl rfl) (.nil rfl) rfl (.cons (.tmp rfl) (.cons (.tmp rfl) .nil)) rfl rfl rfl

theorem sim_event_bytes'2 (k : Nat) (ID_1 : api_Dot) (Topic_2 : (List UInt8)) (o_3 : Nat) (n_4 : Nat) (Past_5 : (Vector UInt64 16)) (To_6 : (List api_Dest)) (x_7 : (List UInt8)) (go_8 : Option Nat) (gc_9 : Nat) (r : (List UInt8)) (hm : event_bytes'2 k ID_1 Topic_2 o_3 n_4 Past_5 To_6 x_7 = some r) : Sim Try.prog 28 [A (rP r_api_Dot (rP rS (rP (rW (HDX go_8 (o_3 * 1) n_4)) (rP (rV 16 (rU UInt64)) (rP (rL r_api_Dest) r0))))) (ID_1, (Topic_2, ((), (Past_5, (To_6, ())))))] [cown go_8 (rU UInt8) x_7 0 gc_9] (γ := Option Nat × Nat) (fun q => [cown q.1 (rU UInt8) r 0 q.2, cown go_8 (rU UInt8) x_7 0 gc_9]) (fun q => .one (.val (HDR q.1 0 (List.length r) q.2))) := by
 unfold event_bytes'2 at hm
 refine Sim.of Try.func28 rfl rfl (Nat.le_of_ble_eq_true rfl) (fun e0 w0 => ?_)
 refine JC.at ⟨[(0, ov (A (rP r_api_Dot (rP rS (rP (rW (HDX go_8 (o_3 * 1) n_4)) (rP (rV 16 (rU UInt64)) (rP (rL r_api_Dest) r0))))) (ID_1, (Topic_2, ((), (Past_5, (To_6, ())))))))], [cown go_8 (rU UInt8) x_7 0 gc_9], []⟩ ?_
 refine JC.seq ?_
 refine JC.region ?_
 refine jx (op_boxA lb (.tmp rfl)) (fun q => ?_)
 obtain ⟨gb_10, hqq⟩ : ∃ z, z = q := ⟨_, rfl⟩
 subst hqq
 refine jc (op_assign lb HasO.nilH) ?_
 refine JL.nil ?_
 refine JQ.then ?_
 refine JC.seq ?_
 refine JC.region ?_
 refine jx (op_alloc lb tZ35 zr35) (fun q => ?_)
 obtain ⟨gb_11, hqq⟩ : ∃ z, z = q := ⟨_, rfl⟩
 subst hqq
 refine JL.nil ?_
 refine JQ.then ?_
 refine JC.seq ?_
 refine JC.region ?_
 refine jc (op_makeFunc lb (.cons (.tmp rfl) .nil)) ?_
 refine jc (op_assign lb (.tmp rfl)) ?_
 refine JL.nil ?_
 refine JQ.then ?_
 refine JC.seq ?_
 refine JC.region ?_
 refine jc (op_move lb (.tmp rfl)) ?_
 refine jc (op_fieldAddr (off := 0) lb tf38_0 (.tmp rfl)) ?_
 refine jc (op_loadA (j := 1) lb tA24 (.tmp rfl) rfl (Comp.trans (Comp.self (rP r_api_Dot (rP rS (rP (rW (HDX go_8 (o_3 * 1) n_4)) (rP (rV 16 (rU UInt64)) (rP (rL r_api_Dest) r0))))) (ID_1, (Topic_2, ((), (Past_5, (To_6, ())))))) (Comp.at' (Comp.inF (Comp.self r_api_Dot ID_1) (Nat.le_of_ble_eq_true rfl)) (by rfl : _ = 0)) (Nat.le_of_ble_eq_true rfl)) rfl) ?_
 refine JL.sub ⟨[(1, ov (PTR gb_10 0)), (3, ov (PTR gb_11 0)), (4, ov (CLO 53 [PTR gb_11 0])), (8, ov (CLO 53 [PTR gb_11 0])), (10, ov (A r_api_Dot ID_1))], [cown go_8 (rU UInt8) x_7 0 gc_9, cvar gb_10 (rP r_api_Dot (rP rS (rP (rW (HDX go_8 (o_3 * 1) n_4)) (rP (rV 16 (rU UInt64)) (rP (rL r_api_Dest) r0))))) (ID_1, (Topic_2, ((), (Past_5, (To_6, ()))))), cvar gb_11 (rW (HDR none 0 0 0)) ()], []⟩ (.cons rfl (.cons rfl (.cons rfl (.cons rfl (.cons rfl .nil))))) rfl rfl ?_
 replace hm := bnd_inv hm
 obtain ⟨⟨v_12, v_13⟩, hv_v_12, hm⟩ := hm
 refine jx (op_call (js := []) ld cl54 (sim_wire_Dot k ID_1 (v_12, v_13) hv_v_12) .func (.cons (.tmp rfl) .nil) rfl) (fun q => ?_)
 obtain ⟨go_14, gc_15⟩ := q
 refine jc (op_extract (i := 0) lb (.tmp rfl) rfl) ?_
 refine jc (op_extract (i := 1) lb (.tmp rfl) rfl) ?_
 replace hm := bnd_inv hm
 obtain ⟨x_16, hv_x_16, hm⟩ := hm
 refine JL.pre (Imp.frz (j := 0) rfl (ImpK.tupAt (s := 11) (i := 0) (q := HL go_14 (rU UInt8) v_12 gc_15) rfl rfl ownHL (ImpK.slotH (s := 12) rfl ImpK.refl))) ?_
 refine jx (op_call (js := [3]) ld cl53 (sim_event_bytes_1 k v_12 v_13 gb_11 x_16 hv_x_16) (.tmp rfl) (.cons (HasO.wk (.tmp rfl) wkHL) (.cons (.tmp rfl) .nil)) rfl) (fun q => ?_)
 obtain ⟨go_17, gc_18⟩ := q
 refine JL.nrm ⟨[(1, ov (PTR gb_10 0)), (3, ov (PTR gb_11 0)), (4, ov (CLO 53 [PTR gb_11 0]))], [cvar gb_11 (rW (HDR go_17 0 (List.length x_16) gc_18)) (), cown go_17 (rU UInt8) x_16 0 gc_18, cown go_8 (rU UInt8) x_7 0 gc_9, cvar gb_10 (rP r_api_Dot (rP rS (rP (rW (HDX go_8 (o_3 * 1) n_4)) (rP (rV 16 (rU UInt64)) (rP (rL r_api_Dest) r0))))) (ID_1, (Topic_2, ((), (Past_5, (To_6, ())))))], []⟩ [0, 0, 1, 1] rfl (.cons rfl (.cons rfl (.cons rfl .nil))) rfl ?_
 refine JL.nil ?_
 refine JQ.then ?_
 refine JC.seq ?_
 refine JC.region ?_
 refine jc (op_move lb (.tmp rfl)) ?_
 refine jc (op_fieldAddr (off := 2) lb tf38_1 (.tmp rfl)) ?_
 refine jc (op_loadS (j := 3) lb tS9 (.tmp rfl) rfl (Comp.trans (Comp.self (rP r_api_Dot (rP rS (rP (rW (HDX go_8 (o_3 * 1) n_4)) (rP (rV 16 (rU UInt64)) (rP (rL r_api_Dest) r0))))) (ID_1, (Topic_2, ((), (Past_5, (To_6, ())))))) (Comp.at' (Comp.inS (Comp.inF (Comp.self rS Topic_2) (Nat.le_of_ble_eq_true rfl))) (by rfl : _ = 2)) (Nat.le_of_ble_eq_true rfl)) rfl rfl) ?_
 refine jc (op_convSB lb tu9 tu35 tu5 (.tmp rfl)) ?_
 replace hm := bnd_inv hm
 obtain ⟨⟨v_19, v_20⟩, hv_v_19, hm⟩ := hm
 refine jx (op_call (js := []) ld cl55 (sim_wire_Blob k Topic_2 (v_19, v_20) hv_v_19) .func (.cons (.tmp rfl) .nil) rfl) (fun q => ?_)
 obtain ⟨go_21, gc_22⟩ := q
 refine jc (op_extract (i := 0) lb (.tmp rfl) rfl) ?_
 refine jc (op_extract (i := 1) lb (.tmp rfl) rfl) ?_
 replace hm := bnd_inv hm
 obtain ⟨x_23, hv_x_23, hm⟩ := hm
 refine JL.pre (Imp.frz (j := 0) rfl (ImpK.tupAt (s := 19) (i := 0) (q := HL go_21 (rU UInt8) v_19 gc_22) rfl rfl ownHL (ImpK.slotH (s := 20) rfl ImpK.refl))) ?_
 refine jx (op_call (js := [1, 1]) ld cl53 (sim_event_bytes_1'2 k v_19 v_20 x_16 gb_11 go_17 gc_18 x_23 hv_x_23) (.tmp rfl) (.cons (HasO.wk (.tmp rfl) wkHL) (.cons (.tmp rfl) .nil)) rfl) (fun q => ?_)
 obtain ⟨go_24, gc_25⟩ := q
 refine JL.nrm ⟨[(1, ov (PTR gb_10 0)), (3, ov (PTR gb_11 0)), (4, ov (CLO 53 [PTR gb_11 0]))], [cvar gb_11 (rW (HDR go_24 0 (List.length x_23) gc_25)) (), cown go_24 (rU UInt8) x_23 0 gc_25, cown go_8 (rU UInt8) x_7 0 gc_9, cvar gb_10 (rP r_api_Dot (rP rS (rP (rW (HDX go_8 (o_3 * 1) n_4)) (rP (rV 16 (rU UInt64)) (rP (rL r_api_Dest) r0))))) (ID_1, (Topic_2, ((), (Past_5, (To_6, ())))))], []⟩ [0, 0, 1, 1] rfl (.cons rfl (.cons rfl (.cons rfl .nil))) rfl ?_
 refine JL.nil ?_
 refine JQ.then ?_
 refine JC.seq ?_
 refine JC.region ?_
 refine jc (op_move lb (.tmp rfl)) ?_
 refine jc (op_fieldAddr (off := 3) lb tf38_2 (.tmp rfl)) ?_
 refine jc (op_loadW (j := 3) lb tS35 (.tmp rfl) rfl (Comp.trans (Comp.self (rP r_api_Dot (rP rS (rP (rW (HDX go_8 (o_3 * 1) n_4)) (rP (rV 16 (rU UInt64)) (rP (rL r_api_Dest) r0))))) (ID_1, (Topic_2, ((), (Past_5, (To_6, ())))))) (Comp.at' (Comp.inS (Comp.inS (Comp.inF (Comp.self (rW (HDX go_8 (o_3 * 1) n_4)) ()) (Nat.le_of_ble_eq_true rfl)))) (by rfl : _ = 3)) (Nat.le_of_ble_eq_true rfl))) ?_
 replace hm := bnd_inv hm
 obtain ⟨⟨v_26, v_27⟩, hv_v_26, hm⟩ := hm
 refine jx (op_call (js := [2]) ld cl55 (sim_wire_Blob'2 k o_3 n_4 x_7 go_8 gc_9 (v_26, v_27) hv_v_26) .func (.cons (.tmp rfl) .nil) rfl) (fun q => ?_)
 obtain ⟨go_28, gc_29⟩ := q
 refine jc (op_extract (i := 0) lb (.tmp rfl) rfl) ?_
 refine jc (op_extract (i := 1) lb (.tmp rfl) rfl) ?_
 replace hm := bnd_inv hm
 obtain ⟨x_30, hv_x_30, hm⟩ := hm
 refine JL.pre (Imp.frz (j := 0) rfl (ImpK.tupAt (s := 26) (i := 0) (q := HL go_28 (rU UInt8) v_26 gc_29) rfl rfl ownHL (ImpK.slotH (s := 27) rfl ImpK.refl))) ?_
 refine jx (op_call (js := [2, 2]) ld cl53 (sim_event_bytes_1'2 k v_26 v_27 x_23 gb_11 go_24 gc_25 x_30 hv_x_30) (.tmp rfl) (.cons (HasO.wk (.tmp rfl) wkHL) (.cons (.tmp rfl) .nil)) rfl) (fun q => ?_)
 obtain ⟨go_31, gc_32⟩ := q
 refine JL.nrm ⟨[(1, ov (PTR gb_10 0)), (3, ov (PTR gb_11 0)), (4, ov (CLO 53 [PTR gb_11 0]))], [cvar gb_11 (rW (HDR go_31 0 (List.length x_30) gc_32)) (), cown go_31 (rU UInt8) x_30 0 gc_32, cown go_8 (rU UInt8) x_7 0 gc_9, cvar gb_10 (rP r_api_Dot (rP rS (rP (rW (HDX go_8 (o_3 * 1) n_4)) (rP (rV 16 (rU UInt64)) (rP (rL r_api_Dest) r0))))) (ID_1, (Topic_2, ((), (Past_5, (To_6, ())))))], []⟩ [0, 0, 1, 1] rfl (.cons rfl (.cons rfl (.cons rfl .nil))) rfl ?_
 refine JL.nil ?_
 refine JQ.then ?_
 refine JC.seq ?_
 refine JC.region ?_
 refine jc (op_move lb (.tmp rfl)) ?_
 refine jc (op_fieldAddr (off := 4) lb tf38_3 (.tmp rfl)) ?_
 refine jc (op_loadA (j := 3) lb tA26 (.tmp rfl) rfl (Comp.trans (Comp.self (rP r_api_Dot (rP rS (rP (rW (HDX go_8 (o_3 * 1) n_4)) (rP (rV 16 (rU UInt64)) (rP (rL r_api_Dest) r0))))) (ID_1, (Topic_2, ((), (Past_5, (To_6, ())))))) (Comp.at' (Comp.inS (Comp.inS (Comp.inS (Comp.inF (Comp.self (rV 16 (rU UInt64)) Past_5) (Nat.le_of_ble_eq_true rfl))))) (by rfl : _ = 4)) (Nat.le_of_ble_eq_true rfl)) rfl) ?_
 replace hm := bnd_inv hm
 obtain ⟨v_33, hv_v_33, hm⟩ := hm
 refine jx (op_call (js := []) ld cl56 (sim_wire_Vector k Past_5 v_33 hv_v_33) .func (.cons (.tmp rfl) .nil) rfl) (fun q => ?_)
 obtain ⟨go_34, gc_35⟩ := q
 replace hm := bnd_inv hm
 obtain ⟨x_36, hv_x_36, hm⟩ := hm
 refine JL.pre (Imp.frz (j := 0) rfl (ImpK.slotH (s := 33) rfl ImpK.refl)) ?_
 refine jx (op_call (js := [1, 1]) ld cl53 (sim_event_bytes_1'2 k v_33 (0 : Int) x_30 gb_11 go_31 gc_32 x_36 hv_x_36) (.tmp rfl) (.cons (HasO.wk (.tmp rfl) wkHL) (.cons .cI .nil)) rfl) (fun q => ?_)
 obtain ⟨go_37, gc_38⟩ := q
 refine JL.nrm ⟨[(1, ov (PTR gb_10 0)), (3, ov (PTR gb_11 0)), (4, ov (CLO 53 [PTR gb_11 0]))], [cvar gb_11 (rW (HDR go_37 0 (List.length x_36) gc_38)) (), cown go_37 (rU UInt8) x_36 0 gc_38, cown go_8 (rU UInt8) x_7 0 gc_9, cvar gb_10 (rP r_api_Dot (rP rS (rP (rW (HDX go_8 (o_3 * 1) n_4)) (rP (rV 16 (rU UInt64)) (rP (rL r_api_Dest) r0))))) (ID_1, (Topic_2, ((), (Past_5, (To_6, ())))))], []⟩ [0, 0, 1, 1] rfl (.cons rfl (.cons rfl (.cons rfl .nil))) rfl ?_
 refine JL.nil ?_
 refine JQ.then ?_
 refine JC.seq ?_
 refine JC.region ?_
 refine jc (op_move lb (.tmp rfl)) ?_
 refine jc (op_fieldAddr (off := 20) lb tf38_4 (.tmp rfl)) ?_
 refine jc (op_loadS (j := 3) lb tS36 (.tmp rfl) rfl (Comp.trans (Comp.self (rP r_api_Dot (rP rS (rP (rW (HDX go_8 (o_3 * 1) n_4)) (rP (rV 16 (rU UInt64)) (rP (rL r_api_Dest) r0))))) (ID_1, (Topic_2, ((), (Past_5, (To_6, ())))))) (Comp.at' (Comp.inS (Comp.inS (Comp.inS (Comp.inS (Comp.inF (Comp.self (rL r_api_Dest) To_6) (Nat.le_of_ble_eq_true rfl)))))) (by rfl : _ = 20)) (Nat.le_of_ble_eq_true rfl)) rfl rfl) ?_
 refine jc (op_lenL lb tu36 (.tmp rfl)) ?_
 replace hm := lt1_inv hm
 obtain ⟨v_39, hv_v_39, hm⟩ := hm
 refine jc (op_convIU lb tu3 tu22 (.tmp rfl) hv_v_39) ?_
 replace hm := bnd_inv hm
 obtain ⟨⟨v_40, v_41⟩, hv_v_40, hm⟩ := hm
 refine jx (op_call (js := []) ld cl57 (sim_wire_Put k v_39 (2 : Int) (v_40, v_41) hv_v_40) .func (.cons (.tmp rfl) (.cons .cI .nil)) rfl) (fun q => ?_)
 obtain ⟨go_42, gc_43⟩ := q
 refine jc (op_extract (i := 0) lb (.tmp rfl) rfl) ?_
 refine jc (op_extract (i := 1) lb (.tmp rfl) rfl) ?_
 replace hm := bnd_inv hm
 obtain ⟨x_44, hv_x_44, hm⟩ := hm
 refine JL.pre (Imp.frz (j := 0) rfl (ImpK.tupAt (s := 40) (i := 0) (q := HL go_42 (rU UInt8) v_40 gc_43) rfl rfl ownHL (ImpK.slotH (s := 41) rfl ImpK.refl))) ?_
 refine jx (op_call (js := [1, 1]) ld cl53 (sim_event_bytes_1'2 k v_40 v_41 x_36 gb_11 go_37 gc_38 x_44 hv_x_44) (.tmp rfl) (.cons (HasO.wk (.tmp rfl) wkHL) (.cons (.tmp rfl) .nil)) rfl) (fun q => ?_)
 obtain ⟨go_45, gc_46⟩ := q
 refine JL.nrm ⟨[(1, ov (PTR gb_10 0)), (3, ov (PTR gb_11 0)), (4, ov (CLO 53 [PTR gb_11 0]))], [cvar gb_11 (rW (HDR go_45 0 (List.length x_44) gc_46)) (), cown go_45 (rU UInt8) x_44 0 gc_46, cown go_8 (rU UInt8) x_7 0 gc_9, cvar gb_10 (rP r_api_Dot (rP rS (rP (rW (HDX go_8 (o_3 * 1) n_4)) (rP (rV 16 (rU UInt64)) (rP (rL r_api_Dest) r0))))) (ID_1, (Topic_2, ((), (Past_5, (To_6, ())))))], []⟩ [0, 0, 1, 1] rfl (.cons rfl (.cons rfl (.cons rfl .nil))) rfl ?_
 refine JL.nil ?_
 refine JQ.then ?_
 replace hm := bnd_inv hm
 obtain ⟨x_69, hx1, hq1⟩ := hm
 refine JC.seqJ (γ := Option Nat × Nat) (stj := fun q => ⟨[(3, ov (PTR gb_11 0))], [cvar gb_11 (rW (HDR q.1 0 (List.length x_69) q.2)) (), cown q.1 (rU UInt8) x_69 0 q.2, cown go_8 (rU UInt8) x_7 0 gc_9], []⟩) (fun q => ?_) ?_
 · obtain ⟨go_70, gc_71⟩ := q
   refine JC.at ⟨[(3, ov (PTR gb_11 0))], [cvar gb_11 (rW (HDR go_70 0 (List.length x_69) gc_71)) (), cown go_70 (rU UInt8) x_69 0 gc_71, cown go_8 (rU UInt8) x_7 0 gc_9], []⟩ ?_
   refine JC.seq ?_
   refine JC.region ?_
   refine jc (op_loadW (j := 0) lb tS35 (.tmp rfl) rfl (Comp.self (rW (HDR go_70 0 (List.length x_69) gc_71)) ())) ?_
   refine jc (op_assign lb (.tmp rfl)) ?_
   refine JL.nil ?_
   refine JQ.then ?_
   refine JC.ret ?_
   replace hq1 := Option.some.inj hq1
   subst hq1
   exact JQ.done (js := [1, 1]) (ss := [.val (HDR go_70 0 (List.length x_69) gc_71)]) (go_70, gc_71) (.inl rfl) (.nil rfl) rfl (.cons (.tmp rfl) .nil) rfl rfl rfl
 · refine JC.seq ?_
   refine JC.region ?_
   refine jc (op_fieldAddr (off := 20) lb tf38_4 (.tmp rfl)) ?_
   refine jc (op_loadS (j := 3) lb tS36 (.tmp rfl) rfl (Comp.trans (Comp.self (rP r_api_Dot (rP rS (rP (rW (HDX go_8 (o_3 * 1) n_4)) (rP (rV 16 (rU UInt64)) (rP (rL r_api_Dest) r0))))) (ID_1, (Topic_2, ((), (Past_5, (To_6, ())))))) (Comp.at' (Comp.inS (Comp.inS (Comp.inS (Comp.inS (Comp.inF (Comp.self (rL r_api_Dest) To_6) (Nat.le_of_ble_eq_true rfl)))))) (by rfl : _ = 20)) (Nat.le_of_ble_eq_true rfl)) rfl rfl) ?_
   refine jc (op_lenL lb tu36 (.tmp rfl)) ?_
   refine jc (op_move lb .cI) ?_
   refine JL.nil ?_
   refine JQ.then ?_
   refine JC.block ?_
   refine JC.pre ?_ (JC.loop (γ := Option Nat × Nat) (stf := fun s q => ⟨[(3, ov (PTR gb_11 0)), (4, ov (CLO 53 [PTR gb_11 0])), (45, ov (S (rL r_api_Dest) To_6)), (46, ov (S (rI .i64) (List.length To_6 : Int))), (47, ov (S (rI .i64) s.2))], [cvar gb_11 (rW (HDR q.1 0 (List.length s.1) q.2)) (), cown q.1 (rU UInt8) s.1 0 q.2, cown go_8 (rU UInt8) x_7 0 gc_9], []⟩) (q := (go_45, gc_46)) hx1 ?_)
   · exact (Imp.norm (js := [0, 0, 0]) rfl (.cons rfl (.cons rfl (.cons rfl (.cons rfl (.cons rfl .nil))))))
   · intro s q x hx hr
     obtain ⟨x_47, x_48⟩ := s
     obtain ⟨go_49, gc_50⟩ := q
     change event_bytes'2.b1 k To_6 x_47 x_48 = some x at hx
     unfold event_bytes'2.b1 at hx
     refine JC.at ⟨[(3, ov (PTR gb_11 0)), (4, ov (CLO 53 [PTR gb_11 0])), (45, ov (S (rL r_api_Dest) To_6)), (46, ov (S (rI .i64) (List.length To_6 : Int))), (47, ov (S (rI .i64) x_48))], [cvar gb_11 (rW (HDR go_49 0 (List.length x_47) gc_50)) (), cown go_49 (rU UInt8) x_47 0 gc_50, cown go_8 (rU UInt8) x_7 0 gc_9], []⟩ ?_
     refine JC.seq ?_
     refine JC.region ?_
     replace hx := lt1_inv hx
     obtain ⟨v_51, hv_v_51, hx⟩ := hx
     refine jc (op_cmpI lb (.tmp rfl) (.tmp rfl) (congrArg some hv_v_51)) ?_
     refine JL.nil ?_
     refine JQ.then ?_
     refine JC.seq ?_
     replace hx := iteB_inv hx
     rcases hx with ⟨hc3, hx⟩ | ⟨hc3, hx⟩
     · refine JC.condT (.tmp rfl) hc3 ?_
       refine JC.skip ?_
       refine JQ.then ?_
       refine JC.seq ?_
       refine JC.block ?_
       refine JC.seq ?_
       refine JC.region ?_
       replace hx := bnd_inv hx
       obtain ⟨v_52, hv_v_52, hx⟩ := hx
       refine jc (op_indexAddrLg lb tu36 tz59 (.tmp rfl) (.tmp rfl) hv_v_52) ?_
       refine jc (op_loadPAg lb tA59 (.tmp rfl) rfl) ?_
       refine jx (op_alloc lb tZ59 zr59) (fun q => ?_)
       obtain ⟨gb_53, hqq⟩ : ∃ z, z = q := ⟨_, rfl⟩
       subst hqq
       refine jc (op_storeA (j := 3) tA59 (.tmp rfl) (.tmp rfl) rfl (UpdR.self (by rfl)) rfl) ?_
       refine JL.nil ?_
       refine JQ.then ?_
       refine JC.seq ?_
       refine JC.region ?_
       refine jc (op_move lb (.tmp rfl)) ?_
       refine jc (op_fieldAddr (off := 0) lb tf59_0 (.tmp rfl)) ?_
       refine jc (op_loadA (j := 3) lb tA24 (.tmp rfl) rfl (Comp.trans (Comp.self r_api_Dest v_52) (comp_api_Dest_Dot v_52) (Nat.le_of_ble_eq_true rfl)) rfl) ?_
       refine JL.sub ⟨[(3, ov (PTR gb_11 0)), (4, ov (CLO 53 [PTR gb_11 0])), (6, ov (PTR gb_53 0)), (45, ov (S (rL r_api_Dest) To_6)), (46, ov (S (rI .i64) (List.length To_6 : Int))), (47, ov (S (rI .i64) x_48)), (51, ov (CLO 53 [PTR gb_11 0])), (53, ov (A r_api_Dot v_52.Dot))], [cvar gb_11 (rW (HDR go_49 0 (List.length x_47) gc_50)) (), cown go_49 (rU UInt8) x_47 0 gc_50, cown go_8 (rU UInt8) x_7 0 gc_9, cvar gb_53 r_api_Dest v_52], []⟩ (.cons rfl (.cons rfl (.cons rfl (.cons rfl (.cons rfl (.cons rfl (.cons rfl (.cons rfl .nil)))))))) rfl rfl ?_
       replace hx := bnd_inv hx
       obtain ⟨⟨v_54, v_55⟩, hv_v_54, hx⟩ := hx
       refine jx (op_call (js := []) ld cl54 (sim_wire_Dot k v_52.Dot (v_54, v_55) hv_v_54) .func (.cons (.tmp rfl) .nil) rfl) (fun q => ?_)
       obtain ⟨go_56, gc_57⟩ := q
       refine jc (op_extract (i := 0) lb (.tmp rfl) rfl) ?_
       refine jc (op_extract (i := 1) lb (.tmp rfl) rfl) ?_
       replace hx := bnd_inv hx
       obtain ⟨x_58, hv_x_58, hx⟩ := hx
       refine JL.pre (Imp.frz (j := 0) rfl (ImpK.tupAt (s := 54) (i := 0) (q := HL go_56 (rU UInt8) v_54 gc_57) rfl rfl ownHL (ImpK.slotH (s := 55) rfl ImpK.refl))) ?_
       refine jx (op_call (js := [1, 1]) ld cl53 (sim_event_bytes_1'2 k v_54 v_55 x_47 gb_11 go_49 gc_50 x_58 hv_x_58) (.tmp rfl) (.cons (HasO.wk (.tmp rfl) wkHL) (.cons (.tmp rfl) .nil)) rfl) (fun q => ?_)
       obtain ⟨go_59, gc_60⟩ := q
       refine JL.nrm ⟨[(3, ov (PTR gb_11 0)), (4, ov (CLO 53 [PTR gb_11 0])), (6, ov (PTR gb_53 0)), (45, ov (S (rL r_api_Dest) To_6)), (46, ov (S (rI .i64) (List.length To_6 : Int))), (47, ov (S (rI .i64) x_48))], [cvar gb_11 (rW (HDR go_59 0 (List.length x_58) gc_60)) (), cown go_59 (rU UInt8) x_58 0 gc_60, cown go_8 (rU UInt8) x_7 0 gc_9, cvar gb_53 r_api_Dest v_52], []⟩ [0, 0, 1, 1] rfl (.cons rfl (.cons rfl (.cons rfl (.cons rfl (.cons rfl (.cons rfl .nil)))))) rfl ?_
       refine JL.nil ?_
       refine JQ.then ?_
       refine JC.region ?_
       refine jc (op_move lb (.tmp rfl)) ?_
       refine jc (op_fieldAddr (off := 2) lb tf59_1 (.tmp rfl)) ?_
       refine jc (op_loadS (j := 3) lb tS9 (.tmp rfl) rfl (Comp.trans (Comp.self r_api_Dest v_52) (comp_api_Dest_Device v_52) (Nat.le_of_ble_eq_true rfl)) rfl rfl) ?_
       refine jc (op_convSB lb tu9 tu35 tu5 (.tmp rfl)) ?_
       replace hx := bnd_inv hx
       obtain ⟨⟨v_61, v_62⟩, hv_v_61, hx⟩ := hx
       refine jx (op_call (js := []) ld cl55 (sim_wire_Blob k v_52.Device (v_61, v_62) hv_v_61) .func (.cons (.tmp rfl) .nil) rfl) (fun q => ?_)
       obtain ⟨go_63, gc_64⟩ := q
       refine jc (op_extract (i := 0) lb (.tmp rfl) rfl) ?_
       refine jc (op_extract (i := 1) lb (.tmp rfl) rfl) ?_
       replace hx := bnd_inv hx
       obtain ⟨x_65, hv_x_65, hx⟩ := hx
       refine JL.pre (Imp.frz (j := 0) rfl (ImpK.tupAt (s := 62) (i := 0) (q := HL go_63 (rU UInt8) v_61 gc_64) rfl rfl ownHL (ImpK.slotH (s := 63) rfl ImpK.refl))) ?_
       refine jx (op_call (js := [1, 1]) ld cl53 (sim_event_bytes_1'2 k v_61 v_62 x_58 gb_11 go_59 gc_60 x_65 hv_x_65) (.tmp rfl) (.cons (HasO.wk (.tmp rfl) wkHL) (.cons (.tmp rfl) .nil)) rfl) (fun q => ?_)
       obtain ⟨go_66, gc_67⟩ := q
       refine JL.nrm ⟨[(3, ov (PTR gb_11 0)), (4, ov (CLO 53 [PTR gb_11 0])), (45, ov (S (rL r_api_Dest) To_6)), (46, ov (S (rI .i64) (List.length To_6 : Int))), (47, ov (S (rI .i64) x_48))], [cvar gb_11 (rW (HDR go_66 0 (List.length x_65) gc_67)) (), cown go_66 (rU UInt8) x_65 0 gc_67, cown go_8 (rU UInt8) x_7 0 gc_9], []⟩ [0, 0, 1] rfl (.cons rfl (.cons rfl (.cons rfl (.cons rfl (.cons rfl .nil))))) rfl ?_
       refine JL.nil ?_
       refine JQ.outNB ?_
       refine JQ.then ?_
       refine JC.region ?_
       replace hx := lt1_inv hx
       obtain ⟨v_68, hv_v_68, hx⟩ := hx
       refine jc (op_arI lb (.tmp rfl) .cI (congrArg some hv_v_68)) ?_
       refine jc (op_move lb (.tmp rfl)) ?_
       refine JL.nil ?_
       replace hx := Option.some.inj hx
       first | subst hx | clear hx
       exact JQ.next (go_66, gc_67) rfl (Imp.norm (js := [0, 0, 0]) rfl (.cons rfl (.cons rfl (.cons rfl (.cons rfl (.cons rfl .nil))))))
     · refine JC.condF (.tmp rfl) hc3 ?_
       refine JC.exit ?_
       refine JQ.outX ?_
       replace hx := Option.some.inj hx
       first | subst hx | clear hx
       have ht := hr _ rfl
       have hq2 := congrArg some ht
       clear hr ht
       refine JQ.outX ?_
       refine JQ.here ?_
       replace hq2 := Option.some.inj hq2
       first | subst hq2 | clear hq2
       exact JQ.join (go_49, gc_50) (Imp.norm (js := [0, 0, 0]) rfl (.cons rfl .nil))

theorem sim_slices_Equalbyte_byte (k : Nat) (s1_1 : (List UInt8)) (s2_2 : (List UInt8)) (r : Bool) (hm : slices_Equalbyte_byte k s1_1 s2_2 = some r) : Sim Try.prog 45 [S (rL (rU UInt8)) s1_1, S (rL (rU UInt8)) s2_2] [] (γ := Unit) (fun q => []) (fun q => .one (.val (S rB r))) := by
 unfold slices_Equalbyte_byte at hm
 refine Sim.of Try.func45 rfl rfl (Nat.le_of_ble_eq_true rfl) (fun e0 w0 => ?_)
 refine JC.at ⟨[(0, ov (S (rL (rU UInt8)) s1_1)), (1, ov (S (rL (rU UInt8)) s2_2))], [], []⟩ ?_
 refine JC.seq ?_
 refine JC.region ?_
 refine jc (op_assign lb .cB) ?_
 refine JL.nil ?_
 refine JQ.then ?_
 refine JC.seq ?_
 refine JC.seq ?_
 refine JC.region ?_
 refine jc (op_move lb (.tmp rfl)) ?_
 refine jc (op_lenL lb tu35 (.tmp rfl)) ?_
 refine jc (op_move lb (.tmp rfl)) ?_
 refine jc (op_lenL lb tu35 (.tmp rfl)) ?_
 replace hm := lt1_inv hm
 obtain ⟨v_3, hv_v_3, hm⟩ := hm
 refine jc (op_cmpI lb (.tmp rfl) (.tmp rfl) (congrArg some hv_v_3)) ?_
 refine JL.nil ?_
 refine JQ.then ?_
 replace hm := iteB_inv hm
 rcases hm with ⟨hc1, hm⟩ | ⟨hc1, hm⟩
 · refine JC.condT (.tmp rfl) hc1 ?_
   refine JC.seq ?_
   refine JC.region ?_
   refine jc (op_assign lb .cB) ?_
   refine JL.nil ?_
   refine JQ.then ?_
   refine JC.ret ?_
   refine JQ.outR ?_
   replace hm := Option.some.inj hm
   subst hm
   exact JQ.done (js := []) (ss := [.val (S rB false)]) () (.inl rfl) (.nil rfl) rfl (.cons (.tmp rfl) .nil) rfl rfl rfl
 · refine JC.condF (.tmp rfl) hc1 ?_
   refine JC.skip ?_
   refine JQ.then ?_
   replace hm := bnd_inv hm
   obtain ⟨tv2, hx2, hq2⟩ := hm
   refine JC.seqK (α := Unit) (γ := Unit) (stj := fun v q => ⟨[], [], []⟩) (p := fun v => tv2 = (.inl v)) (fun v q hv => ?_) ?_
   · subst hv
     skip
     obtain _ := q
     dsimp only at hq2
     refine JC.at ⟨[], [], []⟩ ?_
     refine JC.seq ?_
     refine JC.region ?_
     refine jc (op_assign lb .cB) ?_
     refine JL.nil ?_
     refine JQ.then ?_
     refine JC.ret ?_
     replace hq2 := Option.some.inj hq2
     subst hq2
     exact JQ.done (js := []) (ss := [.val (S rB true)]) () (.inl rfl) (.nil rfl) rfl (.cons (.tmp rfl) .nil) rfl rfl rfl
   · refine JC.seq ?_
     refine JC.region ?_
     refine jc (op_move lb (.tmp rfl)) ?_
     refine jc (op_lenL lb tu35 (.tmp rfl)) ?_
     refine jc (op_move lb .cI) ?_
     refine JL.nil ?_
     refine JQ.then ?_
     refine JC.block ?_
     replace hx2 := bnd_inv hx2
     obtain ⟨tv3, hL3, hq3⟩ := hx2
     refine JC.pre ?_ (JC.loop (γ := Unit) (stf := fun s q => ⟨[(0, ov (S (rL (rU UInt8)) s1_1)), (1, ov (S (rL (rU UInt8)) s2_2)), (12, ov (S (rI .i64) (List.length s1_1 : Int))), (13, ov (S (rI .i64) s))], [], []⟩) (q := ()) hL3 ?_)
     · exact (Imp.norm (js := []) rfl (.cons rfl (.cons rfl (.cons rfl (.cons rfl .nil)))))
     · intro x_4 q x hx hr
       obtain _ := q
       change slices_Equalbyte_byte.b1 k s1_1 s2_2 x_4 = some x at hx
       unfold slices_Equalbyte_byte.b1 at hx
       refine JC.at ⟨[(0, ov (S (rL (rU UInt8)) s1_1)), (1, ov (S (rL (rU UInt8)) s2_2)), (12, ov (S (rI .i64) (List.length s1_1 : Int))), (13, ov (S (rI .i64) x_4))], [], []⟩ ?_
       refine JC.seq ?_
       refine JC.region ?_
       replace hx := lt1_inv hx
       obtain ⟨v_5, hv_v_5, hx⟩ := hx
       refine jc (op_cmpI lb (.tmp rfl) (.tmp rfl) (congrArg some hv_v_5)) ?_
       refine JL.nil ?_
       refine JQ.then ?_
       refine JC.seq ?_
       replace hx := iteB_inv hx
       rcases hx with ⟨hc4, hx⟩ | ⟨hc4, hx⟩
       · refine JC.condT (.tmp rfl) hc4 ?_
         refine JC.skip ?_
         refine JQ.then ?_
         refine JC.seq ?_
         refine JC.block ?_
         refine JC.seq ?_
         refine JC.region ?_
         refine jc (op_move lb (.tmp rfl)) ?_
         refine jc (op_assign lb (.tmp rfl)) ?_
         refine JL.nil ?_
         refine JQ.then ?_
         refine JC.seq ?_
         replace hx := bnd_inv hx
         obtain ⟨v_6, hv_v_6, hx⟩ := hx
         replace hx := bnd_inv hx
         obtain ⟨v_7, hv_v_7, hx⟩ := hx
         replace hx := lt1_inv hx
         obtain ⟨v_8, hv_v_8, hx⟩ := hx
         refine JC.anyE (kl := []) (kk := 0) (base := [(0, ov (S (rL (rU UInt8)) s1_1)), (1, ov (S (rL (rU UInt8)) s2_2)), (5, ov (S (rI .i64) x_4)), (12, ov (S (rI .i64) (List.length s1_1 : Int))), (13, ov (S (rI .i64) x_4))])
             (fs := fun γ => [⟨some 16, ov (S (rL (rU UInt8)) s1_1)⟩, ⟨some 17, ov (S (rI .i64) x_4)⟩, ⟨some 18, ov (PT (rU UInt8) v_6)⟩, ⟨some 19, ov (S (rU UInt8) v_6)⟩, ⟨some 20, ov (S (rL (rU UInt8)) s2_2)⟩, ⟨some 21, ov (S (rI .i64) x_4)⟩, ⟨some 22, ov (PT (rU UInt8) v_7)⟩, ⟨some 23, ov (S (rU UInt8) v_7)⟩, ⟨some 24, ov (S rB v_8)⟩])
             (rs := fun γ => [])
             (ds := [16, 17, 18, 19, 20, 21, 22, 23, 24]) (bs := [0, 1, 5, 12, 13]) (afts := [[], [], [], [], [], [], [], [], []]) (js := []) mixed (.cons rfl (.cons rfl (.cons rfl (.cons rfl (.cons rfl .nil))))) (fun _ => rfl)
             (by
      refine dS 1 (fun γ ρ B hb hd => op_move lb (.tmp (hb 0 _ rfl))) ?_
      refine dS 2 (fun γ ρ B hb hd => op_move lb (.tmp (hb 5 _ rfl))) ?_
      refine dS 3 (fun γ ρ B hb hd => op_indexAddrLg lb tu35 tz5 (.tmp (hl hd 0 16 rfl)) (.tmp (hl hd 1 17 rfl)) hv_v_6) ?_
      refine dS 4 (fun γ ρ B hb hd => op_loadPSg lb tS5 rfl (.tmp (hl hd 2 18 rfl)) rfl) ?_
      refine dS 5 (fun γ ρ B hb hd => op_move lb (.tmp (hb 1 _ rfl))) ?_
      refine dS 6 (fun γ ρ B hb hd => op_move lb (.tmp (hb 5 _ rfl))) ?_
      refine dS 7 (fun γ ρ B hb hd => op_indexAddrLg lb tu35 tz5 (.tmp (hl hd 4 20 rfl)) (.tmp (hl hd 5 21 rfl)) hv_v_7) ?_
      refine dS 8 (fun γ ρ B hb hd => op_loadPSg lb tS5 rfl (.tmp (hl hd 6 22 rfl)) rfl) ?_
      refine dS 9 (fun γ ρ B hb hd => op_cmpU lb (.tmp (hl hd 3 19 rfl)) (.tmp (hl hd 7 23 rfl)) (congrArg some hv_v_8)) ?_
      exact DSteps.nil)
             (by decide +kernel) (fun _ => rfl) rfl (fun _ => rfl) (fun _ => rfl) rfl (by decide) (by decide) (by decide +kernel) (fun _ d h => by cases h)
             (ρ' := fun γ => [(0, ov (S (rL (rU UInt8)) s1_1)), (1, ov (S (rL (rU UInt8)) s2_2)), (12, ov (S (rI .i64) (List.length s1_1 : Int))), (13, ov (S (rI .i64) x_4)), (24, ov (S rB v_8))])
             (X' := fun γ => [])
             (fun γ ρ hb hd => (.cons (hb 0 _ rfl (by decide)) (.cons (hb 1 _ rfl (by decide)) (.cons (hb 12 _ rfl (by decide)) (.cons (hb 13 _ rfl (by decide)) (.cons (hdq hd 8 24 rfl) .nil)))))) (fun _ => rfl) (fun γ => ?_)
         refine JQ.at ⟨[(0, ov (S (rL (rU UInt8)) s1_1)), (1, ov (S (rL (rU UInt8)) s2_2)), (12, ov (S (rI .i64) (List.length s1_1 : Int))), (13, ov (S (rI .i64) x_4)), (24, ov (S rB v_8))], [], []⟩ ?_
         refine JQ.then ?_
         replace hx := iteB_inv hx
         rcases hx with ⟨hc5, hx⟩ | ⟨hc5, hx⟩
         · refine JC.condT (.tmp rfl) hc5 ?_
           refine JC.seq ?_
           refine JC.region ?_
           refine jc (op_assign lb .cB) ?_
           refine JL.nil ?_
           refine JQ.then ?_
           refine JC.ret ?_
           refine JQ.outRB ?_
           refine JQ.outR ?_
           replace hx := Option.some.inj hx
           first | subst hx | clear hx
           have ht := hr _ rfl
           clear hr
           first | subst ht | clear ht
           dsimp only at hq3
           refine JQ.outR ?_
           refine JQ.outRB ?_
           replace hq3 := Option.some.inj hq3
           first | subst hq3 | clear hq3
           dsimp only at hq2
           refine JQ.outR ?_
           replace hq2 := Option.some.inj hq2
           subst hq2
           exact JQ.done (js := []) (ss := [.val (S rB false)]) () (.inl rfl) (.nil rfl) rfl (.cons (.tmp rfl) .nil) rfl rfl rfl
         · refine JC.condF (.tmp rfl) hc5 ?_
           refine JC.skip ?_
           refine JQ.outNB ?_
           refine JQ.then ?_
           refine JC.region ?_
           replace hx := lt1_inv hx
           obtain ⟨v_9, hv_v_9, hx⟩ := hx
           refine jc (op_arI lb (.tmp rfl) .cI (congrArg some hv_v_9)) ?_
           refine jc (op_move lb (.tmp rfl)) ?_
           refine JL.nil ?_
           replace hx := Option.some.inj hx
           first | subst hx | clear hx
           exact JQ.next () rfl (Imp.norm (js := []) rfl (.cons rfl (.cons rfl (.cons rfl (.cons rfl .nil)))))
       · refine JC.condF (.tmp rfl) hc4 ?_
         refine JC.exit ?_
         refine JQ.outX ?_
         replace hx := Option.some.inj hx
         first | subst hx | clear hx
         have ht := hr _ rfl
         clear hr
         first | subst ht | clear ht
         dsimp only at hq3
         refine JQ.outX ?_
         refine JQ.here ?_
         replace hq3 := Option.some.inj hq3
         first | subst hq3 | clear hq3
         exact JQ.joinK () () rfl (Imp.norm (js := []) rfl .nil)

end Go.Proofs.Ythoggbomakolkaa
