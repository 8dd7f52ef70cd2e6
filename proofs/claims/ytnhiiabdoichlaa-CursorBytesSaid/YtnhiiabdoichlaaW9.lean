/- Walks. -/
import Derived.Test.YtnhiiabdoichlaaT
import Derived.Test.YtnhiiabdoichlaaW6
import Derived.Test.YtnhiiabdoichlaaW8
namespace Go.Proofs.Ytnhiiabdoichlaa
open Go Fw
set_option linter.unusedVariables false
set_option maxRecDepth 100000
set_option maxHeartbeats 4000000

theorem sim_law10_known (k : Nat) (r : Bool) (hm : law10_known k = some r) : Sim Try.prog 6 [] [] (γ := Unit) (fun q => []) (fun q => .one (.val (S rB r))) := by
 unfold law10_known at hm
 refine Sim.of Try.func6 rfl rfl (Nat.le_of_ble_eq_true rfl) (fun e0 w0 => ?_)
 refine JC.at ⟨[], [], []⟩ ?_
 refine JC.seq ?_
 refine JC.region ?_
 refine jc (op_assign lb .cB) ?_
 refine JL.nil ?_
 refine JQ.then ?_
 refine JC.seq ?_
 refine JC.region ?_
 refine jx (op_buildO (r := (rU UInt8)) lb tu22 tz5 tZ5 rfl (Nat.le_of_ble_eq_true rfl) (.S rfl (HasO.cU (x := (115 : UInt8)) rfl (by decide)) .nil) rfl) (fun q => ?_)
 obtain ⟨gb_1, hqq⟩ : ∃ z, z = q := ⟨_, rfl⟩
 subst hqq
 refine jc (op_markO (j := 0) lb tu22 tu5 rfl (.tmp rfl) (Nat.le_of_ble_eq_true rfl)) ?_
 refine jc (op_build lb tZ25 zv25 tp25 (.S (off := 0) rfl (HasO.cU (x := (3 : UInt64)) rfl (by decide)) rfl ((Upd.at (off := 0) (i := 0) (Comp.self (rV 16 (rU UInt64)) (Vector.replicate 16 (0 : UInt64))) (by decide) rfl (Upd.self (rV 16 (rU UInt64)) (Vector.replicate 16 (0 : UInt64)) _)).R.at rfl) (.S (off := 1) rfl (HasO.cU (x := (0 : UInt64)) rfl (by decide)) rfl ((Upd.at (off := 0) (i := 1) (Comp.self (rV 16 (rU UInt64)) (Vector.set (Vector.replicate 16 (0 : UInt64)) 0 (3 : UInt64) (by decide))) (by decide) rfl (Upd.self (rV 16 (rU UInt64)) (Vector.set (Vector.replicate 16 (0 : UInt64)) 0 (3 : UInt64) (by decide)) _)).R.at rfl) (.S (off := 2) rfl (HasO.cU (x := (5 : UInt64)) rfl (by decide)) rfl ((Upd.at (off := 0) (i := 2) (Comp.self (rV 16 (rU UInt64)) (Vector.set (Vector.set (Vector.replicate 16 (0 : UInt64)) 0 (3 : UInt64) (by decide)) 1 (0 : UInt64) (by decide))) (by decide) rfl (Upd.self (rV 16 (rU UInt64)) (Vector.set (Vector.set (Vector.replicate 16 (0 : UInt64)) 0 (3 : UInt64) (by decide)) 1 (0 : UInt64) (by decide)) _)).R.at rfl) .nil))) rfl) ?_
 refine jx (op_alloc lb tZ25 zr25) (fun q => ?_)
 obtain ⟨gb_2, hqq⟩ : ∃ z, z = q := ⟨_, rfl⟩
 subst hqq
 refine jc (op_assign lb (.tmp rfl)) ?_
 refine jc (op_storeA (j := 1) tA25 (.tmp rfl) (.tmp rfl) rfl (UpdR.self (by rfl)) rfl) ?_
 refine JL.sub ⟨[(1, ov (HDR (some gb_1) 0 (List.length ([(115 : UInt8)] : (List UInt8))) (1))), (2, ov (PTR gb_2 0))], [cown (some gb_1) (rU UInt8) ([(115 : UInt8)] : (List UInt8)) 0 (1), cvar gb_2 (rV 16 (rU UInt64)) (Vector.set (Vector.set (Vector.set (Vector.replicate 16 (0 : UInt64)) 0 (3 : UInt64) (by decide)) 1 (0 : UInt64) (by decide)) 2 (5 : UInt64) (by decide))], []⟩ rfl rfl rfl ?_
 refine JL.nil ?_
 refine JQ.then ?_
 refine JC.seq ?_
 refine JC.region ?_
 refine jc (op_move lb (.tmp rfl)) ?_
 refine jc (op_loadA (j := 1) lb tA25 (.tmp rfl) rfl (Comp.self (rV 16 (rU UInt64)) (Vector.set (Vector.set (Vector.set (Vector.replicate 16 (0 : UInt64)) 0 (3 : UInt64) (by decide)) 1 (0 : UInt64) (by decide)) 2 (5 : UInt64) (by decide))) rfl) ?_
 replace hm := bnd_inv hm
 obtain ⟨⟨v_3, v_4⟩, hv_v_3, hm⟩ := hm
 refine JL.pre (Imp.frz (j := 0) rfl (ImpK.slotH (s := 1) rfl (ImpK.slotH (s := 19) rfl ImpK.refl))) ?_
 refine jx (op_call (js := []) ld cl7 (sim_cursor_Bytes k ([(115 : UInt8)] : (List UInt8)) ([97] : List UInt8) (Vector.set (Vector.set (Vector.set (Vector.replicate 16 (0 : UInt64)) 0 (3 : UInt64) (by decide)) 1 (0 : UInt64) (by decide)) 2 (5 : UInt64) (by decide)) (v_3, v_4) hv_v_3) .func (.cons (HasO.wk (.tmp rfl) wkHL) (.cons (HasO.cS (l := [97]) rfl) (.cons (.tmp rfl) .nil))) rfl) (fun q => ?_)
 obtain ⟨go_5, gc_6⟩ := q
 refine JL.sub ⟨[(1, ov (HL (some gb_1) (rU UInt8) ([(115 : UInt8)] : (List UInt8)) (1))), (2, ov (PTR gb_2 0)), (21, .tup [.val (HDR go_5 0 (List.length v_3) gc_6), .val (S (rI .i64) v_4)])], [cown go_5 (rU UInt8) v_3 (List.length v_3) gc_6, cown (some gb_1) (rU UInt8) ([(115 : UInt8)] : (List UInt8)) (List.length ([(115 : UInt8)] : (List UInt8))) (1), cvar gb_2 (rV 16 (rU UInt64)) (Vector.set (Vector.set (Vector.set (Vector.replicate 16 (0 : UInt64)) 0 (3 : UInt64) (by decide)) 1 (0 : UInt64) (by decide)) 2 (5 : UInt64) (by decide))], []⟩ rfl rfl rfl ?_
 refine jc (op_move lb (.tmp rfl)) ?_
 refine jc (op_extract (i := 0) lb (.tmp rfl) rfl) ?_
 refine jc (op_extract (i := 1) lb (.tmp rfl) rfl) ?_
 refine jc (op_assign lb (.tmp rfl)) ?_
 refine jc (op_assign lb (.tmp rfl)) ?_
 refine JL.nil ?_
 refine JQ.then ?_
 refine JC.seq ?_
 replace hm := bnd_inv hm
 obtain ⟨x_11, hx1, hq1⟩ := hm
 refine JC.seqJ (γ := Unit) (stj := fun q => ⟨[(1, ov (HDR (some gb_1) 0 (List.length ([(115 : UInt8)] : (List UInt8))) (1))), (2, ov (PTR gb_2 0)), (3, ov (HDR go_5 0 (List.length v_3) gc_6)), (31, ov (S rB x_11))], [cown (some gb_1) (rU UInt8) ([(115 : UInt8)] : (List UInt8)) (List.length ([(115 : UInt8)] : (List UInt8))) (1), cvar gb_2 (rV 16 (rU UInt64)) (Vector.set (Vector.set (Vector.set (Vector.replicate 16 (0 : UInt64)) 0 (3 : UInt64) (by decide)) 1 (0 : UInt64) (by decide)) 2 (5 : UInt64) (by decide)), cown go_5 (rU UInt8) v_3 (List.length v_3) gc_6], []⟩) (fun q => ?_) ?_
 · obtain _ := q
   refine JC.at ⟨[(1, ov (HDR (some gb_1) 0 (List.length ([(115 : UInt8)] : (List UInt8))) (1))), (2, ov (PTR gb_2 0)), (3, ov (HDR go_5 0 (List.length v_3) gc_6)), (31, ov (S rB x_11))], [cown (some gb_1) (rU UInt8) ([(115 : UInt8)] : (List UInt8)) (List.length ([(115 : UInt8)] : (List UInt8))) (1), cvar gb_2 (rV 16 (rU UInt64)) (Vector.set (Vector.set (Vector.set (Vector.replicate 16 (0 : UInt64)) 0 (3 : UInt64) (by decide)) 1 (0 : UInt64) (by decide)) 2 (5 : UInt64) (by decide)), cown go_5 (rU UInt8) v_3 (List.length v_3) gc_6], []⟩ ?_
   replace hq1 := iteB_inv hq1
   rcases hq1 with ⟨hc6, hq1⟩ | ⟨hc6, hq1⟩
   · refine JC.condT (.tmp rfl) hc6 ?_
     refine JC.seq ?_
     refine JC.region ?_
     refine jc (op_assign lb .cB) ?_
     refine JL.nil ?_
     refine JQ.then ?_
     refine JC.ret ?_
     refine JQ.outR ?_
     replace hq1 := Option.some.inj hq1
     subst hq1
     exact JQ.done (js := []) (ss := [.val (S rB false)]) () (.inl rfl) (.nil rfl) rfl (.cons (.tmp rfl) .nil) rfl rfl rfl
   · refine JC.condF (.tmp rfl) hc6 ?_
     refine JC.skip ?_
     refine JQ.then ?_
     refine JC.seq ?_
     refine JC.region ?_
     refine jc (op_move lb (.tmp rfl)) ?_
     refine jc (op_move lb (.tmp rfl)) ?_
     replace hq1 := bnd_inv hq1
     obtain ⟨⟨v_12, v_13⟩, hv_v_12, hq1⟩ := hq1
     refine JL.pre (Imp.frz (j := 0) rfl (ImpK.slotH (s := 1) rfl (ImpK.slotH (s := 33) rfl ImpK.refl))) ?_
     refine JL.pre (Imp.frz (j := 2) rfl (ImpK.slotH (s := 3) rfl (ImpK.slotH (s := 34) rfl ImpK.refl))) ?_
     refine jx (op_call (js := []) ld cl9 (sim_cursor_Of k ([(115 : UInt8)] : (List UInt8)) ([97] : List UInt8) v_3 (v_12, v_13) hv_v_12) .func (.cons (HasO.wk (.tmp rfl) wkHL) (.cons (HasO.cS (l := [97]) rfl) (.cons (HasO.wk (.tmp rfl) wkHL) .nil))) rfl) (fun _ => ?_)
     refine jc (op_move lb (.tmp rfl)) ?_
     refine jc (op_extract (i := 0) lb (.tmp rfl) rfl) ?_
     refine jc (op_extract (i := 1) lb (.tmp rfl) rfl) ?_
     refine jx (op_alloc lb tZ25 zr25) (fun q => ?_)
     obtain ⟨gb_14, hqq⟩ : ∃ z, z = q := ⟨_, rfl⟩
     subst hqq
     refine jc (op_storeA (j := 3) tA25 (.tmp rfl) (.tmp rfl) rfl (UpdR.self (by rfl)) rfl) ?_
     refine JL.sub ⟨[(1, ov (HL (some gb_1) (rU UInt8) ([(115 : UInt8)] : (List UInt8)) (1))), (2, ov (PTR gb_2 0)), (3, ov (HL go_5 (rU UInt8) v_3 gc_6)), (5, ov (PTR gb_14 0)), (37, ov (S (rI .i64) v_13))], [cown (some gb_1) (rU UInt8) ([(115 : UInt8)] : (List UInt8)) (List.length ([(115 : UInt8)] : (List UInt8))) (1), cvar gb_2 (rV 16 (rU UInt64)) (Vector.set (Vector.set (Vector.set (Vector.replicate 16 (0 : UInt64)) 0 (3 : UInt64) (by decide)) 1 (0 : UInt64) (by decide)) 2 (5 : UInt64) (by decide)), cown go_5 (rU UInt8) v_3 (List.length v_3) gc_6, cvar gb_14 (rV 16 (rU UInt64)) v_12], []⟩ rfl rfl rfl ?_
     refine jc (op_assign lb (.tmp rfl)) ?_
     refine JL.nil ?_
     refine JQ.then ?_
     refine JC.seq ?_
     refine JC.region ?_
     refine jc (op_move lb (.tmp rfl)) ?_
     refine jc (op_move lb (.tmp rfl)) ?_
     replace hq1 := bnd_inv hq1
     obtain ⟨⟨v_15, v_16⟩, hv_v_15, hq1⟩ := hq1
     refine jx (op_call (js := []) ld cl9 (sim_cursor_Of k ([(115 : UInt8)] : (List UInt8)) ([98] : List UInt8) v_3 (v_15, v_16) hv_v_15) .func (.cons (HasO.wk (.tmp rfl) wkHL) (.cons (HasO.cS (l := [98]) rfl) (.cons (HasO.wk (.tmp rfl) wkHL) .nil))) rfl) (fun _ => ?_)
     refine jc (op_move lb (.tmp rfl)) ?_
     refine jc (op_extract (i := 0) lb (.tmp rfl) rfl) ?_
     refine jc (op_extract (i := 1) lb (.tmp rfl) rfl) ?_
     refine jx (op_alloc lb tZ25 zr25) (fun q => ?_)
     obtain ⟨gb_17, hqq⟩ : ∃ z, z = q := ⟨_, rfl⟩
     subst hqq
     refine jc (op_storeA (j := 4) tA25 (.tmp rfl) (.tmp rfl) rfl (UpdR.self (by rfl)) rfl) ?_
     refine JL.nrm ⟨[(1, ov (HL (some gb_1) (rU UInt8) ([(115 : UInt8)] : (List UInt8)) (1))), (2, ov (PTR gb_2 0)), (3, ov (HL go_5 (rU UInt8) v_3 gc_6)), (5, ov (PTR gb_14 0)), (6, ov (S (rI .i64) v_13)), (43, ov (S (rI .i64) v_16))], [cown (some gb_1) (rU UInt8) ([(115 : UInt8)] : (List UInt8)) (List.length ([(115 : UInt8)] : (List UInt8))) (1), cvar gb_2 (rV 16 (rU UInt64)) (Vector.set (Vector.set (Vector.set (Vector.replicate 16 (0 : UInt64)) 0 (3 : UInt64) (by decide)) 1 (0 : UInt64) (by decide)) 2 (5 : UInt64) (by decide)), cown go_5 (rU UInt8) v_3 (List.length v_3) gc_6, cvar gb_14 (rV 16 (rU UInt64)) v_12], []⟩ [0, 0, 0, 0] rfl rfl rfl ?_
     refine jc (op_assign lb (.tmp rfl)) ?_
     refine JL.nil ?_
     refine JQ.then ?_
     refine JC.seq ?_
     refine JC.region ?_
     refine jc (op_move lb (.tmp rfl)) ?_
     replace hq1 := bnd_inv hq1
     obtain ⟨⟨v_18, v_19⟩, hv_v_18, hq1⟩ := hq1
     refine jx (op_call (js := []) ld cl9 (sim_cursor_Of k ([(115 : UInt8)] : (List UInt8)) ([97] : List UInt8) ([] : (List UInt8)) (v_18, v_19) hv_v_18) .func (.cons (HasO.wk (.tmp rfl) wkHL) (.cons (HasO.cS (l := [97]) rfl) (.cons (HasO.wk (q := S (rL (rU UInt8)) []) HasO.nilH wkNil) .nil))) rfl) (fun _ => ?_)
     refine jc (op_move lb (.tmp rfl)) ?_
     refine jc (op_extract (i := 0) lb (.tmp rfl) rfl) ?_
     refine jc (op_extract (i := 1) lb (.tmp rfl) rfl) ?_
     refine jx (op_alloc lb tZ25 zr25) (fun q => ?_)
     obtain ⟨gb_20, hqq⟩ : ∃ z, z = q := ⟨_, rfl⟩
     subst hqq
     refine jc (op_storeA (j := 4) tA25 (.tmp rfl) (.tmp rfl) rfl (UpdR.self (by rfl)) rfl) ?_
     refine JL.sub ⟨[(1, ov (HL (some gb_1) (rU UInt8) ([(115 : UInt8)] : (List UInt8)) (1))), (2, ov (PTR gb_2 0)), (3, ov (HL go_5 (rU UInt8) v_3 gc_6)), (5, ov (PTR gb_14 0)), (6, ov (S (rI .i64) v_13)), (8, ov (S (rI .i64) v_16)), (9, ov (PTR gb_20 0)), (48, ov (S (rI .i64) v_19))], [cown (some gb_1) (rU UInt8) ([(115 : UInt8)] : (List UInt8)) (List.length ([(115 : UInt8)] : (List UInt8))) (1), cvar gb_2 (rV 16 (rU UInt64)) (Vector.set (Vector.set (Vector.set (Vector.replicate 16 (0 : UInt64)) 0 (3 : UInt64) (by decide)) 1 (0 : UInt64) (by decide)) 2 (5 : UInt64) (by decide)), cown go_5 (rU UInt8) v_3 (List.length v_3) gc_6, cvar gb_14 (rV 16 (rU UInt64)) v_12, cvar gb_20 (rV 16 (rU UInt64)) v_18], []⟩ rfl rfl rfl ?_
     refine jc (op_assign lb (.tmp rfl)) ?_
     refine JL.nil ?_
     refine JQ.then ?_
     refine JC.seq ?_
     refine JC.region ?_
     refine jc (op_move lb (.tmp rfl)) ?_
     refine jc (op_move lb (.tmp rfl)) ?_
     replace hq1 := bnd_inv hq1
     obtain ⟨v_21, hv_v_21, hq1⟩ := hq1
     refine jc (op_sliceLg lb tu22 tz5 (HasO.wk (.tmp rfl) wkHL) (.some .cI) .none hv_v_21) ?_
     replace hq1 := bnd_inv hq1
     obtain ⟨⟨v_22, v_23⟩, hv_v_22, hq1⟩ := hq1
     refine jx (op_call (js := []) ld cl9 (sim_cursor_Of k ([(115 : UInt8)] : (List UInt8)) ([97] : List UInt8) v_21 (v_22, v_23) hv_v_22) .func (.cons (HasO.wk (.tmp rfl) wkHL) (.cons (HasO.cS (l := [97]) rfl) (.cons (.tmp rfl) .nil))) rfl) (fun _ => ?_)
     refine jc (op_move lb (.tmp rfl)) ?_
     refine jc (op_extract (i := 0) lb (.tmp rfl) rfl) ?_
     refine jc (op_extract (i := 1) lb (.tmp rfl) rfl) ?_
     refine jx (op_alloc lb tZ25 zr25) (fun q => ?_)
     obtain ⟨gb_24, hqq⟩ : ∃ z, z = q := ⟨_, rfl⟩
     subst hqq
     refine jc (op_storeA (j := 5) tA25 (.tmp rfl) (.tmp rfl) rfl (UpdR.self (by rfl)) rfl) ?_
     refine JL.nrm ⟨[(1, ov (HL (some gb_1) (rU UInt8) ([(115 : UInt8)] : (List UInt8)) (1))), (2, ov (PTR gb_2 0)), (5, ov (PTR gb_14 0)), (6, ov (S (rI .i64) v_13)), (8, ov (S (rI .i64) v_16)), (9, ov (PTR gb_20 0)), (10, ov (S (rI .i64) v_19)), (55, ov (S (rI .i64) v_23))], [cown (some gb_1) (rU UInt8) ([(115 : UInt8)] : (List UInt8)) (List.length ([(115 : UInt8)] : (List UInt8))) (1), cvar gb_2 (rV 16 (rU UInt64)) (Vector.set (Vector.set (Vector.set (Vector.replicate 16 (0 : UInt64)) 0 (3 : UInt64) (by decide)) 1 (0 : UInt64) (by decide)) 2 (5 : UInt64) (by decide)), cvar gb_14 (rV 16 (rU UInt64)) v_12, cvar gb_20 (rV 16 (rU UInt64)) v_18], []⟩ [0, 0, 1, 1] rfl rfl rfl ?_
     refine jc (op_assign lb (.tmp rfl)) ?_
     refine JL.nil ?_
     refine JQ.then ?_
     refine JC.seq ?_
     refine JC.region ?_
     refine jc (op_move lb (.tmp rfl)) ?_
     refine jc (op_loadA (j := 1) lb tA25 (.tmp rfl) rfl (Comp.self (rV 16 (rU UInt64)) (Vector.set (Vector.set (Vector.set (Vector.replicate 16 (0 : UInt64)) 0 (3 : UInt64) (by decide)) 1 (0 : UInt64) (by decide)) 2 (5 : UInt64) (by decide))) rfl) ?_
     replace hq1 := bnd_inv hq1
     obtain ⟨⟨v_25, v_26⟩, hv_v_25, hq1⟩ := hq1
     refine jx (op_call (js := []) ld cl7 (sim_cursor_Bytes k ([(115 : UInt8)] : (List UInt8)) ([] : List UInt8) (Vector.set (Vector.set (Vector.set (Vector.replicate 16 (0 : UInt64)) 0 (3 : UInt64) (by decide)) 1 (0 : UInt64) (by decide)) 2 (5 : UInt64) (by decide)) (v_25, v_26) hv_v_25) .func (.cons (HasO.wk (.tmp rfl) wkHL) (.cons (HasO.cS (l := []) rfl) (.cons (.tmp rfl) .nil))) rfl) (fun q => ?_)
     obtain ⟨go_27, gc_28⟩ := q
     refine jc (op_move lb (.tmp rfl)) ?_
     refine jc (op_extract (i := 0) lb (.tmp rfl) rfl) ?_
     refine jc (op_extract (i := 1) lb (.tmp rfl) rfl) ?_
     refine jc (op_assign lb (.tmp rfl)) ?_
     refine jc (op_assign lb (.tmp rfl)) ?_
     refine JL.nil ?_
     refine JQ.then ?_
     replace hq1 := bnd_inv hq1
     obtain ⟨t_47, hx7, hq7⟩ := hq1
     refine JC.seqJ (γ := Unit) (stj := fun q => ⟨[(0, ov (S rB t_47))], [], []⟩) (fun q => ?_) ?_
     · obtain _ := q
       refine JC.at ⟨[(0, ov (S rB t_47))], [], []⟩ ?_
       refine JC.ret ?_
       replace hq7 := Option.some.inj hq7
       subst hq7
       exact JQ.done (js := []) (ss := [.val (S rB t_47)]) () (.inl rfl) (.nil rfl) rfl (.cons (.tmp rfl) .nil) rfl rfl rfl
     · refine JC.region ?_
       refine jc (op_loadA (j := 3) lb tA25 (.tmp rfl) rfl (Comp.self (rV 16 (rU UInt64)) v_12) rfl) ?_
       refine JL.nrm ⟨[(2, ov (PTR gb_2 0)), (6, ov (S (rI .i64) v_13)), (8, ov (S (rI .i64) v_16)), (9, ov (PTR gb_20 0)), (10, ov (S (rI .i64) v_19)), (12, ov (S (rI .i64) v_23)), (14, ov (S (rI .i64) v_26)), (62, ov (A (rV 16 (rU UInt64)) v_12))], [cvar gb_2 (rV 16 (rU UInt64)) (Vector.set (Vector.set (Vector.set (Vector.replicate 16 (0 : UInt64)) 0 (3 : UInt64) (by decide)) 1 (0 : UInt64) (by decide)) 2 (5 : UInt64) (by decide)), cvar gb_20 (rV 16 (rU UInt64)) v_18], []⟩ [2, 3] rfl rfl rfl ?_
       refine jc (op_loadA (j := 0) lb tA25 (.tmp rfl) rfl (Comp.self (rV 16 (rU UInt64)) (Vector.set (Vector.set (Vector.set (Vector.replicate 16 (0 : UInt64)) 0 (3 : UInt64) (by decide)) 1 (0 : UInt64) (by decide)) 2 (5 : UInt64) (by decide))) rfl) ?_
       replace hx7 := lt1_inv hx7
       obtain ⟨v_29, hv_v_29, hx7⟩ := hx7
       refine jc (op_eqA lb qa25 (by decide) ng25 (.tmp rfl) (.tmp rfl) hv_v_29) ?_
       refine jc (op_move lb (.tmp rfl)) ?_
       refine JL.cnd (sv := ov (S (rI .i64) v_13)) (Guard.isT (ltB rfl) rfl rfl) rfl (ltB rfl) (fun hq_8 => op_move lb (.tmp rfl)) ?_
       replace hx7 := bnd_inv hx7
       obtain ⟨_, hv_u_30, hx7⟩ := hx7
       refine JL.cnd (sv := ov (S (rI .i64) v_13)) (Guard.isT (ltB rfl) rfl rfl) rfl (ltB rfl) (fun hq_9 => (op_call (js := []) ld cl8 (sim_law10_num k v_13 () (ifT hv_u_30 hq_9)) .func (.cons (HasO.cnd (.tmp rfl) hq_9) .nil) rfl).post (fun _ => Imp.refl)) ?_
       replace hx7 := lt1_inv hx7
       obtain ⟨v_31, hv_v_31, hx7⟩ := hx7
       refine JL.cnd (sv := ov (S rB v_31)) (Guard.isT (ltB rfl) rfl rfl) rfl (ltB rfl) (fun hq_10 => op_cmpI lb (HasO.cnd (.tmp rfl) hq_10) .cI (congrArg some hv_v_31)) ?_
       replace hx7 := lt1_inv hx7
       obtain ⟨v_32, hv_v_32, hx7⟩ := hx7
       refine jc (op_pickCS lb (.tmp rfl) (fun hb11 => (HasO.cnd (.tmp rfl) hb11)) (fun hb11 => .cB) hv_v_32) ?_
       refine jc (op_move lb (.tmp rfl)) ?_
       refine JL.cnd (sv := ov (S (rI .i64) v_16)) (Guard.isT (ltB rfl) rfl rfl) rfl (ltB rfl) (fun hq_12 => op_move lb (.tmp rfl)) ?_
       replace hx7 := bnd_inv hx7
       obtain ⟨_, hv_u_33, hx7⟩ := hx7
       refine JL.cnd (sv := ov (S (rI .i64) v_16)) (Guard.isT (ltB rfl) rfl rfl) rfl (ltB rfl) (fun hq_13 => (op_call (js := []) ld cl8 (sim_law10_num k v_16 () (ifT hv_u_33 hq_13)) .func (.cons (HasO.cnd (.tmp rfl) hq_13) .nil) rfl).post (fun _ => Imp.refl)) ?_
       replace hx7 := lt1_inv hx7
       obtain ⟨v_34, hv_v_34, hx7⟩ := hx7
       refine JL.cnd (sv := ov (S rB v_34)) (Guard.isT (ltB rfl) rfl rfl) rfl (ltB rfl) (fun hq_14 => op_cmpI lb (HasO.cnd (.tmp rfl) hq_14) .cI (congrArg some hv_v_34)) ?_
       replace hx7 := lt1_inv hx7
       obtain ⟨v_35, hv_v_35, hx7⟩ := hx7
       refine jc (op_pickCS lb (.tmp rfl) (fun hb15 => (HasO.cnd (.tmp rfl) hb15)) (fun hb15 => .cB) hv_v_35) ?_
       refine JL.nrm ⟨[(9, ov (PTR gb_20 0)), (10, ov (S (rI .i64) v_19)), (12, ov (S (rI .i64) v_23)), (14, ov (S (rI .i64) v_26)), (74, ov (S rB v_35))], [cvar gb_20 (rV 16 (rU UInt64)) v_18], []⟩ [1] rfl rfl rfl ?_
       refine jc (op_move lb (.tmp rfl)) ?_
       refine JL.cnd (sv := ov (A (rV 16 (rU UInt64)) v_18)) (Guard.isT (ltB rfl) rfl rfl) rfl (ltB rfl) (fun hq_16 => op_loadA (j := 0) lb tA25 (.tmp rfl) rfl (Comp.self (rV 16 (rU UInt64)) v_18) rfl) ?_
       refine JL.cnd (sv := ov (A (rV 16 (rU UInt64)) (Vector.replicate 16 (0 : UInt64)))) (Guard.isT (ltB rfl) rfl rfl) rfl (ltB rfl) (fun hq_17 => op_build lb tZ25 zv25 tp25 .nil rfl) ?_
       replace hx7 := lt1_inv hx7
       obtain ⟨v_36, hv_v_36, hx7⟩ := hx7
       refine JL.cnd (sv := ov (S rB v_36)) (Guard.isT (ltB rfl) rfl rfl) rfl (ltB rfl) (fun hq_18 => op_eqA lb qa25 (by decide) ng25 (HasO.cnd (.tmp rfl) hq_18) (HasO.cnd (.tmp rfl) hq_18) hv_v_36) ?_
       replace hx7 := lt1_inv hx7
       obtain ⟨v_37, hv_v_37, hx7⟩ := hx7
       refine jc (op_pickCS lb (.tmp rfl) (fun hb19 => (HasO.cnd (.tmp rfl) hb19)) (fun hb19 => .cB) hv_v_37) ?_
       refine jc (op_move lb (.tmp rfl)) ?_
       refine JL.cnd (sv := ov (S (rI .i64) v_19)) (Guard.isT (ltB rfl) rfl rfl) rfl (ltB rfl) (fun hq_20 => op_move lb (.tmp rfl)) ?_
       replace hx7 := bnd_inv hx7
       obtain ⟨_, hv_u_38, hx7⟩ := hx7
       refine JL.cnd (sv := ov (S (rI .i64) v_19)) (Guard.isT (ltB rfl) rfl rfl) rfl (ltB rfl) (fun hq_21 => (op_call (js := []) ld cl8 (sim_law10_num k v_19 () (ifT hv_u_38 hq_21)) .func (.cons (HasO.cnd (.tmp rfl) hq_21) .nil) rfl).post (fun _ => Imp.refl)) ?_
       replace hx7 := lt1_inv hx7
       obtain ⟨v_39, hv_v_39, hx7⟩ := hx7
       refine JL.cnd (sv := ov (S rB v_39)) (Guard.isT (ltB rfl) rfl rfl) rfl (ltB rfl) (fun hq_22 => op_cmpI lb (HasO.cnd (.tmp rfl) hq_22) .cI (congrArg some hv_v_39)) ?_
       replace hx7 := lt1_inv hx7
       obtain ⟨v_40, hv_v_40, hx7⟩ := hx7
       refine jc (op_pickCS lb (.tmp rfl) (fun hb23 => (HasO.cnd (.tmp rfl) hb23)) (fun hb23 => .cB) hv_v_40) ?_
       refine jc (op_move lb (.tmp rfl)) ?_
       refine JL.cnd (sv := ov (S (rI .i64) v_23)) (Guard.isT (ltB rfl) rfl rfl) rfl (ltB rfl) (fun hq_24 => op_move lb (.tmp rfl)) ?_
       refine JL.nrm ⟨[(14, ov (S (rI .i64) v_26)), (85, ov (S rB v_40)), (86, bif v_40 then ov (S (rI .i64) v_23) else .one .und)], [], []⟩ [] rfl rfl rfl ?_
       replace hx7 := bnd_inv hx7
       obtain ⟨_, hv_u_41, hx7⟩ := hx7
       refine JL.cnd (sv := ov (S (rI .i64) v_23)) (Guard.isT (ltB rfl) rfl rfl) rfl (ltB rfl) (fun hq_25 => (op_call (js := []) ld cl8 (sim_law10_num k v_23 () (ifT hv_u_41 hq_25)) .func (.cons (HasO.cnd (.tmp rfl) hq_25) .nil) rfl).post (fun _ => Imp.refl)) ?_
       replace hx7 := lt1_inv hx7
       obtain ⟨v_42, hv_v_42, hx7⟩ := hx7
       refine JL.cnd (sv := ov (S rB v_42)) (Guard.isT (ltB rfl) rfl rfl) rfl (ltB rfl) (fun hq_26 => op_cmpI lb (HasO.cnd (.tmp rfl) hq_26) .cI (congrArg some hv_v_42)) ?_
       replace hx7 := lt1_inv hx7
       obtain ⟨v_43, hv_v_43, hx7⟩ := hx7
       refine jc (op_pickCS lb (.tmp rfl) (fun hb27 => (HasO.cnd (.tmp rfl) hb27)) (fun hb27 => .cB) hv_v_43) ?_
       refine jc (op_move lb (.tmp rfl)) ?_
       refine JL.cnd (sv := ov (S (rI .i64) v_26)) (Guard.isT (ltB rfl) rfl rfl) rfl (ltB rfl) (fun hq_28 => op_move lb (.tmp rfl)) ?_
       replace hx7 := bnd_inv hx7
       obtain ⟨_, hv_u_44, hx7⟩ := hx7
       refine JL.cnd (sv := ov (S (rI .i64) v_26)) (Guard.isT (ltB rfl) rfl rfl) rfl (ltB rfl) (fun hq_29 => (op_call (js := []) ld cl8 (sim_law10_num k v_26 () (ifT hv_u_44 hq_29)) .func (.cons (HasO.cnd (.tmp rfl) hq_29) .nil) rfl).post (fun _ => Imp.refl)) ?_
       replace hx7 := lt1_inv hx7
       obtain ⟨v_45, hv_v_45, hx7⟩ := hx7
       refine JL.cnd (sv := ov (S rB v_45)) (Guard.isT (ltB rfl) rfl rfl) rfl (ltB rfl) (fun hq_30 => op_cmpI lb (HasO.cnd (.tmp rfl) hq_30) .cI (congrArg some hv_v_45)) ?_
       replace hx7 := lt1_inv hx7
       obtain ⟨v_46, hv_v_46, hx7⟩ := hx7
       refine jc (op_pickCS lb (.tmp rfl) (fun hb31 => (HasO.cnd (.tmp rfl) hb31)) (fun hb31 => .cB) hv_v_46) ?_
       refine jc (op_assign lb (.tmp rfl)) ?_
       refine JL.nil ?_
       replace hx7 := Option.some.inj hx7
       first | subst hx7 | clear hx7
       exact JQ.join () (Imp.norm (js := []) rfl (.cons rfl .nil))
 · refine JC.region ?_
   refine jc (op_move lb (.tmp rfl)) ?_
   refine jc (op_lenH lb tu22 (.tmp rfl)) ?_
   replace hx1 := lt1_inv hx1
   obtain ⟨v_7, hv_v_7, hx1⟩ := hx1
   refine jc (op_cmpI lb (.tmp rfl) .cI (congrArg some hv_v_7)) ?_
   refine jc (op_move lb (.tmp rfl)) ?_
   refine JL.cnd (sv := ov (S (rI .i64) v_4)) (Guard.isF (ltB rfl) rfl rfl) rfl (ltB rfl) (fun hq_2 => op_move lb (.tmp rfl)) ?_
   replace hx1 := bnd_inv hx1
   obtain ⟨_, hv_u_8, hx1⟩ := hx1
   refine JL.cnd (sv := ov (S (rI .i64) v_4)) (Guard.isF (ltB rfl) rfl rfl) rfl (ltB rfl) (fun hq_3 => (op_call (js := []) ld cl8 (sim_law10_num k v_4 () (ifT hv_u_8 hq_3)) .func (.cons (HasO.cnd (.tmp rfl) (notT (notF hq_3))) .nil) rfl).post (fun _ => Imp.refl)) ?_
   replace hx1 := lt1_inv hx1
   obtain ⟨v_9, hv_v_9, hx1⟩ := hx1
   refine JL.cnd (sv := ov (S rB v_9)) (Guard.isF (ltB rfl) rfl rfl) rfl (ltB rfl) (fun hq_4 => op_cmpI lb (HasO.cnd (.tmp rfl) (notT (notF hq_4))) .cI (congrArg some hv_v_9)) ?_
   refine JL.sub ⟨[(1, ov (HL (some gb_1) (rU UInt8) ([(115 : UInt8)] : (List UInt8)) (1))), (2, ov (PTR gb_2 0)), (3, ov (HDR go_5 0 (List.length v_3) gc_6)), (27, ov (S rB v_7)), (30, bif (!v_7) then ov (S rB v_9) else .one .und)], [cown go_5 (rU UInt8) v_3 (List.length v_3) gc_6, cown (some gb_1) (rU UInt8) ([(115 : UInt8)] : (List UInt8)) (List.length ([(115 : UInt8)] : (List UInt8))) (1), cvar gb_2 (rV 16 (rU UInt64)) (Vector.set (Vector.set (Vector.set (Vector.replicate 16 (0 : UInt64)) 0 (3 : UInt64) (by decide)) 1 (0 : UInt64) (by decide)) 2 (5 : UInt64) (by decide))], []⟩ rfl rfl rfl ?_
   replace hx1 := lt1_inv hx1
   obtain ⟨v_10, hv_v_10, hx1⟩ := hx1
   refine jc (op_pickCS lb (.tmp rfl) (fun hb5 => .cB) (fun hb5 => (HasO.cnd (.tmp rfl) (notT hb5))) hv_v_10) ?_
   refine JL.nil ?_
   replace hx1 := Option.some.inj hx1
   first | subst hx1 | clear hx1
   refine JQ.pre (Imp.slot (s := 1) rfl wkHH) ?_
   exact JQ.join () (Imp.norm (js := [1, 1, 0]) rfl (.cons rfl (.cons rfl (.cons rfl (.cons rfl .nil)))))

end Go.Proofs.Ytnhiiabdoichlaa
