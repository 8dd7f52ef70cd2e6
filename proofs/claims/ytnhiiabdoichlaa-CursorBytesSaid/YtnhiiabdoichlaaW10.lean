/- Walks. -/
import Derived.Test.YtnhiiabdoichlaaT
import Derived.Test.YtnhiiabdoichlaaW6
import Derived.Test.YtnhiiabdoichlaaW8
import Derived.Test.YtnhiiabdoichlaaW9
namespace Go.Proofs.Ytnhiiabdoichlaa
open Go Fw
set_option linter.unusedVariables false
set_option maxRecDepth 100000
set_option maxHeartbeats 4000000

theorem sim_law10_CursorApart (k : Nat) (t_1 : (List UInt8)) (a_2 : (List UInt8)) (a_3 : (Vector UInt64 16)) (a_4 : (Vector UInt64 16)) (r : Bool) (hm : law10_CursorApart k t_1 a_2 a_3 a_4 = some r) : Sim Try.prog 3 [S (rL (rU UInt8)) t_1, S rS a_2, A (rV 16 (rU UInt64)) a_3, A (rV 16 (rU UInt64)) a_4] [] (γ := Unit) (fun q => []) (fun q => .one (.val (S rB r))) := by
 unfold law10_CursorApart at hm
 refine Sim.of Try.func3 rfl rfl (Nat.le_of_ble_eq_true rfl) (fun e0 w0 => ?_)
 refine JC.at ⟨[(0, ov (S (rL (rU UInt8)) t_1)), (1, ov (S rS a_2)), (2, ov (A (rV 16 (rU UInt64)) a_3)), (3, ov (A (rV 16 (rU UInt64)) a_4))], [], []⟩ ?_
 refine JC.seq ?_
 refine JC.region ?_
 refine jx (op_boxA lb (.tmp rfl)) (fun q => ?_)
 obtain ⟨gb_5, hqq⟩ : ∃ z, z = q := ⟨_, rfl⟩
 subst hqq
 refine jx (op_boxA lb (.tmp rfl)) (fun q => ?_)
 obtain ⟨gb_6, hqq⟩ : ∃ z, z = q := ⟨_, rfl⟩
 subst hqq
 refine jc (op_assign lb .cB) ?_
 refine JL.nil ?_
 refine JQ.then ?_
 refine JC.seq ?_
 refine JC.seq ?_
 refine JC.region ?_
 refine jc (op_move lb (.tmp rfl)) ?_
 refine jc (op_lenL lb tu22 (.tmp rfl)) ?_
 replace hm := lt1_inv hm
 obtain ⟨v_7, hv_v_7, hm⟩ := hm
 refine jc (op_cmpI lb (.tmp rfl) .cI (congrArg some hv_v_7)) ?_
 refine JL.nil ?_
 refine JQ.then ?_
 replace hm := iteB_inv hm
 rcases hm with ⟨hc1, hm⟩ | ⟨hc1, hm⟩
 · refine JC.condT (.tmp rfl) hc1 ?_
   refine JC.seq ?_
   refine JC.region ?_
   replace hm := bnd_inv hm
   obtain ⟨v_8, hv_v_8, hm⟩ := hm
   refine jx (op_call (js := []) ld cl6 (sim_law10_known k v_8 hv_v_8) .func .nil rfl) (fun _ => ?_)
   refine jc (op_assign lb (.tmp rfl)) ?_
   refine JL.nrm ⟨[(8, ov (S rB v_8))], [], []⟩ [] rfl rfl rfl ?_
   refine JL.nil ?_
   refine JQ.then ?_
   refine JC.ret ?_
   refine JQ.outR ?_
   replace hm := Option.some.inj hm
   subst hm
   exact JQ.done (js := []) (ss := [.val (S rB v_8)]) () (.inl rfl) (.nil rfl) rfl (.cons (.tmp rfl) .nil) rfl rfl rfl
 · refine JC.condF (.tmp rfl) hc1 ?_
   refine JC.skip ?_
   refine JQ.then ?_
   refine JC.seq ?_
   refine JC.region ?_
   refine jc (op_move lb (.tmp rfl)) ?_
   refine jc (op_move lb (.tmp rfl)) ?_
   refine JL.sub ⟨[(0, ov (S (rL (rU UInt8)) t_1)), (1, ov (S rS a_2)), (6, ov (PTR gb_5 0)), (7, ov (PTR gb_6 0)), (22, ov (S (rL (rU UInt8)) t_1)), (23, ov (S rS a_2))], [cvar gb_5 (rV 16 (rU UInt64)) a_3, cvar gb_6 (rV 16 (rU UInt64)) a_4], []⟩ rfl rfl rfl ?_
   refine jc (op_loadA (j := 0) lb tA25 (.tmp rfl) rfl (Comp.self (rV 16 (rU UInt64)) a_3) rfl) ?_
   replace hm := bnd_inv hm
   obtain ⟨⟨v_9, v_10⟩, hv_v_9, hm⟩ := hm
   refine jx (op_call (js := []) ld cl7 (sim_cursor_Bytes k t_1 a_2 a_3 (v_9, v_10) hv_v_9) .func (.cons (.tmp rfl) (.cons (.tmp rfl) (.cons (.tmp rfl) .nil))) rfl) (fun q => ?_)
   obtain ⟨go_11, gc_12⟩ := q
   refine jc (op_move lb (.tmp rfl)) ?_
   refine jc (op_extract (i := 0) lb (.tmp rfl) rfl) ?_
   refine jc (op_extract (i := 1) lb (.tmp rfl) rfl) ?_
   refine jc (op_assign lb (.tmp rfl)) ?_
   refine jc (op_assign lb (.tmp rfl)) ?_
   refine JL.nil ?_
   refine JQ.then ?_
   refine JC.seq ?_
   refine JC.region ?_
   refine jc (op_move lb (.tmp rfl)) ?_
   refine jc (op_move lb (.tmp rfl)) ?_
   refine jc (op_loadA (j := 2) lb tA25 (.tmp rfl) rfl (Comp.self (rV 16 (rU UInt64)) a_4) rfl) ?_
   refine JL.sub ⟨[(0, ov (S (rL (rU UInt8)) t_1)), (1, ov (S rS a_2)), (6, ov (PTR gb_5 0)), (7, ov (PTR gb_6 0)), (9, ov (HDR go_11 0 (List.length v_9) gc_12)), (10, ov (S (rI .i64) v_10)), (29, ov (S (rL (rU UInt8)) t_1)), (30, ov (S rS a_2)), (31, ov (A (rV 16 (rU UInt64)) a_4))], [cown go_11 (rU UInt8) v_9 (List.length v_9) gc_12, cvar gb_5 (rV 16 (rU UInt64)) a_3, cvar gb_6 (rV 16 (rU UInt64)) a_4], []⟩ rfl rfl rfl ?_
   replace hm := bnd_inv hm
   obtain ⟨⟨v_13, v_14⟩, hv_v_13, hm⟩ := hm
   refine jx (op_call (js := []) ld cl7 (sim_cursor_Bytes k t_1 a_2 a_4 (v_13, v_14) hv_v_13) .func (.cons (.tmp rfl) (.cons (.tmp rfl) (.cons (.tmp rfl) .nil))) rfl) (fun q => ?_)
   obtain ⟨go_15, gc_16⟩ := q
   refine jc (op_move lb (.tmp rfl)) ?_
   refine jc (op_extract (i := 0) lb (.tmp rfl) rfl) ?_
   refine jc (op_extract (i := 1) lb (.tmp rfl) rfl) ?_
   refine jc (op_assign lb (.tmp rfl)) ?_
   refine jc (op_assign lb (.tmp rfl)) ?_
   refine JL.nil ?_
   refine JQ.then ?_
   refine JC.seq ?_
   refine JC.seq ?_
   refine JC.region ?_
   refine jc (op_move lb (.tmp rfl)) ?_
   replace hm := bnd_inv hm
   obtain ⟨_, hv_u_17, hm⟩ := hm
   refine jx (op_call (js := []) ld cl8 (sim_law10_num k v_10 () hv_u_17) .func (.cons (.tmp rfl) .nil) rfl) (fun _ => ?_)
   refine jc (op_move lb (.tmp rfl)) ?_
   replace hm := bnd_inv hm
   obtain ⟨_, hv_u_18, hm⟩ := hm
   refine jx (op_call (js := []) ld cl8 (sim_law10_num k v_14 () hv_u_18) .func (.cons (.tmp rfl) .nil) rfl) (fun _ => ?_)
   refine JL.sub ⟨[(0, ov (S (rL (rU UInt8)) t_1)), (1, ov (S rS a_2)), (6, ov (PTR gb_5 0)), (7, ov (PTR gb_6 0)), (9, ov (HDR go_11 0 (List.length v_9) gc_12)), (11, ov (HDR go_15 0 (List.length v_13) gc_16)), (36, ov (S (rI .i64) v_10)), (38, ov (S (rI .i64) v_14))], [cown go_15 (rU UInt8) v_13 (List.length v_13) gc_16, cown go_11 (rU UInt8) v_9 (List.length v_9) gc_12, cvar gb_5 (rV 16 (rU UInt64)) a_3, cvar gb_6 (rV 16 (rU UInt64)) a_4], []⟩ rfl rfl rfl ?_
   replace hm := lt1_inv hm
   obtain ⟨v_19, hv_v_19, hm⟩ := hm
   refine jc (op_arI lb (.tmp rfl) (.tmp rfl) (congrArg some hv_v_19)) ?_
   replace hm := lt1_inv hm
   obtain ⟨v_20, hv_v_20, hm⟩ := hm
   refine jc (op_cmpI lb (.tmp rfl) .cI (congrArg some hv_v_20)) ?_
   refine JL.nil ?_
   refine JQ.then ?_
   replace hm := iteB_inv hm
   rcases hm with ⟨hc2, hm⟩ | ⟨hc2, hm⟩
   · refine JC.condT (.tmp rfl) hc2 ?_
     refine JC.seq ?_
     refine JC.region ?_
     replace hm := bnd_inv hm
     obtain ⟨v_21, hv_v_21, hm⟩ := hm
     refine jx (op_call (js := []) ld cl6 (sim_law10_known k v_21 hv_v_21) .func .nil rfl) (fun _ => ?_)
     refine jc (op_assign lb (.tmp rfl)) ?_
     refine JL.nil ?_
     refine JQ.then ?_
     refine JC.ret ?_
     refine JQ.outR ?_
     replace hm := Option.some.inj hm
     subst hm
     exact JQ.done (js := []) (ss := [.val (S rB v_21)]) () (.inl rfl) (.nil rfl) rfl (.cons (.tmp rfl) .nil) rfl rfl rfl
   · refine JC.condF (.tmp rfl) hc2 ?_
     refine JC.skip ?_
     refine JQ.then ?_
     refine JC.seq ?_
     refine JC.region ?_
     refine jc (op_move lb (.tmp rfl)) ?_
     refine jc (op_move lb (.tmp rfl)) ?_
     refine jc (op_move lb (.tmp rfl)) ?_
     replace hm := bnd_inv hm
     obtain ⟨⟨v_22, v_23⟩, hv_v_22, hm⟩ := hm
     refine JL.pre (Imp.frz (j := 1) rfl (ImpK.slotH (s := 9) rfl (ImpK.slotH (s := 45) rfl ImpK.refl))) ?_
     refine jx (op_call (js := []) ld cl9 (sim_cursor_Of k t_1 a_2 v_9 (v_22, v_23) hv_v_22) .func (.cons (.tmp rfl) (.cons (.tmp rfl) (.cons (HasO.wk (.tmp rfl) wkHL) .nil))) rfl) (fun _ => ?_)
     refine jc (op_move lb (.tmp rfl)) ?_
     refine jc (op_extract (i := 0) lb (.tmp rfl) rfl) ?_
     refine jc (op_extract (i := 1) lb (.tmp rfl) rfl) ?_
     refine jx (op_alloc lb tZ25 zr25) (fun q => ?_)
     obtain ⟨gb_24, hqq⟩ : ∃ z, z = q := ⟨_, rfl⟩
     subst hqq
     refine JL.sub ⟨[(0, ov (S (rL (rU UInt8)) t_1)), (1, ov (S rS a_2)), (6, ov (PTR gb_5 0)), (7, ov (PTR gb_6 0)), (9, ov (HL go_11 (rU UInt8) v_9 gc_12)), (11, ov (HDR go_15 0 (List.length v_13) gc_16)), (13, ov (PTR gb_24 0)), (47, ov (A (rV 16 (rU UInt64)) v_22)), (48, ov (S (rI .i64) v_23))], [cown go_15 (rU UInt8) v_13 (List.length v_13) gc_16, cown go_11 (rU UInt8) v_9 (List.length v_9) gc_12, cvar gb_5 (rV 16 (rU UInt64)) a_3, cvar gb_6 (rV 16 (rU UInt64)) a_4, cvar gb_24 (rV 16 (rU UInt64)) (Vector.replicate 16 (0 : UInt64))], []⟩ rfl rfl rfl ?_
     refine jc (op_storeA (j := 4) tA25 (.tmp rfl) (.tmp rfl) rfl (UpdR.self (by rfl)) rfl) ?_
     refine jc (op_assign lb (.tmp rfl)) ?_
     refine JL.nil ?_
     refine JQ.then ?_
     refine JC.seq ?_
     refine JC.region ?_
     refine jc (op_move lb (.tmp rfl)) ?_
     refine jc (op_move lb (.tmp rfl)) ?_
     refine jc (op_move lb (.tmp rfl)) ?_
     replace hm := bnd_inv hm
     obtain ⟨⟨v_25, v_26⟩, hv_v_25, hm⟩ := hm
     refine JL.pre (Imp.frz (j := 0) rfl (ImpK.slotH (s := 11) rfl (ImpK.slotH (s := 52) rfl ImpK.refl))) ?_
     refine jx (op_call (js := []) ld cl9 (sim_cursor_Of k t_1 a_2 v_13 (v_25, v_26) hv_v_25) .func (.cons (.tmp rfl) (.cons (.tmp rfl) (.cons (HasO.wk (.tmp rfl) wkHL) .nil))) rfl) (fun _ => ?_)
     refine jc (op_move lb (.tmp rfl)) ?_
     refine jc (op_extract (i := 0) lb (.tmp rfl) rfl) ?_
     refine jc (op_extract (i := 1) lb (.tmp rfl) rfl) ?_
     refine jx (op_alloc lb tZ25 zr25) (fun q => ?_)
     obtain ⟨gb_27, hqq⟩ : ∃ z, z = q := ⟨_, rfl⟩
     subst hqq
     refine JL.sub ⟨[(6, ov (PTR gb_5 0)), (7, ov (PTR gb_6 0)), (9, ov (HL go_11 (rU UInt8) v_9 gc_12)), (11, ov (HL go_15 (rU UInt8) v_13 gc_16)), (13, ov (PTR gb_24 0)), (14, ov (S (rI .i64) v_23)), (15, ov (PTR gb_27 0)), (54, ov (A (rV 16 (rU UInt64)) v_25)), (55, ov (S (rI .i64) v_26))], [cown go_15 (rU UInt8) v_13 (List.length v_13) gc_16, cown go_11 (rU UInt8) v_9 (List.length v_9) gc_12, cvar gb_5 (rV 16 (rU UInt64)) a_3, cvar gb_6 (rV 16 (rU UInt64)) a_4, cvar gb_24 (rV 16 (rU UInt64)) v_22, cvar gb_27 (rV 16 (rU UInt64)) (Vector.replicate 16 (0 : UInt64))], []⟩ rfl rfl rfl ?_
     refine jc (op_storeA (j := 5) tA25 (.tmp rfl) (.tmp rfl) rfl (UpdR.self (by rfl)) rfl) ?_
     refine jc (op_assign lb (.tmp rfl)) ?_
     refine JL.nil ?_
     refine JQ.then ?_
     replace hm := bnd_inv hm
     obtain ⟨x_42, hx3, hq3⟩ := hm
     refine JC.seqJ (γ := Unit) (stj := fun q => ⟨[(8, ov (S rB x_42))], [], []⟩) (fun q => ?_) ?_
     · obtain _ := q
       refine JC.at ⟨[(8, ov (S rB x_42))], [], []⟩ ?_
       refine JC.ret ?_
       replace hq3 := Option.some.inj hq3
       subst hq3
       exact JQ.done (js := []) (ss := [.val (S rB x_42)]) () (.inl rfl) (.nil rfl) rfl (.cons (.tmp rfl) .nil) rfl rfl rfl
     · replace hx3 := lt1_inv hx3
       obtain ⟨v_28, hv_v_28, hx3⟩ := hx3
       replace hx3 := lt1_inv hx3
       obtain ⟨v_29, hv_v_29, hx3⟩ := hx3
       replace hx3 := lt1_inv hx3
       obtain ⟨v_30, hv_v_30, hx3⟩ := hx3
       replace hx3 := lt1_inv hx3
       obtain ⟨v_31, hv_v_31, hx3⟩ := hx3
       replace hx3 := lt1_inv hx3
       obtain ⟨v_32, hv_v_32, hx3⟩ := hx3
       replace hx3 := lt1_inv hx3
       obtain ⟨v_33, hv_v_33, hx3⟩ := hx3
       replace hx3 := lt1_inv hx3
       obtain ⟨v_34, hv_v_34, hx3⟩ := hx3
       replace hx3 := bnd_inv hx3
       obtain ⟨_, hv_u_35, hx3⟩ := hx3
       replace hx3 := bnd_inv hx3
       obtain ⟨_, hv_u_36, hx3⟩ := hx3
       replace hx3 := lt1_inv hx3
       obtain ⟨v_37, hv_v_37, hx3⟩ := hx3
       replace hx3 := lt1_inv hx3
       obtain ⟨v_38, hv_v_38, hx3⟩ := hx3
       replace hx3 := lt1_inv hx3
       obtain ⟨v_39, hv_v_39, hx3⟩ := hx3
       replace hx3 := bnd_inv hx3
       obtain ⟨v_40, hv_v_40, hx3⟩ := hx3
       replace hx3 := lt1_inv hx3
       obtain ⟨v_41, hv_v_41, hx3⟩ := hx3
       refine JC.anyE (kl := []) (kk := 0) (base := [(6, ov (PTR gb_5 0)), (7, ov (PTR gb_6 0)), (9, ov (HL go_11 (rU UInt8) v_9 gc_12)), (11, ov (HL go_15 (rU UInt8) v_13 gc_16)), (13, ov (PTR gb_24 0)), (14, ov (S (rI .i64) v_23)), (15, ov (PTR gb_27 0)), (16, ov (S (rI .i64) v_26))])
           (fs := fun γ => [⟨some 56, ov (HL go_11 (rU UInt8) v_9 gc_12)⟩, ⟨some 57, ov (S rS v_9)⟩, ⟨some 58, ov (HL go_15 (rU UInt8) v_13 gc_16)⟩, ⟨some 59, ov (S rS v_13)⟩, ⟨some 60, ov (S rB v_28)⟩, ⟨some 61, ov (A (rV 16 (rU UInt64)) a_3)⟩, ⟨some 62, ov (A (rV 16 (rU UInt64)) a_4)⟩, ⟨some 63, ov (S rB v_29)⟩, ⟨some 64, ov (S rB v_30)⟩, ⟨some 65, ov (S rB v_30)⟩, ⟨some 66, bif v_30 then ov (A (rV 16 (rU UInt64)) v_22) else .one .und⟩, ⟨some 67, bif v_30 then ov (A (rV 16 (rU UInt64)) a_3) else .one .und⟩, ⟨some 68, bif v_30 then ov (S rB v_31) else .one .und⟩, ⟨some 69, ov (S rB v_32)⟩, ⟨some 70, ov (S rB v_32)⟩, ⟨some 71, bif v_32 then ov (A (rV 16 (rU UInt64)) v_25) else .one .und⟩, ⟨some 72, bif v_32 then ov (A (rV 16 (rU UInt64)) a_4) else .one .und⟩, ⟨some 73, bif v_32 then ov (S rB v_33) else .one .und⟩, ⟨some 74, ov (S rB v_34)⟩, ⟨some 75, ov (S rB v_34)⟩, ⟨some 76, bif v_34 then ov (S (rI .i64) v_23) else .one .und⟩, ⟨some 77, bif v_34 then ov (S (rI .i64) v_23) else .one .und⟩, ⟨some 78, bif v_34 then ov (S (rI .i64) v_26) else .one .und⟩, ⟨some 79, bif v_34 then ov (S (rI .i64) v_26) else .one .und⟩, ⟨some 80, bif v_34 then ov (S (rI .i64) v_37) else .one .und⟩, ⟨some 81, bif v_34 then ov (S rB v_38) else .one .und⟩, ⟨some 82, ov (S rB v_39)⟩, ⟨some 83, ov (S rB v_39)⟩, ⟨some 84, bif v_39 then ov (S rB v_40) else .one .und⟩, ⟨some 85, ov (S rB v_41)⟩, ⟨some 8, ov (S rB v_41)⟩])
           (rs := fun γ => [⟨cown go_15 (rU UInt8) v_13 (List.length v_13) gc_16, none, none, []⟩, ⟨cown go_11 (rU UInt8) v_9 (List.length v_9) gc_12, none, none, []⟩, ⟨cvar gb_5 (rV 16 (rU UInt64)) a_3, none, none, [5, 11]⟩, ⟨cvar gb_6 (rV 16 (rU UInt64)) a_4, none, none, [6, 16]⟩, ⟨cvar gb_24 (rV 16 (rU UInt64)) v_22, none, none, [10]⟩, ⟨cvar gb_27 (rV 16 (rU UInt64)) v_25, none, none, [15]⟩])
           (ds := [56, 57, 58, 59, 60, 61, 62, 63, 64, 65, 66, 67, 68, 69, 70, 71, 72, 73, 74, 75, 76, 77, 78, 79, 80, 81, 82, 83, 84, 85, 8]) (bs := [6, 7, 9, 11, 13, 14, 15, 16]) (afts := [[], [], [], [], [], [], [], [], [], [], [], [], [], [], [], [], [], [], [], [], [], [], [], [], [], [], [], [], [], [], []]) (js := [0, 0, 0, 0, 0, 0]) mixed (.cons rfl (.cons rfl (.cons rfl (.cons rfl (.cons rfl (.cons rfl (.cons rfl (.cons rfl .nil)))))))) (fun _ => rfl)
           (by
      refine dS 1 (fun γ ρ B hb hd => op_move lb (.tmp (hb 9 _ rfl))) ?_
      refine dS 2 (fun γ ρ B hb hd => op_convBS lb tu22 tu5 tu9 (HasO.wk (.tmp (hl hd 0 56 rfl)) wkHL)) ?_
      refine dS 3 (fun γ ρ B hb hd => op_move lb (.tmp (hb 11 _ rfl))) ?_
      refine dS 4 (fun γ ρ B hb hd => op_convBS lb tu22 tu5 tu9 (HasO.wk (.tmp (hl hd 2 58 rfl)) wkHL)) ?_
      refine dS 5 (fun γ ρ B hb hd => op_cmpS lb (.tmp (hl hd 1 57 rfl)) (.tmp (hl hd 3 59 rfl)) (congrArg some hv_v_28)) ?_
      refine DSteps.cons (j := 6) rfl (fun _ => rfl) (.run (fun γ ρ B hb hd => ⟨.none, OpStep.at ⟨ρ, (cvar gb_5 (rV 16 (rU UInt64)) a_3) :: B, _⟩ (setO ⟨ρ, (cvar gb_5 (rV 16 (rU UInt64)) a_3) :: B, _⟩ _ _) (op_loadA (j := 0) lb tA25 (.tmp (hb 6 _ rfl)) rfl (Comp.self (rV 16 (rU UInt64)) a_3) rfl)⟩)) ?_
      refine DSteps.cons (j := 7) rfl (fun _ => rfl) (.run (fun γ ρ B hb hd => ⟨.none, OpStep.at ⟨ρ, (cvar gb_6 (rV 16 (rU UInt64)) a_4) :: B, _⟩ (setO ⟨ρ, (cvar gb_6 (rV 16 (rU UInt64)) a_4) :: B, _⟩ _ _) (op_loadA (j := 0) lb tA25 (.tmp (hb 7 _ rfl)) rfl (Comp.self (rV 16 (rU UInt64)) a_4) rfl)⟩)) ?_
      refine dS 8 (fun γ ρ B hb hd => op_eqA lb qa25 (by decide) ng25 (.tmp (hl hd 5 61 rfl)) (.tmp (hl hd 6 62 rfl)) hv_v_29) ?_
      refine dS 9 (fun γ ρ B hb hd => op_eqB lb tu4 (.tmp (hl hd 4 60 rfl)) (.tmp (hl hd 7 63 rfl)) hv_v_30) ?_
      refine dS 10 (fun γ ρ B hb hd => op_move lb (.tmp (hl hd 8 64 rfl))) ?_
      refine DSteps.cons (j := 11) rfl (fun _ => rfl) (.cnd (q := v_30) (sv := fun γ => ov (A (rV 16 (rU UInt64)) v_22)) (fun _ => rfl) (fun _ => rfl) (fun d h => by cases h; exact ltB rfl) (fun _ => rfl) (fun γ ρ B hb hd => ⟨(Guard.isT (ltB rfl) rfl (hl hd 9 65 rfl)), fun hq_4 => OpStep.at ⟨ρ, (cvar gb_24 (rV 16 (rU UInt64)) v_22) :: B, _⟩ (setO ⟨ρ, (cvar gb_24 (rV 16 (rU UInt64)) v_22) :: B, _⟩ _ _) (op_loadA (j := 0) lb tA25 (.tmp (hb 13 _ rfl)) rfl (Comp.self (rV 16 (rU UInt64)) v_22) rfl)⟩)) ?_
      refine DSteps.cons (j := 12) rfl (fun _ => rfl) (.cnd (q := v_30) (sv := fun γ => ov (A (rV 16 (rU UInt64)) a_3)) (fun _ => rfl) (fun _ => rfl) (fun d h => by cases h; exact ltB rfl) (fun _ => rfl) (fun γ ρ B hb hd => ⟨(Guard.isT (ltB rfl) rfl (hl hd 9 65 rfl)), fun hq_5 => OpStep.at ⟨ρ, (cvar gb_5 (rV 16 (rU UInt64)) a_3) :: B, _⟩ (setO ⟨ρ, (cvar gb_5 (rV 16 (rU UInt64)) a_3) :: B, _⟩ _ _) (op_loadA (j := 0) lb tA25 (.tmp (hb 6 _ rfl)) rfl (Comp.self (rV 16 (rU UInt64)) a_3) rfl)⟩)) ?_
      refine dC 13 v_30 (fun γ => ov (S rB v_31)) (fun γ ρ B hb hd => ⟨(Guard.isT (ltB rfl) rfl (hl hd 9 65 rfl)), fun hq_6 => op_eqA lb qa25 (by decide) ng25 (HasO.cnd (.tmp (hl hd 10 66 rfl)) hq_6) (HasO.cnd (.tmp (hl hd 11 67 rfl)) hq_6) hv_v_31⟩) ?_
      refine dS 14 (fun γ ρ B hb hd => op_pickCS lb (.tmp (hl hd 9 65 rfl)) (fun hb7 => (HasO.cnd (.tmp (hl hd 12 68 rfl)) hb7)) (fun hb7 => .cB) hv_v_32) ?_
      refine dS 15 (fun γ ρ B hb hd => op_move lb (.tmp (hl hd 13 69 rfl))) ?_
      refine DSteps.cons (j := 16) rfl (fun _ => rfl) (.cnd (q := v_32) (sv := fun γ => ov (A (rV 16 (rU UInt64)) v_25)) (fun _ => rfl) (fun _ => rfl) (fun d h => by cases h; exact ltB rfl) (fun _ => rfl) (fun γ ρ B hb hd => ⟨(Guard.isT (ltB rfl) rfl (hl hd 14 70 rfl)), fun hq_8 => OpStep.at ⟨ρ, (cvar gb_27 (rV 16 (rU UInt64)) v_25) :: B, _⟩ (setO ⟨ρ, (cvar gb_27 (rV 16 (rU UInt64)) v_25) :: B, _⟩ _ _) (op_loadA (j := 0) lb tA25 (.tmp (hb 15 _ rfl)) rfl (Comp.self (rV 16 (rU UInt64)) v_25) rfl)⟩)) ?_
      refine DSteps.cons (j := 17) rfl (fun _ => rfl) (.cnd (q := v_32) (sv := fun γ => ov (A (rV 16 (rU UInt64)) a_4)) (fun _ => rfl) (fun _ => rfl) (fun d h => by cases h; exact ltB rfl) (fun _ => rfl) (fun γ ρ B hb hd => ⟨(Guard.isT (ltB rfl) rfl (hl hd 14 70 rfl)), fun hq_9 => OpStep.at ⟨ρ, (cvar gb_6 (rV 16 (rU UInt64)) a_4) :: B, _⟩ (setO ⟨ρ, (cvar gb_6 (rV 16 (rU UInt64)) a_4) :: B, _⟩ _ _) (op_loadA (j := 0) lb tA25 (.tmp (hb 7 _ rfl)) rfl (Comp.self (rV 16 (rU UInt64)) a_4) rfl)⟩)) ?_
      refine dC 18 v_32 (fun γ => ov (S rB v_33)) (fun γ ρ B hb hd => ⟨(Guard.isT (ltB rfl) rfl (hl hd 14 70 rfl)), fun hq_10 => op_eqA lb qa25 (by decide) ng25 (HasO.cnd (.tmp (hl hd 15 71 rfl)) hq_10) (HasO.cnd (.tmp (hl hd 16 72 rfl)) hq_10) hv_v_33⟩) ?_
      refine dS 19 (fun γ ρ B hb hd => op_pickCS lb (.tmp (hl hd 14 70 rfl)) (fun hb11 => (HasO.cnd (.tmp (hl hd 17 73 rfl)) hb11)) (fun hb11 => .cB) hv_v_34) ?_
      refine dS 20 (fun γ ρ B hb hd => op_move lb (.tmp (hl hd 18 74 rfl))) ?_
      refine dC 21 v_34 (fun γ => ov (S (rI .i64) v_23)) (fun γ ρ B hb hd => ⟨(Guard.isT (ltB rfl) rfl (hl hd 19 75 rfl)), fun hq_12 => op_move lb (.tmp (hb 14 _ rfl))⟩) ?_
      refine dC 22 v_34 (fun γ => ov (S (rI .i64) v_23)) (fun γ ρ B hb hd => ⟨(Guard.isT (ltB rfl) rfl (hl hd 19 75 rfl)), fun hq_13 => (op_call (js := []) ld cl8 (sim_law10_num k v_23 () (ifT hv_u_35 hq_13)) .func (.cons (HasO.cnd (.tmp (hl hd 20 76 rfl)) hq_13) .nil) rfl).post (fun _ => Imp.refl)⟩) ?_
      refine dC 23 v_34 (fun γ => ov (S (rI .i64) v_26)) (fun γ ρ B hb hd => ⟨(Guard.isT (ltB rfl) rfl (hl hd 19 75 rfl)), fun hq_14 => op_move lb (.tmp (hb 16 _ rfl))⟩) ?_
      refine dC 24 v_34 (fun γ => ov (S (rI .i64) v_26)) (fun γ ρ B hb hd => ⟨(Guard.isT (ltB rfl) rfl (hl hd 19 75 rfl)), fun hq_15 => (op_call (js := []) ld cl8 (sim_law10_num k v_26 () (ifT hv_u_36 hq_15)) .func (.cons (HasO.cnd (.tmp (hl hd 22 78 rfl)) hq_15) .nil) rfl).post (fun _ => Imp.refl)⟩) ?_
      refine dC 25 v_34 (fun γ => ov (S (rI .i64) v_37)) (fun γ ρ B hb hd => ⟨(Guard.isT (ltB rfl) rfl (hl hd 19 75 rfl)), fun hq_16 => op_arI lb (HasO.cnd (.tmp (hl hd 21 77 rfl)) hq_16) (HasO.cnd (.tmp (hl hd 23 79 rfl)) hq_16) (congrArg some hv_v_37)⟩) ?_
      refine dC 26 v_34 (fun γ => ov (S rB v_38)) (fun γ ρ B hb hd => ⟨(Guard.isT (ltB rfl) rfl (hl hd 19 75 rfl)), fun hq_17 => op_cmpI lb (HasO.cnd (.tmp (hl hd 24 80 rfl)) hq_17) .cI (congrArg some hv_v_38)⟩) ?_
      refine dS 27 (fun γ ρ B hb hd => op_pickCS lb (.tmp (hl hd 19 75 rfl)) (fun hb18 => (HasO.cnd (.tmp (hl hd 25 81 rfl)) hb18)) (fun hb18 => .cB) hv_v_39) ?_
      refine dS 28 (fun γ ρ B hb hd => op_move lb (.tmp (hl hd 26 82 rfl))) ?_
      refine dC 29 v_39 (fun γ => ov (S rB v_40)) (fun γ ρ B hb hd => ⟨(Guard.isT (ltB rfl) rfl (hl hd 27 83 rfl)), fun hq_19 => (op_call (js := []) ld cl6 (sim_law10_known k v_40 (ifT hv_v_40 hq_19)) .func .nil rfl).post (fun _ => Imp.refl)⟩) ?_
      refine dS 30 (fun γ ρ B hb hd => op_pickCS lb (.tmp (hl hd 27 83 rfl)) (fun hb20 => (HasO.cnd (.tmp (hl hd 28 84 rfl)) hb20)) (fun hb20 => .cB) hv_v_41) ?_
      refine dS 31 (fun γ ρ B hb hd => op_assign lb (.tmp (hl hd 29 85 rfl))) ?_
      exact DSteps.nil)
           (by decide +kernel) (fun _ => rfl) rfl (fun _ => rfl) (fun _ => rfl) rfl (by decide) (by decide) (by decide +kernel) (fun _ d h => by cases h)
           (ρ' := fun γ => [(8, ov (S rB v_41))])
           (X' := fun γ => [cown go_15 (rU UInt8) v_13 (List.length v_13) gc_16, cown go_11 (rU UInt8) v_9 (List.length v_9) gc_12, cvar gb_5 (rV 16 (rU UInt64)) a_3, cvar gb_6 (rV 16 (rU UInt64)) a_4, cvar gb_24 (rV 16 (rU UInt64)) v_22, cvar gb_27 (rV 16 (rU UInt64)) v_25])
           (fun γ ρ hb hd => (.cons (hdq hd 30 8 rfl) .nil)) (fun _ => rfl) (fun γ => ?_)
       refine JQ.at ⟨[(8, ov (S rB v_41))], [cown go_15 (rU UInt8) v_13 (List.length v_13) gc_16, cown go_11 (rU UInt8) v_9 (List.length v_9) gc_12, cvar gb_5 (rV 16 (rU UInt64)) a_3, cvar gb_6 (rV 16 (rU UInt64)) a_4, cvar gb_24 (rV 16 (rU UInt64)) v_22, cvar gb_27 (rV 16 (rU UInt64)) v_25], []⟩ ?_
       replace hx3 := Option.some.inj hx3
       first | subst hx3 | clear hx3
       exact JQ.join () (Imp.norm (js := []) rfl (.cons rfl .nil))

theorem sim_ref09_MayName (k : Nat) (s_1 : (List UInt8)) (r : Bool) (hm : ref09_MayName k s_1 = some r) : Sim Try.prog 10 [S rS s_1] [] (γ := Unit) (fun q => []) (fun q => .one (.val (S rB r))) := by
 unfold ref09_MayName at hm
 refine Sim.of Try.func10 rfl rfl (Nat.le_of_ble_eq_true rfl) (fun e0 w0 => ?_)
 refine JC.at ⟨[(0, ov (S rS s_1))], [], []⟩ ?_
 refine JC.seq ?_
 refine JC.region ?_
 refine jc (op_assign lb .cB) ?_
 refine JL.nil ?_
 refine JQ.then ?_
 replace hm := bnd_inv hm
 obtain ⟨x_5, hx1, hq1⟩ := hm
 refine JC.seqJ (γ := Unit) (stj := fun q => ⟨[(2, ov (S rB x_5))], [], []⟩) (fun q => ?_) ?_
 · obtain _ := q
   refine JC.at ⟨[(2, ov (S rB x_5))], [], []⟩ ?_
   refine JC.ret ?_
   replace hq1 := Option.some.inj hq1
   subst hq1
   exact JQ.done (js := []) (ss := [.val (S rB x_5)]) () (.inl rfl) (.nil rfl) rfl (.cons (.tmp rfl) .nil) rfl rfl rfl
 · refine JC.region ?_
   refine jc (op_move lb (.tmp rfl)) ?_
   refine jc (op_lenS lb tu9 (.tmp rfl)) ?_
   replace hx1 := lt1_inv hx1
   obtain ⟨v_2, hv_v_2, hx1⟩ := hx1
   refine jc (op_cmpI lb (.tmp rfl) .cI (congrArg some hv_v_2)) ?_
   refine jc (op_move lb (.tmp rfl)) ?_
   refine JL.cnd (sv := ov (S rS s_1)) (Guard.isT (ltB rfl) rfl rfl) rfl (ltB rfl) (fun hq_2 => op_move lb (.tmp rfl)) ?_
   refine JL.cnd (sv := ov (S (rI .i64) (List.length s_1 : Int))) (Guard.isT (ltB rfl) rfl rfl) rfl (ltB rfl) (fun hq_3 => op_lenS lb tu9 (HasO.cnd (.tmp rfl) hq_3)) ?_
   replace hx1 := lt1_inv hx1
   obtain ⟨v_3, hv_v_3, hx1⟩ := hx1
   refine JL.cnd (sv := ov (S rB v_3)) (Guard.isT (ltB rfl) rfl rfl) rfl (ltB rfl) (fun hq_4 => op_cmpI lb (HasO.cnd (.tmp rfl) hq_4) .cI (congrArg some hv_v_3)) ?_
   replace hx1 := lt1_inv hx1
   obtain ⟨v_4, hv_v_4, hx1⟩ := hx1
   refine jc (op_pickCS lb (.tmp rfl) (fun hb5 => (HasO.cnd (.tmp rfl) hb5)) (fun hb5 => .cB) hv_v_4) ?_
   refine jc (op_assign lb (.tmp rfl)) ?_
   refine JL.nil ?_
   replace hx1 := Option.some.inj hx1
   first | subst hx1 | clear hx1
   exact JQ.join () (Imp.norm (js := []) rfl (.cons rfl .nil))

theorem sim_ref09_MayVector (k : Nat) (v_1 : (Vector UInt64 16)) (r : Bool) (hm : ref09_MayVector k v_1 = some r) : Sim Try.prog 25 [A (rV 16 (rU UInt64)) v_1] [] (γ := Unit) (fun q => []) (fun q => .one (.val (S rB r))) := by
 unfold ref09_MayVector at hm
 refine Sim.of Try.func25 rfl rfl (Nat.le_of_ble_eq_true rfl) (fun e0 w0 => ?_)
 refine JC.at ⟨[(0, ov (A (rV 16 (rU UInt64)) v_1))], [], []⟩ ?_
 refine JC.seq ?_
 refine JC.region ?_
 refine jx (op_boxA lb (.tmp rfl)) (fun q => ?_)
 obtain ⟨gb_2, hqq⟩ : ∃ z, z = q := ⟨_, rfl⟩
 subst hqq
 refine jc (op_assign lb .cB) ?_
 refine JL.nil ?_
 refine JQ.then ?_
 replace hm := bnd_inv hm
 obtain ⟨tv1, hx1, hq1⟩ := hm
 refine JC.seqK (α := Unit) (γ := Unit) (stj := fun v q => ⟨[], [], []⟩) (p := fun v => tv1 = (.inl v)) (fun v q hv => ?_) ?_
 · subst hv
   skip
   obtain _ := q
   dsimp only at hq1
   refine JC.at ⟨[], [], []⟩ ?_
   refine JC.seq ?_
   refine JC.region ?_
   refine jc (op_assign lb .cB) ?_
   refine JL.nil ?_
   refine JQ.then ?_
   refine JC.ret ?_
   replace hq1 := Option.some.inj hq1
   subst hq1
   exact JQ.done (js := []) (ss := [.val (S rB true)]) () (.inl rfl) (.nil rfl) rfl (.cons (.tmp rfl) .nil) rfl rfl rfl
 · refine JC.seq ?_
   refine JC.region ?_
   refine jc (op_assign lb .cI) ?_
   refine JL.nil ?_
   refine JQ.then ?_
   refine JC.block ?_
   replace hx1 := bnd_inv hx1
   obtain ⟨tv2, hL2, hq2⟩ := hx1
   refine JC.pre ?_ (JC.loop (γ := Unit) (stf := fun s q => ⟨[(1, ov (PTR gb_2 0)), (3, ov (S (rI .i64) s))], [cvar gb_2 (rV 16 (rU UInt64)) v_1], []⟩) (q := ()) hL2 ?_)
   · exact (Imp.norm (js := [0]) rfl (.cons rfl (.cons rfl .nil)))
   · intro i_3 q x hx hr
     obtain _ := q
     change ref09_MayVector.b1 k v_1 i_3 = some x at hx
     unfold ref09_MayVector.b1 at hx
     refine JC.at ⟨[(1, ov (PTR gb_2 0)), (3, ov (S (rI .i64) i_3))], [cvar gb_2 (rV 16 (rU UInt64)) v_1], []⟩ ?_
     refine JC.seq ?_
     refine JC.seq ?_
     refine JC.region ?_
     refine jc (op_move lb (.tmp rfl)) ?_
     replace hx := lt1_inv hx
     obtain ⟨v_4, hv_v_4, hx⟩ := hx
     refine jc (op_cmpI lb (.tmp rfl) .cI (congrArg some hv_v_4)) ?_
     refine JL.nil ?_
     refine JQ.then ?_
     replace hx := iteB_inv hx
     rcases hx with ⟨hc3, hx⟩ | ⟨hc3, hx⟩
     · refine JC.condT (.tmp rfl) hc3 ?_
       refine JC.skip ?_
       refine JQ.then ?_
       refine JC.seq ?_
       refine JC.block ?_
       refine JC.seq ?_
       refine JC.region ?_
       refine jc (op_move lb (.tmp rfl)) ?_
       replace hx := bnd_inv hx
       obtain ⟨i_5, hv_i_5, hx⟩ := hx
       refine jc (op_indexAddrIF lb tr25 (.tmp rfl) (.tmp rfl) hv_i_5) ?_
       replace hx := lt1_inv hx
       obtain ⟨v_6, hv_v_6, hx⟩ := hx
       refine jc (op_loadS (j := 0) lb tS23 (.tmp rfl) rfl (Comp.at (Comp.self (rV 16 (rU UInt64)) v_1) i_5.2 rfl) rfl hv_v_6) ?_
       replace hx := lt1_inv hx
       obtain ⟨v_7, hv_v_7, hx⟩ := hx
       refine jc (op_cmpU lb (.tmp rfl) (HasO.cU (x := (4611686018427387904 : UInt64)) rfl (by decide)) (congrArg some hv_v_7)) ?_
       refine JL.nil ?_
       refine JQ.then ?_
       replace hx := iteB_inv hx
       rcases hx with ⟨hc4, hx⟩ | ⟨hc4, hx⟩
       · refine JC.condT (.tmp rfl) hc4 ?_
         refine JC.seq ?_
         refine JC.region ?_
         refine jc (op_assign lb .cB) ?_
         refine JL.nil ?_
         refine JQ.then ?_
         refine JC.ret ?_
         refine JQ.outRB ?_
         refine JQ.outR ?_
         replace hx := Option.some.inj hx
         first | subst hx | clear hx
         have ht := hr _ rfl
         clear hr
         first | subst ht | clear ht
         dsimp only at hq2
         refine JQ.outR ?_
         refine JQ.outRB ?_
         replace hq2 := Option.some.inj hq2
         first | subst hq2 | clear hq2
         dsimp only at hq1
         refine JQ.outR ?_
         replace hq1 := Option.some.inj hq1
         subst hq1
         exact JQ.done (js := []) (ss := [.val (S rB false)]) () (.inl rfl) (.nil rfl) rfl (.cons (.tmp rfl) .nil) rfl rfl rfl
       · refine JC.condF (.tmp rfl) hc4 ?_
         refine JC.skip ?_
         refine JQ.outNB ?_
         refine JQ.then ?_
         refine JC.region ?_
         refine jc (op_move lb (.tmp rfl)) ?_
         replace hx := lt1_inv hx
         obtain ⟨v_8, hv_v_8, hx⟩ := hx
         refine jc (op_arI lb (.tmp rfl) .cI (congrArg some hv_v_8)) ?_
         refine jc (op_assign lb (.tmp rfl)) ?_
         refine JL.nil ?_
         replace hx := Option.some.inj hx
         first | subst hx | clear hx
         exact JQ.next () rfl (Imp.norm (js := [0]) rfl (.cons rfl (.cons rfl .nil)))
     · refine JC.condF (.tmp rfl) hc3 ?_
       refine JC.exit ?_
       refine JQ.outX ?_
       replace hx := Option.some.inj hx
       first | subst hx | clear hx
       have ht := hr _ rfl
       clear hr
       first | subst ht | clear ht
       dsimp only at hq2
       refine JQ.outX ?_
       refine JQ.here ?_
       replace hq2 := Option.some.inj hq2
       first | subst hq2 | clear hq2
       exact JQ.joinK () () rfl (Imp.norm (js := []) rfl .nil)

theorem sim_ref10_May (k : Nat) (v_1 : (Vector UInt64 16)) (r : Bool) (hm : ref10_May k v_1 = some r) : Sim Try.prog 11 [A (rV 16 (rU UInt64)) v_1] [] (γ := Unit) (fun q => []) (fun q => .one (.val (S rB r))) := by
 unfold ref10_May at hm
 refine Sim.of Try.func11 rfl rfl (Nat.le_of_ble_eq_true rfl) (fun e0 w0 => ?_)
 refine JC.at ⟨[(0, ov (A (rV 16 (rU UInt64)) v_1))], [], []⟩ ?_
 refine JC.seq ?_
 refine JC.region ?_
 refine jx (op_boxA lb (.tmp rfl)) (fun q => ?_)
 obtain ⟨gb_2, hqq⟩ : ∃ z, z = q := ⟨_, rfl⟩
 subst hqq
 refine jc (op_assign lb .cB) ?_
 refine JL.nil ?_
 refine JQ.then ?_
 refine JC.seq ?_
 refine JC.region ?_
 refine jc (op_loadA (j := 0) lb tA25 (.tmp rfl) rfl (Comp.self (rV 16 (rU UInt64)) v_1) rfl) ?_
 replace hm := bnd_inv hm
 obtain ⟨v_3, hv_v_3, hm⟩ := hm
 refine jx (op_call (js := []) ld cl25 (sim_ref09_MayVector k v_1 v_3 hv_v_3) .func (.cons (.tmp rfl) .nil) rfl) (fun _ => ?_)
 refine jc (op_assign lb (.tmp rfl)) ?_
 refine JL.nil ?_
 refine JQ.then ?_
 refine JC.ret ?_
 replace hm := Option.some.inj hm
 subst hm
 exact JQ.done (js := []) (ss := [.val (S rB v_3)]) () (.inl rfl) (.nil rfl) rfl (.cons (.tmp rfl) .nil) rfl rfl rfl

theorem sim_ref01_Put (k : Nat) (n_1 : UInt64) (size_2 : Int) (r : (List UInt8)) (hm : ref01_Put k n_1 size_2 = some r) : Sim Try.prog 37 [S (rU UInt64) n_1, S (rI .i64) size_2] [] (γ := Option Nat) (fun q => [cown q (rU UInt8) r 0 (Int.toNat size_2)]) (fun q => .one (.val (HDR q 0 (List.length r) (Int.toNat size_2)))) := by
 unfold ref01_Put at hm
 refine Sim.of Try.func37 rfl rfl (Nat.le_of_ble_eq_true rfl) (fun e0 w0 => ?_)
 refine JC.at ⟨[(0, ov (S (rU UInt64) n_1)), (1, ov (S (rI .i64) size_2))], [], []⟩ ?_
 refine JC.seq ?_
 refine JC.region ?_
 refine jc (op_assign lb HasO.nilH) ?_
 refine JL.nil ?_
 refine JQ.then ?_
 refine JC.seq ?_
 refine JC.region ?_
 refine jc (op_move lb (.tmp rfl)) ?_
 replace hm := bnd_inv hm
 obtain ⟨v_3, hv_v_3, hm⟩ := hm
 refine jx (op_makeOg lb tu22 tB5 zv5 (.tmp rfl) (.tmp rfl) hv_v_3) (fun q => ?_)
 obtain ⟨gb_4, hqq⟩ : ∃ z, z = q := ⟨_, rfl⟩
 subst hqq
 refine jc (op_assign lb (.tmp rfl)) ?_
 refine JL.nil ?_
 refine JQ.then ?_
 replace hm := bnd_inv hm
 obtain ⟨b_16, hx1, hq1⟩ := hm
 refine JC.seqJ (γ := Unit) (stj := fun q => ⟨[(5, ov (HDR (some gb_4) 0 (List.length b_16) (Int.toNat size_2)))], [cown (some gb_4) (rU UInt8) b_16 0 (Int.toNat size_2)], []⟩) (fun q => ?_) ?_
 · obtain _ := q
   refine JC.at ⟨[(5, ov (HDR (some gb_4) 0 (List.length b_16) (Int.toNat size_2)))], [cown (some gb_4) (rU UInt8) b_16 0 (Int.toNat size_2)], []⟩ ?_
   refine JC.seq ?_
   refine JC.region ?_
   refine jc (op_move lb (.tmp rfl)) ?_
   refine jc (op_assign lb (.tmp rfl)) ?_
   refine JL.nil ?_
   refine JQ.then ?_
   refine JC.ret ?_
   replace hq1 := Option.some.inj hq1
   subst hq1
   exact JQ.done (js := [0]) (ss := [.val (HDR (some gb_4) 0 (List.length b_16) (Int.toNat size_2))]) (some gb_4) (.inl rfl) (.nil rfl) rfl (.cons (.tmp rfl) .nil) rfl rfl rfl
 · refine JC.seq ?_
   refine JC.region ?_
   refine jc (op_move lb (.tmp rfl)) ?_
   replace hx1 := lt1_inv hx1
   obtain ⟨v_5, hv_v_5, hx1⟩ := hx1
   refine jc (op_arI lb (.tmp rfl) .cI (congrArg some hv_v_5)) ?_
   refine jc (op_assign lb (.tmp rfl)) ?_
   refine JL.nil ?_
   refine JQ.then ?_
   refine JC.block ?_
   refine JC.pre ?_ (JC.loop (γ := Unit) (stf := fun s q => ⟨[(0, ov (S (rU UInt64) s.1)), (5, ov (HDR (some gb_4) 0 (List.length s.2.1) (Int.toNat size_2))), (6, ov (S (rI .i64) s.2.2))], [cown (some gb_4) (rU UInt8) s.2.1 0 (Int.toNat size_2)], []⟩) (q := ()) hx1 ?_)
   · exact (Imp.norm (js := [0]) rfl (.cons rfl (.cons rfl (.cons rfl .nil))))
   · intro s q x hx hr
     obtain ⟨n_6, b_7, i_8⟩ := s
     obtain _ := q
     change ref01_Put.b1 k n_6 b_7 i_8 = some x at hx
     unfold ref01_Put.b1 at hx
     refine JC.at ⟨[(0, ov (S (rU UInt64) n_6)), (5, ov (HDR (some gb_4) 0 (List.length b_7) (Int.toNat size_2))), (6, ov (S (rI .i64) i_8))], [cown (some gb_4) (rU UInt8) b_7 0 (Int.toNat size_2)], []⟩ ?_
     refine JC.seq ?_
     refine JC.seq ?_
     refine JC.region ?_
     refine jc (op_move lb (.tmp rfl)) ?_
     replace hx := lt1_inv hx
     obtain ⟨v_9, hv_v_9, hx⟩ := hx
     refine jc (op_cmpI lb (.tmp rfl) .cI (congrArg some hv_v_9)) ?_
     refine JL.nil ?_
     refine JQ.then ?_
     replace hx := iteB_inv hx
     rcases hx with ⟨hc3, hx⟩ | ⟨hc3, hx⟩
     · refine JC.condT (.tmp rfl) hc3 ?_
       refine JC.skip ?_
       refine JQ.then ?_
       refine JC.seq ?_
       refine JC.block ?_
       refine JC.seq ?_
       refine JC.region ?_
       refine jc (op_move lb (.tmp rfl)) ?_
       refine jc (op_move lb (.tmp rfl)) ?_
       refine jc (op_move lb (.tmp rfl)) ?_
       replace hx := bnd_inv hx
       obtain ⟨v_10, hv_v_10, hx⟩ := hx
       refine jc (op_arU lb (.tmp rfl) (HasO.cU (x := (256 : UInt64)) rfl (by decide)) hv_v_10) ?_
       replace hx := lt1_inv hx
       obtain ⟨v_11, hv_v_11, hx⟩ := hx
       refine jc (op_convUU lb tu23 tu5 (.tmp rfl) hv_v_11) ?_
       replace hx := bnd_inv hx
       obtain ⟨i_12, hv_i_12, hx⟩ := hx
       refine jc (op_indexAddrOF (r := (rU UInt8)) (j := 0) lb tu22 tz5 rfl (.tmp rfl) (.tmp rfl) hv_i_12) ?_
       replace hx := bnd_inv hx
       obtain ⟨b_13, hv_b_13, hx⟩ := hx
       refine jc (op_storeOSg (r := (rU UInt8)) (j := 0) tS5 rfl rfl (.tmp rfl) (.tmp rfl) hv_b_13) ?_
       refine JL.pre (Imp.slot (s := 5) (q := HDR (some gb_4) 0 (List.length b_13) (Int.toNat size_2)) rfl (wkLen (setO'_len hv_b_13))) ?_
       refine JL.pre (Imp.slot (s := 15) (q := HDR (some gb_4) 0 (List.length b_13) (Int.toNat size_2)) rfl (wkLen (setO'_len hv_b_13))) ?_
       refine JL.nil ?_
       refine JQ.then ?_
       refine JC.region ?_
       refine jc (op_move lb (.tmp rfl)) ?_
       refine JL.sub ⟨[(0, ov (S (rU UInt64) n_6)), (5, ov (HDR (some gb_4) 0 (List.length b_13) (Int.toNat size_2))), (6, ov (S (rI .i64) i_8)), (21, ov (S (rU UInt64) n_6))], [cown (some gb_4) (rU UInt8) b_13 0 (Int.toNat size_2)], []⟩ rfl rfl rfl ?_
       replace hx := bnd_inv hx
       obtain ⟨v_14, hv_v_14, hx⟩ := hx
       refine jc (op_arU lb (.tmp rfl) (HasO.cU (x := (256 : UInt64)) rfl (by decide)) hv_v_14) ?_
       refine jc (op_assign lb (.tmp rfl)) ?_
       refine JL.nil ?_
       refine JQ.outNB ?_
       refine JQ.then ?_
       refine JC.region ?_
       refine jc (op_move lb (.tmp rfl)) ?_
       replace hx := lt1_inv hx
       obtain ⟨v_15, hv_v_15, hx⟩ := hx
       refine jc (op_arI lb (.tmp rfl) .cI (congrArg some hv_v_15)) ?_
       refine jc (op_assign lb (.tmp rfl)) ?_
       refine JL.nil ?_
       replace hx := Option.some.inj hx
       first | subst hx | clear hx
       exact JQ.next () rfl (Imp.norm (js := [0]) rfl (.cons rfl (.cons rfl (.cons rfl .nil))))
     · refine JC.condF (.tmp rfl) hc3 ?_
       refine JC.exit ?_
       refine JQ.outX ?_
       replace hx := Option.some.inj hx
       first | subst hx | clear hx
       have ht := hr _ rfl
       have hq2 := congrArg some ht
       clear hr ht
       refine JQ.outX ?_
       refine JQ.here ?_
       replace hq2 := Option.some.inj hq2
       first | subst hq2 | clear hq2
       exact JQ.join () (Imp.norm (js := [0]) rfl (.cons rfl .nil))

end Go.Proofs.Ytnhiiabdoichlaa
