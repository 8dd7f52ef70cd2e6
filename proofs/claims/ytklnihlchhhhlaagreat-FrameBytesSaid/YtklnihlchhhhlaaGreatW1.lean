/- Walks. -/
import Derived.Test.YtklnihlchhhhlaaGreatT
import Derived.Test.YtklnihlchhhhlaaGreatW0
namespace Go.Proofs.YtklnihlchhhhlaaGreat
open Go Fw
set_option linter.unusedVariables false
set_option maxRecDepth 100000
set_option maxHeartbeats 4000000

theorem sim_frame_Same (k : Nat) (t_1 : api_Frame) (a_2 : api_Frame) (r : Bool) (hm : frame_Same k t_1 a_2 = some r) : Sim Tryz.prog 18 [A r_api_Frame t_1, A r_api_Frame a_2] [] (γ := Unit) (fun q => []) (fun q => .one (.val (S rB r))) := by
 unfold frame_Same at hm
 refine Sim.of Tryz.func18 rfl rfl (lE rfl) (fun e0 w0 => ?_)
 refine JC.at ⟨[(0, ov (A r_api_Frame t_1)), (1, ov (A r_api_Frame a_2))], [], []⟩ <| jr <| jx (op_boxA lb (.tmp rfl)) fun gb_3 => jx (op_boxA lb (.tmp rfl)) fun gb_4 => jc (op_assign lb .cB) <| jn <| bI hm fun x_18 hx1 hq1 => JC.seqJ (γ := Unit) (stj := fun _ => ⟨[(2, ov (PTR gb_3 0)), (3, ov (PTR gb_4 0)), (5, ov (S rB x_18))], [cvar gb_3 r_api_Frame t_1, cvar gb_4 r_api_Frame a_2], []⟩) (fun _ => ?_) ?_
 · refine bI hq1 fun x_28 hx38 hq38 => JC.seqJ (γ := Unit) (stj := fun _ => ⟨[(2, ov (PTR gb_3 0)), (3, ov (PTR gb_4 0)), (5, ov (S rB x_18)), (6, ov (S rB x_28))], [cvar gb_3 r_api_Frame t_1, cvar gb_4 r_api_Frame a_2], []⟩) (fun _ => ?_) ?_
   · refine bI hq38 fun x_32 hx63 hq63 => JC.seqJ (γ := Unit) (stj := fun _ => ⟨[(4, ov (S rB x_32))], [], []⟩) (fun _ => ?_) ?_
     · refine JC.ret ?_
       obtain rfl := so hq63
       exact jd (.val (S rB x_32)) rfl rfl rfl rfl rfl rfl
     refine JC.region <| jmv rfl rfl <| jmv rfl rfl <| jT (ov (S rB x_28)) rfl rfl rfl rfl (fun hq_64 => op_move lb (.tmp rfl)) <| lI hx63 fun v_29 hv_29 hx63 => jc (op_pickCS lb (.tmp rfl) (fun hb65 => (HasO.cnd (.tmp rfl) hb65)) (fun hb65 => .cB) hv_29) <| jmv rfl rfl <| jT (ov (PTR gb_3 (0 + 4))) rfl rfl rfl rfl (fun hq_66 => op_fieldAddr (off := 4) lb tf39_4 (.tmp rfl)) <| jT (ov (A r_api_Event t_1.Event)) rfl rfl rfl rfl (fun hq_67 => op_loadA (j := 0) lb tA32 (HasO.cnd (.tmp rfl) hq_67) rfl (cT (comp_api_Frame_Event t_1) rfl) rfl) <| jT (ov (PTR gb_4 (0 + 4))) rfl rfl rfl rfl (fun hq_68 => op_fieldAddr (off := 4) lb tf39_4 (.tmp rfl)) <| jT (ov (A r_api_Event a_2.Event)) rfl rfl rfl rfl (fun hq_69 => op_loadA (j := 1) lb tA32 (HasO.cnd (.tmp rfl) hq_69) rfl (cT (comp_api_Frame_Event a_2) rfl) rfl) ?_
     obtain ⟨v_30, hv_30, hx63⟩ := bnd_inv hx63
     refine jT (ov (S rB v_30)) rfl rfl rfl rfl (fun hq_70 => (op_call (js := []) ld cl70 (sim_event_Same k t_1.Event a_2.Event v_30 (ifT hv_30 hq_70)) .func (.cons (HasO.cnd (.tmp rfl) hq_70) (.cons (HasO.cnd (.tmp rfl) hq_70) .nil)) rfl).post (fun _ => Imp.refl)) <| lI hx63 fun v_31 hv_31 hx63 => jc (op_pickCS lb (.tmp rfl) (fun hb71 => (HasO.cnd (.tmp rfl) hb71)) (fun hb71 => .cB) hv_31) <| jc (op_assign lb (.tmp rfl)) <| JL.nrm ⟨[(4, ov (S rB v_31))], [], []⟩ [] rfl (.cons rfl .nil) rfl <| JL.nil ?_
     try obtain rfl := so hx63
     exact jo rfl rfl rfl
   refine JC.region <| jc (op_fieldAddr (off := 3) lb tf39_3 (.tmp rfl)) <| jc (op_loadS (j := 0) lb tS23 (.tmp rfl) rfl (cT (comp_api_Frame_Items t_1) rfl) rfl rfl) <| jc (op_fieldAddr (off := 3) lb tf39_3 (.tmp rfl)) <| jc (op_loadS (j := 1) lb tS23 (.tmp rfl) rfl (cT (comp_api_Frame_Items a_2) rfl) rfl rfl) <| bI hx38 fun v_19 hv_19 hx38 => jx (op_call (js := []) ld cl66 (sim_slices_Equalapi_Item_api_Item k t_1.Items a_2.Items v_19 hv_19) .func (.cons (.tmp rfl) (.cons (.tmp rfl) .nil)) rfl) fun _ => jmv rfl rfl <| jT (ov (PTR gb_3 (0 + 57))) rfl rfl rfl rfl (fun hq_39 => op_fieldAddr (off := 57) lb tf39_7 (.tmp rfl)) <| jT (ov (S (rL r_api_Dot) t_1.Extra)) rfl rfl rfl rfl (fun hq_40 => op_loadS (j := 0) lb tS33 (HasO.cnd (.tmp rfl) hq_40) rfl (cT (comp_api_Frame_Extra t_1) rfl) rfl rfl) <| jT (ov (PTR gb_4 (0 + 57))) rfl rfl rfl rfl (fun hq_41 => op_fieldAddr (off := 57) lb tf39_7 (.tmp rfl)) <| jT (ov (S (rL r_api_Dot) a_2.Extra)) rfl rfl rfl rfl (fun hq_42 => op_loadS (j := 1) lb tS33 (HasO.cnd (.tmp rfl) hq_42) rfl (cT (comp_api_Frame_Extra a_2) rfl) rfl rfl) ?_
   obtain ⟨v_20, hv_20, hx38⟩ := bnd_inv hx38
   refine jT (ov (S rB v_20)) rfl rfl rfl rfl (fun hq_43 => (op_call (js := []) ld cl67 (sim_slices_Equalapi_Dot_api_Dot k t_1.Extra a_2.Extra v_20 (ifT hv_20 hq_43)) .func (.cons (HasO.cnd (.tmp rfl) hq_43) (.cons (HasO.cnd (.tmp rfl) hq_43) .nil)) rfl).post (fun _ => Imp.refl)) <| lI hx38 fun v_21 hv_21 hx38 => jc (op_pickCS lb (.tmp rfl) (fun hb44 => (HasO.cnd (.tmp rfl) hb44)) (fun hb44 => .cB) hv_21) <| JL.sub ⟨[(2, ov (PTR gb_3 0)), (3, ov (PTR gb_4 0)), (5, ov (S rB x_18)), (65, ov (S rB v_21))], [cvar gb_3 r_api_Frame t_1, cvar gb_4 r_api_Frame a_2], []⟩ (.cons rfl (.cons rfl (.cons rfl (.cons rfl .nil)))) rfl rfl <| jmv rfl rfl <| jT (ov (PTR gb_3 (0 + 58))) rfl rfl rfl rfl (fun hq_45 => op_fieldAddr (off := 58) lb tf39_8 (.tmp rfl)) <| jT (ov (S (rL r_api_Dot) t_1.Live)) rfl rfl rfl rfl (fun hq_46 => op_loadS (j := 0) lb tS33 (HasO.cnd (.tmp rfl) hq_46) rfl (cT (comp_api_Frame_Live t_1) rfl) rfl rfl) <| jT (ov (PTR gb_4 (0 + 58))) rfl rfl rfl rfl (fun hq_47 => op_fieldAddr (off := 58) lb tf39_8 (.tmp rfl)) <| jT (ov (S (rL r_api_Dot) a_2.Live)) rfl rfl rfl rfl (fun hq_48 => op_loadS (j := 1) lb tS33 (HasO.cnd (.tmp rfl) hq_48) rfl (cT (comp_api_Frame_Live a_2) rfl) rfl rfl) ?_
   refine bI hx38 fun v_22 hv_22 hx38 => jT (ov (S rB v_22)) rfl rfl rfl rfl (fun hq_49 => (op_call (js := []) ld cl67 (sim_slices_Equalapi_Dot_api_Dot k t_1.Live a_2.Live v_22 (ifT hv_22 hq_49)) .func (.cons (HasO.cnd (.tmp rfl) hq_49) (.cons (HasO.cnd (.tmp rfl) hq_49) .nil)) rfl).post (fun _ => Imp.refl)) <| lI hx38 fun v_23 hv_23 hx38 => jc (op_pickCS lb (.tmp rfl) (fun hb50 => (HasO.cnd (.tmp rfl) hb50)) (fun hb50 => .cB) hv_23) <| jmv rfl rfl <| jT (ov (PTR gb_3 (0 + 91))) rfl rfl rfl rfl (fun hq_51 => op_fieldAddr (off := 91) lb tf39_10 (.tmp rfl)) <| jT (ov (S (rL (rV 32 (rU UInt8))) t_1.Leaves)) rfl rfl rfl rfl (fun hq_52 => op_loadS (j := 0) lb tS36 (HasO.cnd (.tmp rfl) hq_52) rfl (cT (comp_api_Frame_Leaves t_1) rfl) rfl rfl) <| jT (ov (PTR gb_4 (0 + 91))) rfl rfl rfl rfl (fun hq_53 => op_fieldAddr (off := 91) lb tf39_10 (.tmp rfl)) <| jT (ov (S (rL (rV 32 (rU UInt8))) a_2.Leaves)) rfl rfl rfl rfl (fun hq_54 => op_loadS (j := 1) lb tS36 (HasO.cnd (.tmp rfl) hq_54) rfl (cT (comp_api_Frame_Leaves a_2) rfl) rfl rfl) <| JL.sub ⟨[(2, ov (PTR gb_3 0)), (3, ov (PTR gb_4 0)), (5, ov (S rB x_18)), (73, ov (S rB v_23)), (75, bif v_23 then ov (S (rL (rV 32 (rU UInt8))) t_1.Leaves) else .one .und), (77, bif v_23 then ov (S (rL (rV 32 (rU UInt8))) a_2.Leaves) else .one .und)], [cvar gb_3 r_api_Frame t_1, cvar gb_4 r_api_Frame a_2], []⟩ (.cons rfl (.cons rfl (.cons rfl (.cons rfl (.cons rfl (.cons rfl .nil)))))) rfl rfl ?_
   refine bI hx38 fun v_24 hv_24 hx38 => jT (ov (S rB v_24)) rfl rfl rfl rfl (fun hq_55 => (op_call (js := []) ld cl68 (sim_slices_Equalapi_Hash_api_Hash k t_1.Leaves a_2.Leaves v_24 (ifT hv_24 hq_55)) .func (.cons (HasO.cnd (.tmp rfl) hq_55) (.cons (HasO.cnd (.tmp rfl) hq_55) .nil)) rfl).post (fun _ => Imp.refl)) <| lI hx38 fun v_25 hv_25 hx38 => jc (op_pickCS lb (.tmp rfl) (fun hb56 => (HasO.cnd (.tmp rfl) hb56)) (fun hb56 => .cB) hv_25) <| jmv rfl rfl <| jT (ov (PTR gb_3 (0 + 92))) rfl rfl rfl rfl (fun hq_57 => op_fieldAddr (off := 92) lb tf39_11 (.tmp rfl)) <| jT (ov (S (rL (rI .i64)) t_1.Buckets)) rfl rfl rfl rfl (fun hq_58 => op_loadS (j := 0) lb tS37 (HasO.cnd (.tmp rfl) hq_58) rfl (cT (comp_api_Frame_Buckets t_1) rfl) rfl rfl) <| jT (ov (PTR gb_4 (0 + 92))) rfl rfl rfl rfl (fun hq_59 => op_fieldAddr (off := 92) lb tf39_11 (.tmp rfl)) <| jT (ov (S (rL (rI .i64)) a_2.Buckets)) rfl rfl rfl rfl (fun hq_60 => op_loadS (j := 1) lb tS37 (HasO.cnd (.tmp rfl) hq_60) rfl (cT (comp_api_Frame_Buckets a_2) rfl) rfl rfl) ?_
   obtain ⟨v_26, hv_26, hx38⟩ := bnd_inv hx38
   refine jT (ov (S rB v_26)) rfl rfl rfl rfl (fun hq_61 => (op_call (js := []) ld cl69 (sim_slices_Equalint_int k t_1.Buckets a_2.Buckets v_26 (ifT hv_26 hq_61)) .func (.cons (HasO.cnd (.tmp rfl) hq_61) (.cons (HasO.cnd (.tmp rfl) hq_61) .nil)) rfl).post (fun _ => Imp.refl)) <| lI hx38 fun v_27 hv_27 hx38 => jc (op_pickCS lb (.tmp rfl) (fun hb62 => (HasO.cnd (.tmp rfl) hb62)) (fun hb62 => .cB) hv_27) <| jc (op_assign lb (.tmp rfl)) <| JL.nil ?_
   try obtain rfl := so hx38
   exact JQ.join () (Imp.norm (js := [0, 0]) rfl (.cons rfl (.cons rfl (.cons rfl (.cons rfl .nil)))))
 refine JC.region <| jc (op_fieldAddr (off := 0) lb tf39_0 (.tmp rfl)) <| jc (op_loadS (j := 0) lb tS22 (.tmp rfl) rfl (cT (comp_api_Frame_Kind t_1) rfl) rfl rfl) <| jc (op_fieldAddr (off := 0) lb tf39_0 (.tmp rfl)) <| jc (op_loadS (j := 1) lb tS22 (.tmp rfl) rfl (cT (comp_api_Frame_Kind a_2) rfl) rfl rfl) <| lI hx1 fun v_5 hv_5 hx1 => jc (op_cmpI lb (.tmp rfl) (.tmp rfl) (cs hv_5)) <| JL.sub ⟨[(2, ov (PTR gb_3 0)), (3, ov (PTR gb_4 0)), (11, ov (S rB v_5))], [cvar gb_3 r_api_Frame t_1, cvar gb_4 r_api_Frame a_2], []⟩ (.cons rfl (.cons rfl (.cons rfl .nil))) rfl rfl <| jmv rfl rfl <| jT (ov (PTR gb_3 (0 + 1))) rfl rfl rfl rfl (fun hq_2 => op_fieldAddr (off := 1) lb tf39_1 (.tmp rfl)) <| jT (ov (S (rI .i64) t_1.From)) rfl rfl rfl rfl (fun hq_3 => op_loadS (j := 0) lb tS3 (HasO.cnd (.tmp rfl) hq_3) rfl (cT (comp_api_Frame_From t_1) rfl) rfl rfl) <| jT (ov (PTR gb_4 (0 + 1))) rfl rfl rfl rfl (fun hq_4 => op_fieldAddr (off := 1) lb tf39_1 (.tmp rfl)) <| jT (ov (S (rI .i64) a_2.From)) rfl rfl rfl rfl (fun hq_5 => op_loadS (j := 1) lb tS3 (HasO.cnd (.tmp rfl) hq_5) rfl (cT (comp_api_Frame_From a_2) rfl) rfl rfl) ?_
 refine lI hx1 fun v_6 hv_6 hx1 => jT (ov (S rB v_6)) rfl rfl rfl rfl (fun hq_6 => op_cmpI lb (HasO.cnd (.tmp rfl) hq_6) (HasO.cnd (.tmp rfl) hq_6) (cs hv_6)) <| lI hx1 fun v_7 hv_7 hx1 => jc (op_pickCS lb (.tmp rfl) (fun hb7 => (HasO.cnd (.tmp rfl) hb7)) (fun hb7 => .cB) hv_7) <| jmv rfl rfl <| jT (ov (PTR gb_3 (0 + 2))) rfl rfl rfl rfl (fun hq_8 => op_fieldAddr (off := 2) lb tf39_2 (.tmp rfl)) <| jT (ov (S (rI .i64) t_1.To)) rfl rfl rfl rfl (fun hq_9 => op_loadS (j := 0) lb tS3 (HasO.cnd (.tmp rfl) hq_9) rfl (cT (comp_api_Frame_To t_1) rfl) rfl rfl) <| jT (ov (PTR gb_4 (0 + 2))) rfl rfl rfl rfl (fun hq_10 => op_fieldAddr (off := 2) lb tf39_2 (.tmp rfl)) <| jT (ov (S (rI .i64) a_2.To)) rfl rfl rfl rfl (fun hq_11 => op_loadS (j := 1) lb tS3 (HasO.cnd (.tmp rfl) hq_11) rfl (cT (comp_api_Frame_To a_2) rfl) rfl rfl) <| JL.sub ⟨[(2, ov (PTR gb_3 0)), (3, ov (PTR gb_4 0)), (19, ov (S rB v_7)), (21, bif v_7 then ov (S (rI .i64) t_1.To) else .one .und), (23, bif v_7 then ov (S (rI .i64) a_2.To) else .one .und)], [cvar gb_3 r_api_Frame t_1, cvar gb_4 r_api_Frame a_2], []⟩ (.cons rfl (.cons rfl (.cons rfl (.cons rfl (.cons rfl .nil))))) rfl rfl ?_
 refine lI hx1 fun v_8 hv_8 hx1 => jT (ov (S rB v_8)) rfl rfl rfl rfl (fun hq_12 => op_cmpI lb (HasO.cnd (.tmp rfl) hq_12) (HasO.cnd (.tmp rfl) hq_12) (cs hv_8)) <| lI hx1 fun v_9 hv_9 hx1 => jc (op_pickCS lb (.tmp rfl) (fun hb13 => (HasO.cnd (.tmp rfl) hb13)) (fun hb13 => .cB) hv_9) <| jmv rfl rfl <| jT (ov (PTR gb_3 (0 + 25))) rfl rfl rfl rfl (fun hq_14 => op_fieldAddr (off := 25) lb tf39_5 (.tmp rfl)) <| jT (ov (A (rV 16 (rU UInt64)) t_1.Past)) rfl rfl rfl rfl (fun hq_15 => op_loadA (j := 0) lb tA29 (HasO.cnd (.tmp rfl) hq_15) rfl (cT (comp_api_Frame_Past t_1) rfl) rfl) <| jT (ov (PTR gb_4 (0 + 25))) rfl rfl rfl rfl (fun hq_16 => op_fieldAddr (off := 25) lb tf39_5 (.tmp rfl)) <| jT (ov (A (rV 16 (rU UInt64)) a_2.Past)) rfl rfl rfl rfl (fun hq_17 => op_loadA (j := 1) lb tA29 (HasO.cnd (.tmp rfl) hq_17) rfl (cT (comp_api_Frame_Past a_2) rfl) rfl) ?_
 obtain ⟨v_10, hv_10, hx1⟩ := lt1_inv hx1
 refine jT (ov (S rB v_10)) rfl rfl rfl rfl (fun hq_18 => op_eqA lb qa29 (by decide) ng29 (HasO.cnd (.tmp rfl) hq_18) (HasO.cnd (.tmp rfl) hq_18) hv_10) <| lI hx1 fun v_11 hv_11 hx1 => jc (op_pickCS lb (.tmp rfl) (fun hb19 => (HasO.cnd (.tmp rfl) hb19)) (fun hb19 => .cB) hv_11) <| jmv rfl rfl <| jT (ov (PTR gb_3 (0 + 41))) rfl rfl rfl rfl (fun hq_20 => op_fieldAddr (off := 41) lb tf39_6 (.tmp rfl)) <| jT (ov (A (rV 16 (rU UInt64)) t_1.Seen)) rfl rfl rfl rfl (fun hq_21 => op_loadA (j := 0) lb tA29 (HasO.cnd (.tmp rfl) hq_21) rfl (cT (comp_api_Frame_Seen t_1) rfl) rfl) <| JL.sub ⟨[(2, ov (PTR gb_3 0)), (3, ov (PTR gb_4 0)), (33, ov (S rB v_11)), (35, bif v_11 then ov (A (rV 16 (rU UInt64)) t_1.Seen) else .one .und)], [cvar gb_3 r_api_Frame t_1, cvar gb_4 r_api_Frame a_2], []⟩ (.cons rfl (.cons rfl (.cons rfl (.cons rfl .nil)))) rfl rfl <| jT (ov (PTR gb_4 (0 + 41))) rfl rfl rfl rfl (fun hq_22 => op_fieldAddr (off := 41) lb tf39_6 (.tmp rfl)) <| jT (ov (A (rV 16 (rU UInt64)) a_2.Seen)) rfl rfl rfl rfl (fun hq_23 => op_loadA (j := 1) lb tA29 (HasO.cnd (.tmp rfl) hq_23) rfl (cT (comp_api_Frame_Seen a_2) rfl) rfl) ?_
 obtain ⟨v_12, hv_12, hx1⟩ := lt1_inv hx1
 refine jT (ov (S rB v_12)) rfl rfl rfl rfl (fun hq_24 => op_eqA lb qa29 (by decide) ng29 (HasO.cnd (.tmp rfl) hq_24) (HasO.cnd (.tmp rfl) hq_24) hv_12) <| lI hx1 fun v_13 hv_13 hx1 => jc (op_pickCS lb (.tmp rfl) (fun hb25 => (HasO.cnd (.tmp rfl) hb25)) (fun hb25 => .cB) hv_13) <| jmv rfl rfl <| jT (ov (PTR gb_3 (0 + 59))) rfl rfl rfl rfl (fun hq_26 => op_fieldAddr (off := 59) lb tf39_9 (.tmp rfl)) <| jT (ov (A (rV 32 (rU UInt8)) t_1.Hash)) rfl rfl rfl rfl (fun hq_27 => op_loadA (j := 0) lb tA35 (HasO.cnd (.tmp rfl) hq_27) rfl (cT (comp_api_Frame_Hash t_1) rfl) rfl) <| jT (ov (PTR gb_4 (0 + 59))) rfl rfl rfl rfl (fun hq_28 => op_fieldAddr (off := 59) lb tf39_9 (.tmp rfl)) <| jT (ov (A (rV 32 (rU UInt8)) a_2.Hash)) rfl rfl rfl rfl (fun hq_29 => op_loadA (j := 1) lb tA35 (HasO.cnd (.tmp rfl) hq_29) rfl (cT (comp_api_Frame_Hash a_2) rfl) rfl) <| lI hx1 fun v_14 hv_14 hx1 => jT (ov (S rB v_14)) rfl rfl rfl rfl (fun hq_30 => op_eqA lb qa35 (by decide) ng35 (HasO.cnd (.tmp rfl) hq_30) (HasO.cnd (.tmp rfl) hq_30) hv_14) ?_
 refine lI hx1 fun v_15 hv_15 hx1 => jc (op_pickCS lb (.tmp rfl) (fun hb31 => (HasO.cnd (.tmp rfl) hb31)) (fun hb31 => .cB) hv_15) <| jmv rfl rfl <| JL.sub ⟨[(2, ov (PTR gb_3 0)), (3, ov (PTR gb_4 0)), (47, ov (S rB v_15))], [cvar gb_3 r_api_Frame t_1, cvar gb_4 r_api_Frame a_2], []⟩ (.cons rfl (.cons rfl (.cons rfl .nil))) rfl rfl <| jT (ov (PTR gb_3 (0 + 93))) rfl rfl rfl rfl (fun hq_32 => op_fieldAddr (off := 93) lb tf39_12 (.tmp rfl)) <| jT (ov (S rB t_1.Reply)) rfl rfl rfl rfl (fun hq_33 => op_loadS (j := 0) lb tS4 (HasO.cnd (.tmp rfl) hq_33) rfl (cT (comp_api_Frame_Reply t_1) rfl) rfl rfl) <| jT (ov (PTR gb_4 (0 + 93))) rfl rfl rfl rfl (fun hq_34 => op_fieldAddr (off := 93) lb tf39_12 (.tmp rfl)) <| jT (ov (S rB a_2.Reply)) rfl rfl rfl rfl (fun hq_35 => op_loadS (j := 1) lb tS4 (HasO.cnd (.tmp rfl) hq_35) rfl (cT (comp_api_Frame_Reply a_2) rfl) rfl rfl) <| lI hx1 fun v_16 hv_16 hx1 => jT (ov (S rB v_16)) rfl rfl rfl rfl (fun hq_36 => op_eqB lb tu4 (HasO.cnd (.tmp rfl) hq_36) (HasO.cnd (.tmp rfl) hq_36) hv_16) ?_
 refine lI hx1 fun v_17 hv_17 hx1 => jc (op_pickCS lb (.tmp rfl) (fun hb37 => (HasO.cnd (.tmp rfl) hb37)) (fun hb37 => .cB) hv_17) <| jc (op_assign lb (.tmp rfl)) <| JL.nil ?_
 try obtain rfl := so hx1
 exact JQ.join () (Imp.norm (js := [0, 0]) rfl (.cons rfl (.cons rfl (.cons rfl .nil))))

theorem sim_ctx_May (k : Nat) (d_1 : api_Dot) (r : Bool) (hm : ctx_May k d_1 = some r) : Sim Tryz.prog 34 [A r_api_Dot d_1] [] (γ := Unit) (fun q => []) (fun q => .one (.val (S rB r))) := by
 unfold ctx_May at hm
 refine Sim.of Tryz.func34 rfl rfl (lE rfl) (fun e0 w0 => ?_)
 refine JC.at ⟨[(0, ov (A r_api_Dot d_1))], [], []⟩ <| jr <| jx (op_boxA lb (.tmp rfl)) fun gb_2 => jc (op_assign lb .cB) <| jn <| bI hm fun x_10 hx1 hq1 => JC.seqJ (γ := Unit) (stj := fun _ => ⟨[(2, ov (S rB x_10))], [], []⟩) (fun _ => ?_) ?_
 · refine JC.ret ?_
   obtain rfl := so hq1
   exact jd (.val (S rB x_10)) rfl rfl rfl rfl rfl rfl
 refine JC.region <| jc (op_fieldAddr (off := 0) lb tf26_0 (.tmp rfl)) <| jc (op_loadS (j := 0) lb tS3 (.tmp rfl) rfl (cT (comp_api_Dot_Region d_1) rfl) rfl rfl) <| lI hx1 fun v_3 hv_3 hx1 => jc (op_cmpI lb (.tmp rfl) .cI (cs hv_3)) <| jmv rfl rfl <| jT (ov (PTR gb_2 (0 + 0))) rfl rfl rfl rfl (fun hq_2 => op_fieldAddr (off := 0) lb tf26_0 (.tmp rfl)) <| jT (ov (S (rI .i64) d_1.Region)) rfl rfl rfl rfl (fun hq_3 => op_loadS (j := 0) lb tS3 (HasO.cnd (.tmp rfl) hq_3) rfl (cT (comp_api_Dot_Region d_1) rfl) rfl rfl) <| lI hx1 fun v_4 hv_4 hx1 => jT (ov (S rB v_4)) rfl rfl rfl rfl (fun hq_4 => op_cmpI lb (HasO.cnd (.tmp rfl) hq_4) .cI (cs hv_4)) <| lI hx1 fun v_5 hv_5 hx1 => jc (op_pickCS lb (.tmp rfl) (fun hb5 => (HasO.cnd (.tmp rfl) hb5)) (fun hb5 => .cB) hv_5) ?_
 refine JL.sub ⟨[(1, ov (PTR gb_2 0)), (2, ov (S rB false)), (10, ov (S rB v_5))], [cvar gb_2 r_api_Dot d_1], []⟩ (.cons rfl (.cons rfl (.cons rfl .nil))) rfl rfl <| jmv rfl rfl <| jT (ov (PTR gb_2 (0 + 1))) rfl rfl rfl rfl (fun hq_6 => op_fieldAddr (off := 1) lb tf26_1 (.tmp rfl)) <| jT (ov (S (rU UInt64) d_1.Count)) rfl rfl rfl rfl (fun hq_7 => op_loadS (j := 0) lb tS24 (HasO.cnd (.tmp rfl) hq_7) rfl (cT (comp_api_Dot_Count d_1) rfl) rfl rfl) <| lI hx1 fun v_6 hv_6 hx1 => jT (ov (S rB v_6)) rfl rfl rfl rfl (fun hq_8 => op_cmpU lb (HasO.cnd (.tmp rfl) hq_8) (HasO.cU (x := (1 : UInt64)) rfl (by decide)) (cs hv_6)) <| lI hx1 fun v_7 hv_7 hx1 => jc (op_pickCS lb (.tmp rfl) (fun hb9 => (HasO.cnd (.tmp rfl) hb9)) (fun hb9 => .cB) hv_7) <| jmv rfl rfl <| jT (ov (PTR gb_2 (0 + 1))) rfl rfl rfl rfl (fun hq_10 => op_fieldAddr (off := 1) lb tf26_1 (.tmp rfl)) ?_
 refine jT (ov (S (rU UInt64) d_1.Count)) rfl rfl rfl rfl (fun hq_11 => op_loadS (j := 0) lb tS24 (HasO.cnd (.tmp rfl) hq_11) rfl (cT (comp_api_Dot_Count d_1) rfl) rfl rfl) <| lI hx1 fun v_8 hv_8 hx1 => jT (ov (S rB v_8)) rfl rfl rfl rfl (fun hq_12 => op_cmpU lb (HasO.cnd (.tmp rfl) hq_12) (HasO.cU (x := (4611686018427387904 : UInt64)) rfl (by decide)) (cs hv_8)) <| lI hx1 fun v_9 hv_9 hx1 => jc (op_pickCS lb (.tmp rfl) (fun hb13 => (HasO.cnd (.tmp rfl) hb13)) (fun hb13 => .cB) hv_9) <| jc (op_assign lb (.tmp rfl)) <| JL.nil ?_
 try obtain rfl := so hx1
 exact jo rfl rfl rfl

theorem sim_event_MayName (k : Nat) (s_1 : (List UInt8)) (r : Bool) (hm : event_MayName k s_1 = some r) : Sim Tryz.prog 71 [S rS s_1] [] (γ := Unit) (fun q => []) (fun q => .one (.val (S rB r))) := by
 unfold event_MayName at hm
 refine Sim.of Tryz.func71 rfl rfl (lE rfl) (fun e0 w0 => ?_)
 refine JC.at ⟨[(0, ov (S rS s_1))], [], []⟩ <| jr <| jc (op_assign lb .cB) <| jn <| bI hm fun x_5 hx1 hq1 => JC.seqJ (γ := Unit) (stj := fun _ => ⟨[(2, ov (S rB x_5))], [], []⟩) (fun _ => ?_) ?_
 · refine JC.ret ?_
   obtain rfl := so hq1
   exact jd (.val (S rB x_5)) rfl rfl rfl rfl rfl rfl
 refine JC.region <| jmv rfl rfl <| jc (op_lenS lb tu9 (.tmp rfl)) <| lI hx1 fun v_2 hv_2 hx1 => jc (op_cmpI lb (.tmp rfl) .cI (cs hv_2)) <| jmv rfl rfl <| jT (ov (S rS s_1)) rfl rfl rfl rfl (fun hq_2 => op_move lb (.tmp rfl)) <| jT (ov (S (rI .i64) (List.length s_1 : Int))) rfl rfl rfl rfl (fun hq_3 => op_lenS lb tu9 (HasO.cnd (.tmp rfl) hq_3)) <| lI hx1 fun v_3 hv_3 hx1 => jT (ov (S rB v_3)) rfl rfl rfl rfl (fun hq_4 => op_cmpI lb (HasO.cnd (.tmp rfl) hq_4) .cI (cs hv_3)) <| lI hx1 fun v_4 hv_4 hx1 => jc (op_pickCS lb (.tmp rfl) (fun hb5 => (HasO.cnd (.tmp rfl) hb5)) (fun hb5 => .cB) hv_4) <| jc (op_assign lb (.tmp rfl)) <| JL.nil ?_
 try obtain rfl := so hx1
 exact jo rfl rfl rfl

theorem sim_frame_MayItem (k : Nat) (i_1 : api_Item) (r : Bool) (hm : frame_MayItem k i_1 = some r) : Sim Tryz.prog 20 [A r_api_Item i_1] [] (γ := Unit) (fun q => []) (fun q => .one (.val (S rB r))) := by
 unfold frame_MayItem at hm
 refine Sim.of Tryz.func20 rfl rfl (lE rfl) (fun e0 w0 => ?_)
 refine JC.at ⟨[(0, ov (A r_api_Item i_1))], [], []⟩ <| jr <| jx (op_boxA lb (.tmp rfl)) fun gb_2 => jc (op_assign lb .cB) <| jn <| JC.seq <| jr <| jc (op_fieldAddr (off := 4) lb tf62_2 (.tmp rfl)) <| jc (op_loadS (j := 0) lb tS4 (.tmp rfl) rfl (cT (comp_api_Item_Gone i_1) rfl) rfl rfl) <| jn <| jif (.tmp rfl) hm (fun hc1 hm => ?_) (fun hc1 hm => ?_)
 · refine bI hm fun x_6 hx2 hq2 => JC.seqJ (γ := Unit) (stj := fun _ => ⟨[(2, ov (S rB x_6))], [], []⟩) (fun _ => ?_) ?_
   · refine JC.ret <| JQ.outR ?_
     obtain rfl := so hq2
     exact jd (.val (S rB x_6)) rfl rfl rfl rfl rfl rfl
   refine JC.region <| jc (op_fieldAddr (off := 0) lb tf62_0 (.tmp rfl)) <| jc (op_loadA (j := 0) lb tA26 (.tmp rfl) rfl (cT (comp_api_Item_Dot i_1) rfl) rfl) <| bI hx2 fun v_3 hv_3 hx2 => jx (op_call (js := []) ld cl34 (sim_ctx_May k i_1.Dot v_3 hv_3) .func (.cons (.tmp rfl) .nil) rfl) fun _ => jmv rfl rfl <| jT (ov (PTR gb_2 (0 + 2))) rfl rfl rfl rfl (fun hq_3 => op_fieldAddr (off := 2) lb tf62_1 (.tmp rfl)) <| jT (ov (A r_api_Key i_1.Key)) rfl rfl rfl rfl (fun hq_4 => op_loadA (j := 0) lb tA60 (HasO.cnd (.tmp rfl) hq_4) rfl (cT (comp_api_Item_Key i_1) rfl) rfl) <| JL.nrm ⟨[(2, ov (S rB false)), (8, ov (S rB v_3)), (10, bif v_3 then ov (A r_api_Key i_1.Key) else .one .und)], [], []⟩ [] rfl (.cons rfl (.cons rfl (.cons rfl .nil))) rfl <| jT (ov (A r_api_Key (api_Key.mk ([] : (List UInt8)) ([] : (List UInt8))))) rfl rfl rfl rfl (fun hq_5 => op_build lb tZ60 zv60 tp60 .nil rfl) ?_
   obtain ⟨v_4, hv_4, hx2⟩ := lt1_inv hx2
   refine jT (ov (S rB v_4)) rfl rfl rfl rfl (fun hq_6 => op_eqA lb qa60 (by decide) ng60 (HasO.cnd (.tmp rfl) hq_6) (HasO.cnd (.tmp rfl) hq_6) hv_4) <| lI hx2 fun v_5 hv_5 hx2 => jc (op_pickCS lb (.tmp rfl) (fun hb7 => (HasO.cnd (.tmp rfl) hb7)) (fun hb7 => .cB) hv_5) <| jc (op_assign lb (.tmp rfl)) <| JL.nil ?_
   try obtain rfl := so hx2
   exact jo rfl rfl rfl
 refine JC.skip <| JQ.then <| bI hm fun x_12 hx8 hq8 => JC.seqJ (γ := Unit) (stj := fun _ => ⟨[(2, ov (S rB x_12))], [], []⟩) (fun _ => ?_) ?_
 · refine JC.ret ?_
   obtain rfl := so hq8
   exact jd (.val (S rB x_12)) rfl rfl rfl rfl rfl rfl
 refine JC.region <| jc (op_fieldAddr (off := 0) lb tf62_0 (.tmp rfl)) <| jc (op_loadA (j := 0) lb tA26 (.tmp rfl) rfl (cT (comp_api_Item_Dot i_1) rfl) rfl) <| bI hx8 fun v_7 hv_7 hx8 => jx (op_call (js := []) ld cl34 (sim_ctx_May k i_1.Dot v_7 hv_7) .func (.cons (.tmp rfl) .nil) rfl) fun _ => jmv rfl rfl <| jT (ov (PTR gb_2 (0 + 2))) rfl rfl rfl rfl (fun hq_9 => op_fieldAddr (off := 2) lb tf62_1 (.tmp rfl)) <| jT (ov (PTR gb_2 ((0 + 2) + 0))) rfl rfl rfl rfl (fun hq_10 => op_fieldAddr (off := 0) lb tf60_0 (HasO.cnd (.tmp rfl) hq_10)) <| JL.sub ⟨[(1, ov (PTR gb_2 0)), (2, ov (S rB false)), (17, ov (S rB v_7)), (19, bif v_7 then ov (PTR gb_2 ((0 + 2) + 0)) else .one .und)], [cvar gb_2 r_api_Item i_1], []⟩ (.cons rfl (.cons rfl (.cons rfl (.cons rfl .nil)))) rfl rfl <| jT (ov (S rS i_1.Key.Topic)) rfl rfl rfl rfl (fun hq_11 => op_loadS (j := 0) lb tS9 (HasO.cnd (.tmp rfl) hq_11) rfl (Comp.trans (cT (comp_api_Item_Key i_1) rfl) (comp_api_Key_Topic i_1.Key) (lE rfl)) rfl rfl) ?_
 obtain ⟨v_8, hv_8, hx8⟩ := bnd_inv hx8
 refine jT (ov (S rB v_8)) rfl rfl rfl rfl (fun hq_12 => (op_call (js := []) ld cl71 (sim_event_MayName k i_1.Key.Topic v_8 (ifT hv_8 hq_12)) .func (.cons (HasO.cnd (.tmp rfl) hq_12) .nil) rfl).post (fun _ => Imp.refl)) <| lI hx8 fun v_9 hv_9 hx8 => jc (op_pickCS lb (.tmp rfl) (fun hb13 => (HasO.cnd (.tmp rfl) hb13)) (fun hb13 => .cB) hv_9) <| jmv rfl rfl <| jT (ov (PTR gb_2 (0 + 2))) rfl rfl rfl rfl (fun hq_14 => op_fieldAddr (off := 2) lb tf62_1 (.tmp rfl)) <| jT (ov (PTR gb_2 ((0 + 2) + 1))) rfl rfl rfl rfl (fun hq_15 => op_fieldAddr (off := 1) lb tf60_1 (HasO.cnd (.tmp rfl) hq_15)) <| jT (ov (S rS i_1.Key.Device)) rfl rfl rfl rfl (fun hq_16 => op_loadS (j := 0) lb tS9 (HasO.cnd (.tmp rfl) hq_16) rfl (Comp.trans (cT (comp_api_Item_Key i_1) rfl) (comp_api_Key_Device i_1.Key) (lE rfl)) rfl rfl) <| bI hx8 fun v_10 hv_10 hx8 => jT (ov (S rB v_10)) rfl rfl rfl rfl (fun hq_17 => (op_call (js := []) ld cl71 (sim_event_MayName k i_1.Key.Device v_10 (ifT hv_10 hq_17)) .func (.cons (HasO.cnd (.tmp rfl) hq_17) .nil) rfl).post (fun _ => Imp.refl)) ?_
 obtain ⟨v_11, hv_11, hx8⟩ := lt1_inv hx8
 refine jc (op_pickCS lb (.tmp rfl) (fun hb18 => (HasO.cnd (.tmp rfl) hb18)) (fun hb18 => .cB) hv_11) <| jc (op_assign lb (.tmp rfl)) <| JL.nil ?_
 try obtain rfl := so hx8
 exact jo rfl rfl rfl

theorem sim_frame_items_1 (k : Nat) (i_1 : api_Item) (r : Bool) (hm : frame_items_1 k i_1 = some r) : Sim Tryz.prog 81 [A r_api_Item i_1] [] (γ := Unit) (fun q => []) (fun q => .one (.val (S rB r))) := by
 unfold frame_items_1 at hm
 refine Sim.of Tryz.func81 rfl rfl (lE rfl) (fun e0 w0 => ?_)
 refine JC.at ⟨[(0, ov (A r_api_Item i_1))], [], []⟩ <| jr <| jx (op_boxA lb (.tmp rfl)) fun gb_2 => jc (op_assign lb .cB) <| jn <| jr <| jc (op_loadA (j := 0) lb tA62 (.tmp rfl) rfl (Comp.self r_api_Item i_1) rfl) <| bI hm fun v_3 hv_3 hm => jx (op_call (js := []) ld cl20 (sim_frame_MayItem k i_1 v_3 hv_3) .func (.cons (.tmp rfl) .nil) rfl) fun _ => lI hm fun v_4 hv_4 hm => jc (op_not lb (.tmp rfl) hv_4) <| jc (op_assign lb (.tmp rfl)) <| jn <| JC.ret ?_
 obtain rfl := so hm
 exact jd (.val (S rB v_4)) rfl rfl rfl rfl rfl rfl

theorem sim_slices_IndexFuncapi_Item_api_Item (k : Nat) (s_1 : (List api_Item)) (r : Int) (hm : slices_IndexFuncapi_Item_api_Item k s_1 = some r) : Sim Tryz.prog 111 [S (rL r_api_Item) s_1, CLO 81 []] [] (γ := Unit) (fun q => []) (fun q => .one (.val (S (rI .i64) r))) := by
 unfold slices_IndexFuncapi_Item_api_Item at hm
 refine Sim.of Tryz.func111 rfl rfl (lE rfl) (fun e0 w0 => ?_)
 refine JC.at ⟨[(0, ov (S (rL r_api_Item) s_1)), (1, ov (CLO 81 []))], [], []⟩ <| jr <| jc (op_assign lb .cI) <| jn <| bI hm fun tv1 hx1 hq1 => JC.seqK (α := Unit) (γ := Unit) (stj := fun v q => ⟨[], [], []⟩) (p := fun v => tv1 = (.inl v)) (fun v q hv => ?_) ?_
 · subst hv
   skip
   obtain _ := q
   dsimp only at hq1
   refine JC.at ⟨[], [], []⟩ <| jr <| jc (op_assign lb .cI) <| jn <| JC.ret ?_
   obtain rfl := so hq1
   exact jd (.val (S (rI .i64) (-1 : Int))) rfl rfl rfl rfl rfl rfl
 refine jr <| jmv rfl rfl <| jc (op_lenL lb tu23 (.tmp rfl)) <| jc (op_move lb .cI) <| jn <| JC.block <| bI hx1 fun tv2 hL2 hq2 => JC.pre ?_ (JC.loop (γ := Unit) (stf := fun s q => ⟨[(0, ov (S (rL r_api_Item) s_1)), (1, ov (CLO 81 [])), (7, ov (S (rI .i64) (List.length s_1 : Int))), (8, ov (S (rI .i64) s))], [], []⟩) (q := ()) hL2 ?_)
 · exact (Imp.norm (js := []) rfl (.cons rfl (.cons rfl (.cons rfl (.cons rfl .nil)))))
 intro x_2 q x hx hr
 obtain _ := q
 change slices_IndexFuncapi_Item_api_Item.b1 k s_1 x_2 = some x at hx
 unfold slices_IndexFuncapi_Item_api_Item.b1 at hx
 refine JC.at ⟨[(0, ov (S (rL r_api_Item) s_1)), (1, ov (CLO 81 [])), (7, ov (S (rI .i64) (List.length s_1 : Int))), (8, ov (S (rI .i64) x_2))], [], []⟩ <| jr <| lI hx fun v_3 hv_3 hx => jc (op_cmpI lb (.tmp rfl) (.tmp rfl) (cs hv_3)) <| jn <| JC.seq <| jif (.tmp rfl) hx (fun hc3 hx => ?_) (fun hc3 hx => ?_)
 · refine JC.skip <| JQ.then <| JC.seq <| JC.block <| jr <| jmv rfl rfl <| jc (op_assign lb (.tmp rfl)) <| jn <| jr <| jmv rfl rfl <| jmv rfl rfl <| jmv rfl rfl <| bI hx fun v_4 hv_4 hx => jc (op_indexAddrLg lb tu23 tz62 (.tmp rfl) (.tmp rfl) hv_4) <| jc (op_loadPAg lb tA62 (.tmp rfl) rfl) <| bI hx fun v_5 hv_5 hx => jx (op_call (js := []) ld cl81 (sim_frame_items_1 k v_4 v_5 hv_5) (.tmp rfl) (.cons (.tmp rfl) .nil) rfl) fun _ => jn ?_
   refine jif (.tmp rfl) hx (fun hc4 hx => ?_) (fun hc4 hx => ?_)
   · refine jr <| jmv rfl rfl <| jc (op_assign lb (.tmp rfl)) <| jn <| JC.ret <| JQ.outRB <| JQ.outR ?_
     try obtain rfl := so hx
     try obtain rfl := hr _ rfl
     dsimp only at hq2
     refine JQ.outR <| JQ.outRB ?_
     try obtain rfl := so hq2
     dsimp only at hq1
     refine JQ.outR ?_
     obtain rfl := so hq1
     exact jd (.val (S (rI .i64) x_2)) rfl rfl rfl rfl rfl rfl
   refine JC.skip <| JQ.outNB <| JQ.then <| JC.region <| lI hx fun v_6 hv_6 hx => jc (op_arI lb (.tmp rfl) .cI (cs hv_6)) <| jmv rfl rfl <| JL.nil ?_
   try obtain rfl := so hx
   exact JQ.next () rfl (Imp.norm (js := []) rfl (.cons rfl (.cons rfl (.cons rfl (.cons rfl .nil)))))
 refine JC.exit <| JQ.outX ?_
 try obtain rfl := so hx
 try obtain rfl := hr _ rfl
 dsimp only at hq2
 refine JQ.outX <| JQ.here ?_
 try obtain rfl := so hq2
 exact JQ.joinK () () rfl (Imp.norm (js := []) rfl .nil)

theorem sim_slices_ContainsFuncapi_Item_api_Item (k : Nat) (s_1 : (List api_Item)) (r : Bool) (hm : slices_ContainsFuncapi_Item_api_Item k s_1 = some r) : Sim Tryz.prog 73 [S (rL r_api_Item) s_1, CLO 81 []] [] (γ := Unit) (fun q => []) (fun q => .one (.val (S rB r))) := by
 unfold slices_ContainsFuncapi_Item_api_Item at hm
 refine Sim.of Tryz.func73 rfl rfl (lE rfl) (fun e0 w0 => ?_)
 refine JC.at ⟨[(0, ov (S (rL r_api_Item) s_1)), (1, ov (CLO 81 []))], [], []⟩ <| jr <| jc (op_assign lb .cB) <| jn <| jr <| jmv rfl rfl <| jmv rfl rfl <| bI hm fun v_2 hv_2 hm => jx (op_call (js := []) ld cl111 (sim_slices_IndexFuncapi_Item_api_Item k s_1 v_2 hv_2) .func (.cons (.tmp rfl) (.cons (.tmp rfl) .nil)) rfl) fun _ => lI hm fun v_3 hv_3 hm => jc (op_cmpI lb (.tmp rfl) .cI (cs hv_3)) <| jc (op_assign lb (.tmp rfl)) <| jn <| JC.ret ?_
 obtain rfl := so hm
 exact jd (.val (S rB v_3)) rfl rfl rfl rfl rfl rfl

theorem sim_frame_items (k : Nat) (f_1 : api_Frame) (r : Bool) (hm : frame_items k f_1 = some r) : Sim Tryz.prog 30 [A r_api_Frame f_1] [] (γ := Unit) (fun q => []) (fun q => .one (.val (S rB r))) := by
 unfold frame_items at hm
 refine Sim.of Tryz.func30 rfl rfl (lE rfl) (fun e0 w0 => ?_)
 refine JC.at ⟨[(0, ov (A r_api_Frame f_1))], [], []⟩ <| jr <| jx (op_boxA lb (.tmp rfl)) fun gb_2 => jc (op_assign lb .cB) <| jn <| bI hm fun x_7 hx1 hq1 => JC.seqJ (γ := Unit) (stj := fun _ => ⟨[(2, ov (S rB x_7))], [], []⟩) (fun _ => ?_) ?_
 · refine JC.ret ?_
   obtain rfl := so hq1
   exact jd (.val (S rB x_7)) rfl rfl rfl rfl rfl rfl
 refine JC.region <| jc (op_fieldAddr (off := 3) lb tf39_3 (.tmp rfl)) <| jc (op_loadS (j := 0) lb tS23 (.tmp rfl) rfl (cT (comp_api_Frame_Items f_1) rfl) rfl rfl) <| jc (op_lenL lb tu23 (.tmp rfl)) <| lI hx1 fun v_3 hv_3 hx1 => jc (op_cmpI lb (.tmp rfl) .cI (cs hv_3)) <| jmv rfl rfl <| jT (ov (PTR gb_2 (0 + 3))) rfl rfl rfl rfl (fun hq_2 => op_fieldAddr (off := 3) lb tf39_3 (.tmp rfl)) <| jT (ov (S (rL r_api_Item) f_1.Items)) rfl rfl rfl rfl (fun hq_3 => op_loadS (j := 0) lb tS23 (HasO.cnd (.tmp rfl) hq_3) rfl (cT (comp_api_Frame_Items f_1) rfl) rfl rfl) <| bI hx1 fun v_4 hv_4 hx1 => jT (ov (S rB v_4)) rfl rfl rfl rfl (fun hq_4 => (op_call (js := []) ld cl73 (sim_slices_ContainsFuncapi_Item_api_Item k f_1.Items v_4 (ifT hv_4 hq_4)) .func (.cons (HasO.cnd (.tmp rfl) hq_4) (.cons .func .nil)) rfl).post (fun _ => Imp.refl)) <| JL.nrm ⟨[(2, ov (S rB false)), (7, ov (S rB v_3)), (10, bif v_3 then ov (S rB v_4) else .one .und)], [], []⟩ [] rfl (.cons rfl (.cons rfl (.cons rfl .nil))) rfl ?_
 obtain ⟨v_5, hv_5, hx1⟩ := lt1_inv hx1
 refine jT (ov (S rB v_5)) rfl rfl rfl rfl (fun hq_5 => op_not lb (HasO.cnd (.tmp rfl) hq_5) hv_5) <| lI hx1 fun v_6 hv_6 hx1 => jc (op_pickCS lb (.tmp rfl) (fun hb6 => (HasO.cnd (.tmp rfl) hb6)) (fun hb6 => .cB) hv_6) <| jc (op_assign lb (.tmp rfl)) <| JL.nil ?_
 try obtain rfl := so hx1
 exact jo rfl rfl rfl

theorem sim_event_MayDot (k : Nat) (d_1 : api_Dot) (r : Bool) (hm : event_MayDot k d_1 = some r) : Sim Tryz.prog 82 [A r_api_Dot d_1] [] (γ := Unit) (fun q => []) (fun q => .one (.val (S rB r))) := by
 unfold event_MayDot at hm
 refine Sim.of Tryz.func82 rfl rfl (lE rfl) (fun e0 w0 => ?_)
 refine JC.at ⟨[(0, ov (A r_api_Dot d_1))], [], []⟩ <| jr <| jx (op_boxA lb (.tmp rfl)) fun gb_2 => jc (op_assign lb .cB) <| jn <| bI hm fun x_10 hx1 hq1 => JC.seqJ (γ := Unit) (stj := fun _ => ⟨[(2, ov (S rB x_10))], [], []⟩) (fun _ => ?_) ?_
 · refine JC.ret ?_
   obtain rfl := so hq1
   exact jd (.val (S rB x_10)) rfl rfl rfl rfl rfl rfl
 refine JC.region <| jc (op_fieldAddr (off := 0) lb tf26_0 (.tmp rfl)) <| jc (op_loadS (j := 0) lb tS3 (.tmp rfl) rfl (cT (comp_api_Dot_Region d_1) rfl) rfl rfl) <| lI hx1 fun v_3 hv_3 hx1 => jc (op_cmpI lb (.tmp rfl) .cI (cs hv_3)) <| jmv rfl rfl <| jT (ov (PTR gb_2 (0 + 0))) rfl rfl rfl rfl (fun hq_2 => op_fieldAddr (off := 0) lb tf26_0 (.tmp rfl)) <| jT (ov (S (rI .i64) d_1.Region)) rfl rfl rfl rfl (fun hq_3 => op_loadS (j := 0) lb tS3 (HasO.cnd (.tmp rfl) hq_3) rfl (cT (comp_api_Dot_Region d_1) rfl) rfl rfl) <| lI hx1 fun v_4 hv_4 hx1 => jT (ov (S rB v_4)) rfl rfl rfl rfl (fun hq_4 => op_cmpI lb (HasO.cnd (.tmp rfl) hq_4) .cI (cs hv_4)) <| lI hx1 fun v_5 hv_5 hx1 => jc (op_pickCS lb (.tmp rfl) (fun hb5 => (HasO.cnd (.tmp rfl) hb5)) (fun hb5 => .cB) hv_5) ?_
 refine JL.sub ⟨[(1, ov (PTR gb_2 0)), (2, ov (S rB false)), (10, ov (S rB v_5))], [cvar gb_2 r_api_Dot d_1], []⟩ (.cons rfl (.cons rfl (.cons rfl .nil))) rfl rfl <| jmv rfl rfl <| jT (ov (PTR gb_2 (0 + 1))) rfl rfl rfl rfl (fun hq_6 => op_fieldAddr (off := 1) lb tf26_1 (.tmp rfl)) <| jT (ov (S (rU UInt64) d_1.Count)) rfl rfl rfl rfl (fun hq_7 => op_loadS (j := 0) lb tS24 (HasO.cnd (.tmp rfl) hq_7) rfl (cT (comp_api_Dot_Count d_1) rfl) rfl rfl) <| lI hx1 fun v_6 hv_6 hx1 => jT (ov (S rB v_6)) rfl rfl rfl rfl (fun hq_8 => op_cmpU lb (HasO.cnd (.tmp rfl) hq_8) (HasO.cU (x := (1 : UInt64)) rfl (by decide)) (cs hv_6)) <| lI hx1 fun v_7 hv_7 hx1 => jc (op_pickCS lb (.tmp rfl) (fun hb9 => (HasO.cnd (.tmp rfl) hb9)) (fun hb9 => .cB) hv_7) <| jmv rfl rfl <| jT (ov (PTR gb_2 (0 + 1))) rfl rfl rfl rfl (fun hq_10 => op_fieldAddr (off := 1) lb tf26_1 (.tmp rfl)) ?_
 refine jT (ov (S (rU UInt64) d_1.Count)) rfl rfl rfl rfl (fun hq_11 => op_loadS (j := 0) lb tS24 (HasO.cnd (.tmp rfl) hq_11) rfl (cT (comp_api_Dot_Count d_1) rfl) rfl rfl) <| lI hx1 fun v_8 hv_8 hx1 => jT (ov (S rB v_8)) rfl rfl rfl rfl (fun hq_12 => op_cmpU lb (HasO.cnd (.tmp rfl) hq_12) (HasO.cU (x := (4611686018427387904 : UInt64)) rfl (by decide)) (cs hv_8)) <| lI hx1 fun v_9 hv_9 hx1 => jc (op_pickCS lb (.tmp rfl) (fun hb13 => (HasO.cnd (.tmp rfl) hb13)) (fun hb13 => .cB) hv_9) <| jc (op_assign lb (.tmp rfl)) <| JL.nil ?_
 try obtain rfl := so hx1
 exact jo rfl rfl rfl

theorem sim_event_mayVector_1 (k : Nat) (n_1 : UInt64) (r : Bool) (hm : event_mayVector_1 k n_1 = some r) : Sim Tryz.prog 116 [S (rU UInt64) n_1] [] (γ := Unit) (fun q => []) (fun q => .one (.val (S rB r))) := by
 unfold event_mayVector_1 at hm
 refine Sim.of Tryz.func116 rfl rfl (lE rfl) (fun e0 w0 => ?_)
 refine JC.at ⟨[(0, ov (S (rU UInt64) n_1))], [], []⟩ <| jr <| jc (op_assign lb .cB) <| jn <| jr <| jmv rfl rfl <| lI hm fun v_2 hv_2 hm => jc (op_cmpU lb (.tmp rfl) (HasO.cU (x := (4611686018427387904 : UInt64)) rfl (by decide)) (cs hv_2)) <| jc (op_assign lb (.tmp rfl)) <| jn <| JC.ret ?_
 obtain rfl := so hm
 exact jd (.val (S rB v_2)) rfl rfl rfl rfl rfl rfl

theorem sim_slices_IndexFuncuint64_uint64 (k : Nat) (s_1 : (List UInt64)) (r : Int) (hm : slices_IndexFuncuint64_uint64 k s_1 = some r) : Sim Tryz.prog 85 [S (rL (rU UInt64)) s_1, CLO 116 []] [] (γ := Unit) (fun q => []) (fun q => .one (.val (S (rI .i64) r))) := by
 unfold slices_IndexFuncuint64_uint64 at hm
 refine Sim.of Tryz.func85 rfl rfl (lE rfl) (fun e0 w0 => ?_)
 refine JC.at ⟨[(0, ov (S (rL (rU UInt64)) s_1)), (1, ov (CLO 116 []))], [], []⟩ <| jr <| jc (op_assign lb .cI) <| jn <| bI hm fun tv1 hx1 hq1 => JC.seqK (α := Unit) (γ := Unit) (stj := fun v q => ⟨[], [], []⟩) (p := fun v => tv1 = (.inl v)) (fun v q hv => ?_) ?_
 · subst hv
   skip
   obtain _ := q
   dsimp only at hq1
   refine JC.at ⟨[], [], []⟩ <| jr <| jc (op_assign lb .cI) <| jn <| JC.ret ?_
   obtain rfl := so hq1
   exact jd (.val (S (rI .i64) (-1 : Int))) rfl rfl rfl rfl rfl rfl
 refine jr <| jmv rfl rfl <| jc (op_lenL lb tu71 (.tmp rfl)) <| jc (op_move lb .cI) <| jn <| JC.block <| bI hx1 fun tv2 hL2 hq2 => JC.pre ?_ (JC.loop (γ := Unit) (stf := fun s q => ⟨[(0, ov (S (rL (rU UInt64)) s_1)), (1, ov (CLO 116 [])), (7, ov (S (rI .i64) (List.length s_1 : Int))), (8, ov (S (rI .i64) s))], [], []⟩) (q := ()) hL2 ?_)
 · exact (Imp.norm (js := []) rfl (.cons rfl (.cons rfl (.cons rfl (.cons rfl .nil)))))
 intro x_2 q x hx hr
 obtain _ := q
 change slices_IndexFuncuint64_uint64.b1 k s_1 x_2 = some x at hx
 unfold slices_IndexFuncuint64_uint64.b1 at hx
 refine JC.at ⟨[(0, ov (S (rL (rU UInt64)) s_1)), (1, ov (CLO 116 [])), (7, ov (S (rI .i64) (List.length s_1 : Int))), (8, ov (S (rI .i64) x_2))], [], []⟩ <| jr <| lI hx fun v_3 hv_3 hx => jc (op_cmpI lb (.tmp rfl) (.tmp rfl) (cs hv_3)) <| jn <| JC.seq <| jif (.tmp rfl) hx (fun hc3 hx => ?_) (fun hc3 hx => ?_)
 · refine JC.skip <| JQ.then <| JC.seq <| JC.block <| jr <| jmv rfl rfl <| jc (op_assign lb (.tmp rfl)) <| jn <| jr <| jmv rfl rfl <| jmv rfl rfl <| jmv rfl rfl <| bI hx fun v_4 hv_4 hx => jc (op_indexAddrLg lb tu71 tz24 (.tmp rfl) (.tmp rfl) hv_4) <| jc (op_loadPSg lb tS24 rfl (.tmp rfl) rfl) <| bI hx fun v_5 hv_5 hx => jx (op_call (js := []) ld cl116 (sim_event_mayVector_1 k v_4 v_5 hv_5) (.tmp rfl) (.cons (.tmp rfl) .nil) rfl) fun _ => jn ?_
   refine jif (.tmp rfl) hx (fun hc4 hx => ?_) (fun hc4 hx => ?_)
   · refine jr <| jmv rfl rfl <| jc (op_assign lb (.tmp rfl)) <| jn <| JC.ret <| JQ.outRB <| JQ.outR ?_
     try obtain rfl := so hx
     try obtain rfl := hr _ rfl
     dsimp only at hq2
     refine JQ.outR <| JQ.outRB ?_
     try obtain rfl := so hq2
     dsimp only at hq1
     refine JQ.outR ?_
     obtain rfl := so hq1
     exact jd (.val (S (rI .i64) x_2)) rfl rfl rfl rfl rfl rfl
   refine JC.skip <| JQ.outNB <| JQ.then <| JC.region <| lI hx fun v_6 hv_6 hx => jc (op_arI lb (.tmp rfl) .cI (cs hv_6)) <| jmv rfl rfl <| JL.nil ?_
   try obtain rfl := so hx
   exact JQ.next () rfl (Imp.norm (js := []) rfl (.cons rfl (.cons rfl (.cons rfl (.cons rfl .nil)))))
 refine JC.exit <| JQ.outX ?_
 try obtain rfl := so hx
 try obtain rfl := hr _ rfl
 dsimp only at hq2
 refine JQ.outX <| JQ.here ?_
 try obtain rfl := so hq2
 exact JQ.joinK () () rfl (Imp.norm (js := []) rfl .nil)

theorem sim_slices_ContainsFuncuint64_uint64 (k : Nat) (s_1 : (List UInt64)) (r : Bool) (hm : slices_ContainsFuncuint64_uint64 k s_1 = some r) : Sim Tryz.prog 32 [S (rL (rU UInt64)) s_1, CLO 116 []] [] (γ := Unit) (fun q => []) (fun q => .one (.val (S rB r))) := by
 unfold slices_ContainsFuncuint64_uint64 at hm
 refine Sim.of Tryz.func32 rfl rfl (lE rfl) (fun e0 w0 => ?_)
 refine JC.at ⟨[(0, ov (S (rL (rU UInt64)) s_1)), (1, ov (CLO 116 []))], [], []⟩ <| jr <| jc (op_assign lb .cB) <| jn <| jr <| jmv rfl rfl <| jmv rfl rfl <| bI hm fun v_2 hv_2 hm => jx (op_call (js := []) ld cl85 (sim_slices_IndexFuncuint64_uint64 k s_1 v_2 hv_2) .func (.cons (.tmp rfl) (.cons (.tmp rfl) .nil)) rfl) fun _ => lI hm fun v_3 hv_3 hm => jc (op_cmpI lb (.tmp rfl) .cI (cs hv_3)) <| jc (op_assign lb (.tmp rfl)) <| jn <| JC.ret ?_
 obtain rfl := so hm
 exact jd (.val (S rB v_3)) rfl rfl rfl rfl rfl rfl

theorem sim_event_mayVector (k : Nat) (v_1 : (Vector UInt64 16)) (r : Bool) (hm : event_mayVector k v_1 = some r) : Sim Tryz.prog 83 [A (rV 16 (rU UInt64)) v_1] [] (γ := Unit) (fun q => []) (fun q => .one (.val (S rB r))) := by
 unfold event_mayVector at hm
 refine Sim.of Tryz.func83 rfl rfl (lE rfl) (fun e0 w0 => ?_)
 refine JC.at ⟨[(0, ov (A (rV 16 (rU UInt64)) v_1))], [], []⟩ <| jr <| jx (op_boxA lb (.tmp rfl)) fun gb_2 => jc (op_assign lb .cB) <| jn <| jr <| bI hm fun v_3 hv_3 hm => JL.pre (Imp.frzVar (j := 0) rfl (ImpK.slotP (s := 1) rfl (Comp.self (rV 16 (rU UInt64)) v_1) ImpK.refl)) <| jc (op_sliceP lb tu29 tz24 (.tmp rfl) .none .none hv_3) <| bI hm fun v_4 hv_4 hm => jx (op_call (js := []) ld cl32 (sim_slices_ContainsFuncuint64_uint64 k v_3 v_4 hv_4) .func (.cons (.tmp rfl) (.cons .func .nil)) rfl) (fun _ => ?_)
 refine lI hm fun v_5 hv_5 hm => jc (op_not lb (.tmp rfl) hv_5) <| jc (op_assign lb (.tmp rfl)) <| jn <| JC.ret ?_
 obtain rfl := so hm
 exact jd (.val (S rB v_5)) rfl rfl rfl rfl rfl rfl

theorem sim_cmp_isNaNint (k : Nat) (x_1 : Int) (r : Bool) (hm : cmp_isNaNint k x_1 = some r) : Sim Tryz.prog 142 [S (rI .i64) x_1] [] (γ := Unit) (fun q => []) (fun q => .one (.val (S rB r))) := by
 unfold cmp_isNaNint at hm
 refine Sim.of Tryz.func142 rfl rfl (lE rfl) (fun e0 w0 => ?_)
 refine JC.at ⟨[(0, ov (S (rI .i64) x_1))], [], []⟩ <| jr <| jc (op_assign lb .cB) <| jn <| jr <| jmv rfl rfl <| jmv rfl rfl <| lI hm fun v_2 hv_2 hm => jc (op_cmpI lb (.tmp rfl) (.tmp rfl) (cs hv_2)) <| jc (op_assign lb (.tmp rfl)) <| jn <| JC.ret ?_
 obtain rfl := so hm
 exact jd (.val (S rB v_2)) rfl rfl rfl rfl rfl rfl

theorem sim_cmp_Compareint (k : Nat) (x_1 : Int) (y_2 : Int) (r : Int) (hm : cmp_Compareint k x_1 y_2 = some r) : Sim Tryz.prog 118 [S (rI .i64) x_1, S (rI .i64) y_2] [] (γ := Unit) (fun q => []) (fun q => .one (.val (S (rI .i64) r))) := by
 unfold cmp_Compareint at hm
 refine Sim.of Tryz.func118 rfl rfl (lE rfl) (fun e0 w0 => ?_)
 refine JC.at ⟨[(0, ov (S (rI .i64) x_1)), (1, ov (S (rI .i64) y_2))], [], []⟩ <| jr <| jc (op_assign lb .cI) <| jn <| jr <| jmv rfl rfl <| bI hm fun v_3 hv_3 hm => jx (op_call (js := []) ld cl142 (sim_cmp_isNaNint k x_1 v_3 hv_3) .func (.cons (.tmp rfl) .nil) rfl) fun _ => jc (op_assign lb (.tmp rfl)) <| jn <| jr <| jmv rfl rfl <| bI hm fun v_4 hv_4 hm => jx (op_call (js := []) ld cl142 (sim_cmp_isNaNint k y_2 v_4 hv_4) .func (.cons (.tmp rfl) .nil) rfl) fun _ => jc (op_assign lb (.tmp rfl)) <| jn <| JC.seq <| jr <| jmv rfl rfl <| jn ?_
 refine jif (.tmp rfl) hm (fun hc1 hm => ?_) (fun hc1 hm => ?_)
 · refine JC.seq <| jr <| jmv rfl rfl <| jn <| jif (.tmp rfl) hm (fun hc2 hm => ?_) (fun hc2 hm => ?_)
   · refine jr <| jc (op_assign lb .cI) <| jn <| JC.ret <| JQ.outR <| JQ.outR ?_
     obtain rfl := so hm
     exact jd (.val (S (rI .i64) (0 : Int))) rfl rfl rfl rfl rfl rfl
   refine JC.skip <| JQ.then <| jr <| jc (op_assign lb .cI) <| jn <| JC.ret <| JQ.outR ?_
   obtain rfl := so hm
   exact jd (.val (S (rI .i64) (-1 : Int))) rfl rfl rfl rfl rfl rfl
 refine JC.skip <| JQ.then <| JC.seq <| jr <| jmv rfl rfl <| jn <| jif (.tmp rfl) hm (fun hc3 hm => ?_) (fun hc3 hm => ?_)
 · refine jr <| jc (op_assign lb .cI) <| jn <| JC.ret <| JQ.outR ?_
   obtain rfl := so hm
   exact jd (.val (S (rI .i64) (1 : Int))) rfl rfl rfl rfl rfl rfl
 refine JC.skip <| JQ.then <| JC.seq <| jr <| jmv rfl rfl <| jmv rfl rfl <| lI hm fun v_5 hv_5 hm => jc (op_cmpI lb (.tmp rfl) (.tmp rfl) (cs hv_5)) <| JL.sub ⟨[(0, ov (S (rI .i64) x_1)), (1, ov (S (rI .i64) y_2)), (16, ov (S rB v_5))], [], []⟩ (.cons rfl (.cons rfl (.cons rfl .nil))) rfl rfl <| jn <| jif (.tmp rfl) hm (fun hc4 hm => ?_) (fun hc4 hm => ?_)
 · refine jr <| jc (op_assign lb .cI) <| jn <| JC.ret <| JQ.outR ?_
   obtain rfl := so hm
   exact jd (.val (S (rI .i64) (-1 : Int))) rfl rfl rfl rfl rfl rfl
 refine JC.skip <| JQ.then <| JC.seq <| jr <| jmv rfl rfl <| jmv rfl rfl <| lI hm fun v_6 hv_6 hm => jc (op_cmpI lb (.tmp rfl) (.tmp rfl) (cs hv_6)) <| jn <| jif (.tmp rfl) hm (fun hc5 hm => ?_) (fun hc5 hm => ?_)
 · refine jr <| jc (op_assign lb .cI) <| jn <| JC.ret <| JQ.outR ?_
   obtain rfl := so hm
   exact jd (.val (S (rI .i64) (1 : Int))) rfl rfl rfl rfl rfl rfl
 refine JC.skip <| JQ.then <| jr <| jc (op_assign lb .cI) <| jn <| JC.ret ?_
 obtain rfl := so hm
 exact jd (.val (S (rI .i64) (0 : Int))) rfl rfl rfl rfl rfl rfl

theorem sim_cmp_isNaNuint64 (k : Nat) (x_1 : UInt64) (r : Bool) (hm : cmp_isNaNuint64 k x_1 = some r) : Sim Tryz.prog 143 [S (rU UInt64) x_1] [] (γ := Unit) (fun q => []) (fun q => .one (.val (S rB r))) := by
 unfold cmp_isNaNuint64 at hm
 refine Sim.of Tryz.func143 rfl rfl (lE rfl) (fun e0 w0 => ?_)
 refine JC.at ⟨[(0, ov (S (rU UInt64) x_1))], [], []⟩ <| jr <| jc (op_assign lb .cB) <| jn <| jr <| jmv rfl rfl <| jmv rfl rfl <| lI hm fun v_2 hv_2 hm => jc (op_cmpU lb (.tmp rfl) (.tmp rfl) (cs hv_2)) <| jc (op_assign lb (.tmp rfl)) <| jn <| JC.ret ?_
 obtain rfl := so hm
 exact jd (.val (S rB v_2)) rfl rfl rfl rfl rfl rfl

theorem sim_cmp_Compareuint64 (k : Nat) (x_1 : UInt64) (y_2 : UInt64) (r : Int) (hm : cmp_Compareuint64 k x_1 y_2 = some r) : Sim Tryz.prog 119 [S (rU UInt64) x_1, S (rU UInt64) y_2] [] (γ := Unit) (fun q => []) (fun q => .one (.val (S (rI .i64) r))) := by
 unfold cmp_Compareuint64 at hm
 refine Sim.of Tryz.func119 rfl rfl (lE rfl) (fun e0 w0 => ?_)
 refine JC.at ⟨[(0, ov (S (rU UInt64) x_1)), (1, ov (S (rU UInt64) y_2))], [], []⟩ <| jr <| jc (op_assign lb .cI) <| jn <| jr <| jmv rfl rfl <| bI hm fun v_3 hv_3 hm => jx (op_call (js := []) ld cl143 (sim_cmp_isNaNuint64 k x_1 v_3 hv_3) .func (.cons (.tmp rfl) .nil) rfl) fun _ => jc (op_assign lb (.tmp rfl)) <| jn <| jr <| jmv rfl rfl <| bI hm fun v_4 hv_4 hm => jx (op_call (js := []) ld cl143 (sim_cmp_isNaNuint64 k y_2 v_4 hv_4) .func (.cons (.tmp rfl) .nil) rfl) fun _ => jc (op_assign lb (.tmp rfl)) <| jn <| JC.seq <| jr <| jmv rfl rfl <| jn ?_
 refine jif (.tmp rfl) hm (fun hc1 hm => ?_) (fun hc1 hm => ?_)
 · refine JC.seq <| jr <| jmv rfl rfl <| jn <| jif (.tmp rfl) hm (fun hc2 hm => ?_) (fun hc2 hm => ?_)
   · refine jr <| jc (op_assign lb .cI) <| jn <| JC.ret <| JQ.outR <| JQ.outR ?_
     obtain rfl := so hm
     exact jd (.val (S (rI .i64) (0 : Int))) rfl rfl rfl rfl rfl rfl
   refine JC.skip <| JQ.then <| jr <| jc (op_assign lb .cI) <| jn <| JC.ret <| JQ.outR ?_
   obtain rfl := so hm
   exact jd (.val (S (rI .i64) (-1 : Int))) rfl rfl rfl rfl rfl rfl
 refine JC.skip <| JQ.then <| JC.seq <| jr <| jmv rfl rfl <| jn <| jif (.tmp rfl) hm (fun hc3 hm => ?_) (fun hc3 hm => ?_)
 · refine jr <| jc (op_assign lb .cI) <| jn <| JC.ret <| JQ.outR ?_
   obtain rfl := so hm
   exact jd (.val (S (rI .i64) (1 : Int))) rfl rfl rfl rfl rfl rfl
 refine JC.skip <| JQ.then <| JC.seq <| jr <| jmv rfl rfl <| jmv rfl rfl <| lI hm fun v_5 hv_5 hm => jc (op_cmpU lb (.tmp rfl) (.tmp rfl) (cs hv_5)) <| JL.sub ⟨[(0, ov (S (rU UInt64) x_1)), (1, ov (S (rU UInt64) y_2)), (16, ov (S rB v_5))], [], []⟩ (.cons rfl (.cons rfl (.cons rfl .nil))) rfl rfl <| jn <| jif (.tmp rfl) hm (fun hc4 hm => ?_) (fun hc4 hm => ?_)
 · refine jr <| jc (op_assign lb .cI) <| jn <| JC.ret <| JQ.outR ?_
   obtain rfl := so hm
   exact jd (.val (S (rI .i64) (-1 : Int))) rfl rfl rfl rfl rfl rfl
 refine JC.skip <| JQ.then <| JC.seq <| jr <| jmv rfl rfl <| jmv rfl rfl <| lI hm fun v_6 hv_6 hm => jc (op_cmpU lb (.tmp rfl) (.tmp rfl) (cs hv_6)) <| jn <| jif (.tmp rfl) hm (fun hc5 hm => ?_) (fun hc5 hm => ?_)
 · refine jr <| jc (op_assign lb .cI) <| jn <| JC.ret <| JQ.outR ?_
   obtain rfl := so hm
   exact jd (.val (S (rI .i64) (1 : Int))) rfl rfl rfl rfl rfl rfl
 refine JC.skip <| JQ.then <| jr <| jc (op_assign lb .cI) <| jn <| JC.ret ?_
 obtain rfl := so hm
 exact jd (.val (S (rI .i64) (0 : Int))) rfl rfl rfl rfl rfl rfl

theorem sim_cmp_Orint (k : Nat) (vals_1 : (List Int)) (r : Int) (hm : cmp_Orint k vals_1 = some r) : Sim Tryz.prog 117 [S (rL (rI .i64)) vals_1] [] (γ := Unit) (fun q => []) (fun q => .one (.val (S (rI .i64) r))) := by
 unfold cmp_Orint at hm
 refine Sim.of Tryz.func117 rfl rfl (lE rfl) (fun e0 w0 => ?_)
 refine JC.at ⟨[(0, ov (S (rL (rI .i64)) vals_1))], [], []⟩ <| jr <| jc (op_assign lb .cI) <| jn <| jr <| jc (op_assign lb .cI) <| jn <| bI hm fun tv1 hx1 hq1 => JC.seqK (α := Unit) (γ := Unit) (stj := fun v q => ⟨[(3, ov (S (rI .i64) (0 : Int)))], [], []⟩) (p := fun v => tv1 = (.inl v)) (fun v q hv => ?_) ?_
 · subst hv
   skip
   obtain _ := q
   dsimp only at hq1
   refine JC.at ⟨[(3, ov (S (rI .i64) (0 : Int)))], [], []⟩ <| jr <| jmv rfl rfl <| jc (op_assign lb (.tmp rfl)) <| jn <| JC.ret ?_
   obtain rfl := so hq1
   exact jd (.val (S (rI .i64) (0 : Int))) rfl rfl rfl rfl rfl rfl
 refine jr <| jmv rfl rfl <| jc (op_lenL lb tu37 (.tmp rfl)) <| jc (op_move lb .cI) <| jn <| JC.block <| bI hx1 fun tv2 hL2 hq2 => JC.pre ?_ (JC.loop (γ := Unit) (stf := fun s q => ⟨[(3, ov (S (rI .i64) (0 : Int))), (6, ov (S (rL (rI .i64)) vals_1)), (7, ov (S (rI .i64) (List.length vals_1 : Int))), (8, ov (S (rI .i64) s))], [], []⟩) (q := ()) hL2 ?_)
 · exact (Imp.norm (js := []) rfl (.cons rfl (.cons rfl (.cons rfl (.cons rfl .nil)))))
 intro x_2 q x hx hr
 obtain _ := q
 change cmp_Orint.b1 k vals_1 x_2 = some x at hx
 unfold cmp_Orint.b1 at hx
 refine JC.at ⟨[(3, ov (S (rI .i64) (0 : Int))), (6, ov (S (rL (rI .i64)) vals_1)), (7, ov (S (rI .i64) (List.length vals_1 : Int))), (8, ov (S (rI .i64) x_2))], [], []⟩ <| jr <| lI hx fun v_3 hv_3 hx => jc (op_cmpI lb (.tmp rfl) (.tmp rfl) (cs hv_3)) <| jn <| JC.seq <| jif (.tmp rfl) hx (fun hc3 hx => ?_) (fun hc3 hx => ?_)
 · refine JC.skip <| JQ.then <| JC.seq <| JC.block <| jr <| bI hx fun v_4 hv_4 hx => jc (op_indexAddrLg lb tu37 tz3 (.tmp rfl) (.tmp rfl) hv_4) <| jc (op_loadPSg lb tS3 rfl (.tmp rfl) rfl) <| jc (op_assign lb (.tmp rfl)) <| jn <| jr <| jmv rfl rfl <| jmv rfl rfl <| lI hx fun v_5 hv_5 hx => jc (op_cmpI lb (.tmp rfl) (.tmp rfl) (cs hv_5)) <| jn <| jif (.tmp rfl) hx (fun hc4 hx => ?_) (fun hc4 hx => ?_)
   · refine jr <| jmv rfl rfl <| jc (op_assign lb (.tmp rfl)) <| jn <| JC.ret <| JQ.outRB <| JQ.outR ?_
     try obtain rfl := so hx
     try obtain rfl := hr _ rfl
     dsimp only at hq2
     refine JQ.outR <| JQ.outRB ?_
     try obtain rfl := so hq2
     dsimp only at hq1
     refine JQ.outR ?_
     obtain rfl := so hq1
     exact jd (.val (S (rI .i64) v_4)) rfl rfl rfl rfl rfl rfl
   refine JC.skip <| JQ.outNB <| JQ.then <| JC.region <| lI hx fun v_6 hv_6 hx => jc (op_arI lb (.tmp rfl) .cI (cs hv_6)) <| jmv rfl rfl <| JL.nil ?_
   try obtain rfl := so hx
   exact JQ.next () rfl (Imp.norm (js := []) rfl (.cons rfl (.cons rfl (.cons rfl (.cons rfl .nil)))))
 refine JC.exit <| JQ.outX ?_
 try obtain rfl := so hx
 try obtain rfl := hr _ rfl
 dsimp only at hq2
 refine JQ.outX <| JQ.here ?_
 try obtain rfl := so hq2
 exact JQ.joinK () () rfl (Imp.norm (js := []) rfl (.cons rfl .nil))

theorem sim_event_Less (k : Nat) (a_1 : api_Dot) (b_2 : api_Dot) (r : Bool) (hm : event_Less k a_1 b_2 = some r) : Sim Tryz.prog 84 [A r_api_Dot a_1, A r_api_Dot b_2] [] (γ := Unit) (fun q => []) (fun q => .one (.val (S rB r))) := by
 unfold event_Less at hm
 refine Sim.of Tryz.func84 rfl rfl (lE rfl) (fun e0 w0 => ?_)
 refine JC.at ⟨[(0, ov (A r_api_Dot a_1)), (1, ov (A r_api_Dot b_2))], [], []⟩ <| jr <| jx (op_boxA lb (.tmp rfl)) fun gb_3 => jx (op_boxA lb (.tmp rfl)) fun gb_4 => jc (op_assign lb .cB) <| jn <| JC.seq <| bI hm fun v_5 hv_5 hm => bI hm fun v_6 hv_6 hm => bI hm fun v_7 hv_7 hm => ?_
 obtain ⟨v_8, hv_8, hm⟩ := lt1_inv hm
 refine JC.anyF (base := [(2, ov (PTR gb_3 0)), (3, ov (PTR gb_4 0))])
     (fs := fun γ => [⟨some 5, ov (PTR gb_3 (0 + 0))⟩, ⟨some 6, ov (S (rI .i64) a_1.Region)⟩, ⟨some 7, ov (PTR gb_4 (0 + 0))⟩, ⟨some 8, ov (S (rI .i64) b_2.Region)⟩, ⟨some 9, ov (S (rI .i64) v_5)⟩, ⟨some 10, ov (PTR gb_3 (0 + 1))⟩, ⟨some 11, ov (S (rU UInt64) a_1.Count)⟩, ⟨some 12, ov (PTR gb_4 (0 + 1))⟩, ⟨some 13, ov (S (rU UInt64) b_2.Count)⟩, ⟨some 14, ov (S (rI .i64) v_6)⟩, ⟨some 15, ov (S (rL (rI .i64)) ([v_5, v_6] : (List Int)))⟩, ⟨some 16, ov (S (rI .i64) v_7)⟩, ⟨some 17, ov (S rB v_8)⟩, ⟨some 4, ov (S rB v_8)⟩])
     (rs := fun γ => [⟨cvar gb_3 r_api_Dot a_1, none, none, [1, 6]⟩, ⟨cvar gb_4 r_api_Dot b_2, none, none, [3, 8]⟩])
     (afts := nn 14) (js := [0, 0]) mixed (.cons rfl (.cons rfl .nil)) (fun _ => rfl)
     (by
      refine dS 1 (fun γ ρ B hb hd => op_fieldAddr (off := 0) lb tf26_0 (.tmp (hb 2 _ rfl))) <| dR 2 (fun γ ρ B hb hd => OpStep.lk ⟨ρ, (cvar gb_3 r_api_Dot a_1) :: B, _⟩ (op_loadS (j := 0) lb tS3 (tl hd 0 5) rfl (cT (comp_api_Dot_Region a_1) rfl) rfl rfl)) <| dS 3 (fun γ ρ B hb hd => op_fieldAddr (off := 0) lb tf26_0 (.tmp (hb 3 _ rfl))) <| dR 4 (fun γ ρ B hb hd => OpStep.lk ⟨ρ, (cvar gb_4 r_api_Dot b_2) :: B, _⟩ (op_loadS (j := 0) lb tS3 (tl hd 2 7) rfl (cT (comp_api_Dot_Region b_2) rfl) rfl rfl)) <| dS 5 (fun γ ρ B hb hd => (op_call (js := []) ld cl118 (sim_cmp_Compareint k a_1.Region b_2.Region v_5 hv_5) .func (.cons (tl hd 1 6) (.cons (tl hd 3 8) .nil)) rfl).post (fun _ => Imp.refl)) ?_
      refine dS 6 (fun γ ρ B hb hd => op_fieldAddr (off := 1) lb tf26_1 (.tmp (hb 2 _ rfl))) <| dR 7 (fun γ ρ B hb hd => OpStep.lk ⟨ρ, (cvar gb_3 r_api_Dot a_1) :: B, _⟩ (op_loadS (j := 0) lb tS24 (tl hd 5 10) rfl (cT (comp_api_Dot_Count a_1) rfl) rfl rfl)) <| dS 8 (fun γ ρ B hb hd => op_fieldAddr (off := 1) lb tf26_1 (.tmp (hb 3 _ rfl))) <| dR 9 (fun γ ρ B hb hd => OpStep.lk ⟨ρ, (cvar gb_4 r_api_Dot b_2) :: B, _⟩ (op_loadS (j := 0) lb tS24 (tl hd 7 12) rfl (cT (comp_api_Dot_Count b_2) rfl) rfl rfl)) <| dS 10 (fun γ ρ B hb hd => (op_call (js := []) ld cl119 (sim_cmp_Compareuint64 k a_1.Count b_2.Count v_6 hv_6) .func (.cons (tl hd 6 11) (.cons (tl hd 8 13) .nil)) rfl).post (fun _ => Imp.refl)) ?_
      refine dS 11 (fun γ ρ B hb hd => op_buildF (r := (rI .i64)) lb tu37 tz3 tZ3 rfl (lE rfl) (.S rfl (tl hd 4 9) (.S rfl (tl hd 9 14) .nil)) rfl) <| dS 12 (fun γ ρ B hb hd => (op_call (js := []) ld cl117 (sim_cmp_Orint k ([v_5, v_6] : (List Int)) v_7 hv_7) .func (.cons (tl hd 10 15) .nil) rfl).post (fun _ => Imp.refl)) <| dS 13 (fun γ ρ B hb hd => op_cmpI lb (tl hd 11 16) .cI (cs hv_8)) <| dS 14 (fun γ ρ B hb hd => op_assign lb (tl hd 12 17)) ?_
      exact DSteps.nil)
     (by decide +kernel) (fun _ => rfl) (fun _ => rfl) (fun _ => rfl) rfl
     (ρ' := fun γ => [(4, ov (S rB v_8))])
     (X' := fun γ => [cvar gb_3 r_api_Dot a_1, cvar gb_4 r_api_Dot b_2])
     (fun γ ρ hb hd => (.cons (hdq hd 13 4 rfl) .nil)) (fun _ => rfl) (fun γ => ?_)
 refine JQ.at ⟨[(4, ov (S rB v_8))], [cvar gb_3 r_api_Dot a_1, cvar gb_4 r_api_Dot b_2], []⟩ <| JQ.then <| JC.ret ?_
 obtain rfl := so hm
 exact jd (.val (S rB v_8)) rfl rfl rfl rfl rfl rfl

theorem sim_event_May (k : Nat) (t_1 : api_Event) (r : Bool) (hm : event_May k t_1 = some r) : Sim Tryz.prog 31 [A r_api_Event t_1] [] (γ := Unit) (fun q => []) (fun q => .one (.val (S rB r))) := by
 unfold event_May at hm
 refine Sim.of Tryz.func31 rfl rfl (lE rfl) (fun e0 w0 => ?_)
 refine JC.at ⟨[(0, ov (A r_api_Event t_1))], [], []⟩ <| jr <| jx (op_boxA lb (.tmp rfl)) fun gb_2 => jc (op_assign lb .cB) <| jn <| JC.scope <| JC.seq <| bI hm fun x_13 hx1 hq1 => JC.seqJ (γ := Unit) (stj := fun _ => ⟨[(1, ov (PTR gb_2 0)), (29, ov (S rB x_13))], [cvar gb_2 r_api_Event t_1], []⟩) (fun _ => ?_) ?_
 · refine jif (.tmp rfl) hq1 (fun hc14 hq1 => ?_) (fun hc14 hq1 => ?_)
   · refine jr <| jc (op_assign lb .cB) <| jn <| JC.ret <| JQ.outR <| JQ.scR ?_
     obtain rfl := so hq1
     exact jd (.val (S rB false)) rfl rfl rfl rfl rfl rfl
   refine JC.skip <| JQ.then <| JC.seq <| bI hq1 fun x_20 hx15 hq15 => JC.seqJ (γ := Unit) (stj := fun _ => ⟨[(1, ov (PTR gb_2 0)), (45, ov (S rB x_20))], [cvar gb_2 r_api_Event t_1], []⟩) (fun _ => ?_) ?_
   · refine jif (.tmp rfl) hq15 (fun hc26 hq15 => ?_) (fun hc26 hq15 => ?_)
     · refine jr <| jc (op_assign lb .cB) <| jn <| JC.ret <| JQ.outR <| JQ.scR ?_
       obtain rfl := so hq15
       exact jd (.val (S rB false)) rfl rfl rfl rfl rfl rfl
     refine JC.skip <| JQ.then <| jr <| jc (op_assign lb .cB) <| jn <| JC.seq <| JC.label <| JQ.then <| bI hq15 fun x_38 hx27 hq27 => JC.seqJ (γ := Unit) (stj := fun _ => ⟨[(3, ov (S rB x_38))], [], []⟩) (fun _ => ?_) ?_
     · refine jr <| jmv rfl rfl <| jc (op_assign lb (.tmp rfl)) <| jn <| JC.ret <| JQ.scR ?_
       obtain rfl := so hq27
       exact jd (.val (S rB x_38)) rfl rfl rfl rfl rfl rfl
     refine jr <| jc (op_fieldAddr (off := 20) lb tf32_4 (.tmp rfl)) <| jc (op_loadS (j := 0) lb tS30 (.tmp rfl) rfl (cT (comp_api_Event_To t_1) rfl) rfl rfl) <| jc (op_lenL lb tu30 (.tmp rfl)) <| jc (op_move lb .cI) <| jn <| JC.block <| JC.pre ?_ (JC.loop (γ := Unit) (stf := fun s q => ⟨[(1, ov (PTR gb_2 0)), (3, ov (S rB s.1)), (47, ov (S (rL r_api_Dest) t_1.To)), (48, ov (S (rI .i64) (List.length t_1.To : Int))), (49, ov (S (rI .i64) s.2))], [cvar gb_2 r_api_Event t_1], []⟩) (q := ()) hx27 ?_)
     · exact (Imp.norm (js := [0]) rfl (.cons rfl (.cons rfl (.cons rfl (.cons rfl (.cons rfl .nil))))))
     intro s q x hx hr
     obtain ⟨x_21, x_22⟩ := s
     obtain _ := q
     change event_May.b1 k t_1 x_21 x_22 = some x at hx
     unfold event_May.b1 at hx
     refine JC.at ⟨[(1, ov (PTR gb_2 0)), (3, ov (S rB x_21)), (47, ov (S (rL r_api_Dest) t_1.To)), (48, ov (S (rI .i64) (List.length t_1.To : Int))), (49, ov (S (rI .i64) x_22))], [cvar gb_2 r_api_Event t_1], []⟩ <| jr <| lI hx fun v_23 hv_23 hx => jc (op_cmpI lb (.tmp rfl) (.tmp rfl) (cs hv_23)) <| jn <| JC.seq <| jif (.tmp rfl) hx (fun hc29 hx => ?_) (fun hc29 hx => ?_)
     · refine JC.skip <| JQ.then <| JC.seq <| JC.block <| jr <| jmv rfl rfl <| bI hx fun v_24 hv_24 hx => jc (op_indexAddrLg lb tu30 tz125 (.tmp rfl) (.tmp rfl) hv_24) <| jc (op_loadPAg lb tA125 (.tmp rfl) rfl) <| jx (op_alloc lb tZ125 zr125) fun gb_25 => jc (op_assign lb (.tmp rfl)) <| jc (op_storeA (j := 1) tA125 (.tmp rfl) (.tmp rfl) rfl (UpdR.self (by rfl)) rfl) <| jn <| bI hx fun x_35 hx30 hq30 => JC.seqJ (γ := Unit) (stj := fun _ => ⟨[(1, ov (PTR gb_2 0)), (3, ov (S rB x_35)), (47, ov (S (rL r_api_Dest) t_1.To)), (48, ov (S (rI .i64) (List.length t_1.To : Int))), (49, ov (S (rI .i64) x_22))], [cvar gb_2 r_api_Event t_1], []⟩) (fun _ => ?_) ?_
       · refine jr <| jmv rfl rfl <| lI hq30 fun v_36 hv_36 hq30 => jc (op_not lb (.tmp rfl) hv_36) <| jn <| jif (.tmp rfl) hq30 (fun hc51 hq30 => ?_) (fun hc51 hq30 => ?_)
         · refine JC.exit <| JQ.outE (by decide) <| JQ.outX ?_
           try obtain rfl := so hq30
           have ht := hr _ rfl
           have hq28 := cs ht
           clear hr ht
           refine JQ.outX <| JQ.here ?_
           try obtain rfl := so hq28
           exact jo rfl rfl rfl
         refine JC.skip <| JQ.outNB <| JQ.then <| JC.region <| lI hq30 fun v_37 hv_37 hq30 => jc (op_arI lb (.tmp rfl) .cI (cs hv_37)) <| jmv rfl rfl <| JL.nil ?_
         try obtain rfl := so hq30
         exact JQ.next () rfl (Imp.norm (js := [0]) rfl (.cons rfl (.cons rfl (.cons rfl (.cons rfl (.cons rfl .nil))))))
       refine bI hx30 fun v_26 hv_26 hx30 => bI hx30 fun v_27 hv_27 hx30 => lI hx30 fun v_28 hv_28 hx30 => lI hx30 fun v_29 hv_29 hx30 => lI hx30 fun v_30 hv_30 hx30 => bI hx30 fun v_31 hv_31 hx30 => bI hx30 fun v_32 hv_32 hx30 => lI hx30 fun v_33 hv_33 hx30 => ?_
       obtain ⟨v_34, hv_34, hx30⟩ := lt1_inv hx30
       refine JC.anyF (base := [(1, ov (PTR gb_2 0)), (4, ov (S (rI .i64) x_22)), (5, ov (PTR gb_25 0)), (47, ov (S (rL r_api_Dest) t_1.To)), (48, ov (S (rI .i64) (List.length t_1.To : Int))), (49, ov (S (rI .i64) x_22))])
           (fs := fun γ => [⟨some 54, ov (PTR gb_25 (0 + 0))⟩, ⟨some 55, ov (A r_api_Dot v_24.Dot)⟩, ⟨some 56, ov (S rB v_26)⟩, ⟨some 57, ov (S rB v_26)⟩, ⟨some 58, bif v_26 then ov (PTR gb_25 (0 + 2)) else .one .und⟩, ⟨some 59, bif v_26 then ov (S rS v_24.Device) else .one .und⟩, ⟨some 60, bif v_26 then ov (S rB v_27) else .one .und⟩, ⟨some 61, ov (S rB v_28)⟩, ⟨some 62, ov (S rB v_28)⟩, ⟨some 63, bif v_28 then ov (S (rI .i64) x_22) else .one .und⟩, ⟨some 64, bif v_28 then ov (S rB v_29) else .one .und⟩, ⟨some 65, bif v_28 then ov (S rB v_29) else .one .und⟩, ⟨some 66, bif (v_28 && (!v_29)) then ov (PTR gb_2 (0 + 20)) else .one .und⟩, ⟨some 67, bif (v_28 && (!v_29)) then ov (S (rL r_api_Dest) t_1.To) else .one .und⟩, ⟨some 68, bif (v_28 && (!v_29)) then ov (S (rI .i64) x_22) else .one .und⟩, ⟨some 69, bif (v_28 && (!v_29)) then ov (S (rI .i64) v_30) else .one .und⟩, ⟨some 70, bif (v_28 && (!v_29)) then ov (PT r_api_Dest v_31) else .one .und⟩, ⟨some 71, bif (v_28 && (!v_29)) then ov (PT r_api_Dot v_31.Dot) else .one .und⟩, ⟨some 72, bif (v_28 && (!v_29)) then ov (A r_api_Dot v_31.Dot) else .one .und⟩, ⟨some 73, bif (v_28 && (!v_29)) then ov (PTR gb_25 (0 + 0)) else .one .und⟩, ⟨some 74, bif (v_28 && (!v_29)) then ov (A r_api_Dot v_24.Dot) else .one .und⟩, ⟨some 75, bif (v_28 && (!v_29)) then ov (S rB v_32) else .one .und⟩, ⟨some 76, bif v_28 then ov (S rB v_33) else .one .und⟩, ⟨some 77, ov (S rB v_34)⟩, ⟨some 3, ov (S rB v_34)⟩])
           (rs := fun γ => [⟨cvar gb_2 r_api_Event t_1, none, none, [13]⟩, ⟨cvar gb_25 r_api_Dest v_24, none, none, [1, 5, 20]⟩])
           (afts := nn 25) (js := [0, 0]) mixed (.cons rfl (.cons rfl (.cons rfl (.cons rfl (.cons rfl (.cons rfl .nil)))))) (fun _ => rfl)
           (by
      refine dS 1 (fun γ ρ B hb hd => op_fieldAddr (off := 0) lb tf125_0 (.tmp (hb 5 _ rfl))) <| dR 2 (fun γ ρ B hb hd => OpStep.lk ⟨ρ, (cvar gb_25 r_api_Dest v_24) :: B, _⟩ (op_loadA (j := 0) lb tA26 (tl hd 0 54) rfl (cT (comp_api_Dest_Dot v_24) rfl) rfl)) <| dS 3 (fun γ ρ B hb hd => (op_call (js := []) ld cl82 (sim_event_MayDot k v_24.Dot v_26 hv_26) .func (.cons (tl hd 1 55) .nil) rfl).post (fun _ => Imp.refl)) <| dm 4 2 56 ?_
      refine dT 5 3 57 v_26 (fun γ => ov (PTR gb_25 (0 + 2))) (fun γ ρ B hb hd hq_31 => op_fieldAddr (off := 2) lb tf125_1 (.tmp (hb 5 _ rfl))) ?_
      refine eT 6 3 57 v_26 (fun γ => ov (S rS v_24.Device)) (fun γ ρ B hb hd hq_32 => OpStep.lk ⟨ρ, (cvar gb_25 r_api_Dest v_24) :: B, _⟩ (op_loadS (j := 0) lb tS9 (HasO.cnd (tl hd 4 58) hq_32) rfl (cT (comp_api_Dest_Device v_24) rfl) rfl rfl)) ?_
      refine dT 7 3 57 v_26 (fun γ => ov (S rB v_27)) (fun γ ρ B hb hd hq_33 => (op_call (js := []) ld cl71 (sim_event_MayName k v_24.Device v_27 (ifT hv_27 hq_33)) .func (.cons (HasO.cnd (tl hd 5 59) hq_33) .nil) rfl).post (fun _ => Imp.refl)) ?_
      refine dS 8 (fun γ ρ B hb hd => op_pickCS lb (tl hd 3 57) (fun hb34 => (HasO.cnd (tl hd 6 60) hb34)) (fun hb34 => .cB) hv_28) <| dm 9 7 61 ?_
      refine dT 10 8 62 v_28 (fun γ => ov (S (rI .i64) x_22)) (fun γ ρ B hb hd hq_35 => op_move lb (.tmp (hb 4 _ rfl))) ?_
      refine dT 11 8 62 v_28 (fun γ => ov (S rB v_29)) (fun γ ρ B hb hd hq_36 => op_cmpI lb (HasO.cnd (tl hd 9 63) hq_36) .cI (cs hv_29)) ?_
      refine dT 12 8 62 v_28 (fun γ => ov (S rB v_29)) (fun γ ρ B hb hd hq_37 => op_move lb (HasO.cnd (tl hd 10 64) hq_37)) ?_
      refine dB 13 11 65 v_28 v_29 (fun γ => ov (PTR gb_2 (0 + 20))) (fun γ ρ B hb hd hq_38 => op_fieldAddr (off := 20) lb tf32_4 (.tmp (hb 1 _ rfl))) ?_
      refine eB 14 11 65 v_28 v_29 (fun γ => ov (S (rL r_api_Dest) t_1.To)) (fun γ ρ B hb hd hq_39 => OpStep.lk ⟨ρ, (cvar gb_2 r_api_Event t_1) :: B, _⟩ (op_loadS (j := 0) lb tS30 (HasO.cnd (tl hd 12 66) (andI (andL hq_39) (notT (notF (andR hq_39))))) rfl (cT (comp_api_Event_To t_1) rfl) rfl rfl)) ?_
      refine dB 15 11 65 v_28 v_29 (fun γ => ov (S (rI .i64) x_22)) (fun γ ρ B hb hd hq_40 => op_move lb (.tmp (hb 4 _ rfl))) ?_
      refine dB 16 11 65 v_28 v_29 (fun γ => ov (S (rI .i64) v_30)) (fun γ ρ B hb hd hq_41 => op_arI lb (HasO.cnd (tl hd 14 68) (andI (andL hq_41) (notT (notF (andR hq_41))))) .cI (cs hv_30)) ?_
      refine dB 17 11 65 v_28 v_29 (fun γ => ov (PT r_api_Dest v_31)) (fun γ ρ B hb hd hq_42 => op_indexAddrLg lb tu30 tz125 (HasO.cnd (tl hd 13 67) (andI (andL hq_42) (notT (notF (andR hq_42))))) (HasO.cnd (tl hd 15 69) (andI (andL hq_42) (notT (notF (andR hq_42))))) (ifT hv_31 hq_42)) ?_
      refine dB 18 11 65 v_28 v_29 (fun γ => ov (PT r_api_Dot v_31.Dot)) (fun γ ρ B hb hd hq_43 => op_fieldAddrP lb tf125_0 (HasO.cnd (tl hd 16 70) (andI (andL hq_43) (notT (notF (andR hq_43))))) (comp_api_Dest_Dot v_31)) ?_
      refine dB 19 11 65 v_28 v_29 (fun γ => ov (A r_api_Dot v_31.Dot)) (fun γ ρ B hb hd hq_44 => op_loadPAg lb tA26 (HasO.cnd (tl hd 17 71) (andI (andL hq_44) (notT (notF (andR hq_44))))) rfl) ?_
      refine dB 20 11 65 v_28 v_29 (fun γ => ov (PTR gb_25 (0 + 0))) (fun γ ρ B hb hd hq_45 => op_fieldAddr (off := 0) lb tf125_0 (.tmp (hb 5 _ rfl))) ?_
      refine eB 21 11 65 v_28 v_29 (fun γ => ov (A r_api_Dot v_24.Dot)) (fun γ ρ B hb hd hq_46 => OpStep.lk ⟨ρ, (cvar gb_25 r_api_Dest v_24) :: B, _⟩ (op_loadA (j := 0) lb tA26 (HasO.cnd (tl hd 19 73) (andI (andL hq_46) (notT (notF (andR hq_46))))) rfl (cT (comp_api_Dest_Dot v_24) rfl) rfl)) ?_
      refine dB 22 11 65 v_28 v_29 (fun γ => ov (S rB v_32)) (fun γ ρ B hb hd hq_47 => (op_call (js := []) ld cl84 (sim_event_Less k v_31.Dot v_24.Dot v_32 (ifT hv_32 hq_47)) .func (.cons (HasO.cnd (tl hd 18 72) (andI (andL hq_47) (notT (notF (andR hq_47))))) (.cons (HasO.cnd (tl hd 20 74) (andI (andL hq_47) (notT (notF (andR hq_47))))) .nil)) rfl).post (fun _ => Imp.refl)) ?_
      refine dT 23 8 62 v_28 (fun γ => ov (S rB v_33)) (fun γ ρ B hb hd hq_48 => op_pickCS lb (HasO.cnd (tl hd 11 65) hq_48) (fun hb49 => .cB) (fun hb49 => (HasO.cnd (tl hd 21 75) (andI hq_48 (notT hb49)))) hv_33) ?_
      refine dS 24 (fun γ ρ B hb hd => op_pickCS lb (tl hd 8 62) (fun hb50 => (HasO.cnd (tl hd 22 76) hb50)) (fun hb50 => .cB) hv_34) <| dS 25 (fun γ ρ B hb hd => op_assign lb (tl hd 23 77)) ?_
      exact DSteps.nil)
           (by decide +kernel) (fun _ => rfl) (fun _ => rfl) (fun _ => rfl) rfl
           (ρ' := fun γ => [(1, ov (PTR gb_2 0)), (3, ov (S rB v_34)), (47, ov (S (rL r_api_Dest) t_1.To)), (48, ov (S (rI .i64) (List.length t_1.To : Int))), (49, ov (S (rI .i64) x_22))])
           (X' := fun γ => [cvar gb_2 r_api_Event t_1, cvar gb_25 r_api_Dest v_24])
           (fun γ ρ hb hd => (.cons (hb 1 _ rfl) (.cons (hdq hd 24 3 rfl) (.cons (hb 47 _ rfl) (.cons (hb 48 _ rfl) (.cons (hb 49 _ rfl) .nil)))))) (fun _ => rfl) (fun γ => ?_)
       refine JQ.at ⟨[(1, ov (PTR gb_2 0)), (3, ov (S rB v_34)), (47, ov (S (rL r_api_Dest) t_1.To)), (48, ov (S (rI .i64) (List.length t_1.To : Int))), (49, ov (S (rI .i64) x_22))], [cvar gb_2 r_api_Event t_1, cvar gb_25 r_api_Dest v_24], []⟩ ?_
       try obtain rfl := so hx30
       exact JQ.join () (Imp.norm (js := [0]) rfl (.cons rfl (.cons rfl (.cons rfl (.cons rfl (.cons rfl .nil))))))
     refine JC.exit <| JQ.outX ?_
     try obtain rfl := so hx
     have ht := hr _ rfl
     have hq28 := cs ht
     clear hr ht
     refine JQ.outX <| JQ.here ?_
     try obtain rfl := so hq28
     exact jo rfl rfl rfl
   refine JC.region <| jc (op_fieldAddr (off := 2) lb tf32_1 (.tmp rfl)) <| jc (op_loadS (j := 0) lb tS9 (.tmp rfl) rfl (cT (comp_api_Event_Topic t_1) rfl) rfl rfl) <| bI hx15 fun v_14 hv_14 hx15 => jx (op_call (js := []) ld cl71 (sim_event_MayName k t_1.Topic v_14 hv_14) .func (.cons (.tmp rfl) .nil) rfl) fun _ => lI hx15 fun v_15 hv_15 hx15 => jc (op_not lb (.tmp rfl) hv_15) <| jmv rfl rfl <| jF (ov (PTR gb_2 (0 + 3))) rfl rfl rfl rfl (fun hq_16 => op_fieldAddr (off := 3) lb tf32_2 (.tmp rfl)) <| jF (ov (S (rL (rU UInt8)) t_1.Payload)) rfl rfl rfl rfl (fun hq_17 => op_loadS (j := 0) lb tS27 (HasO.cnd (.tmp rfl) (notT (notF hq_17))) rfl (cT (comp_api_Event_Payload t_1) rfl) rfl rfl) <| jF (ov (S (rI .i64) (List.length t_1.Payload : Int))) rfl rfl rfl rfl (fun hq_18 => op_lenL lb tu27 (HasO.cnd (.tmp rfl) (notT (notF hq_18)))) ?_
   obtain ⟨v_16, hv_16, hx15⟩ := lt1_inv hx15
   refine jF (ov (S rB v_16)) rfl rfl rfl rfl (fun hq_19 => op_cmpI lb (HasO.cnd (.tmp rfl) (notT (notF hq_19))) .cI (cs hv_16)) <| lI hx15 fun v_17 hv_17 hx15 => jc (op_pickCS lb (.tmp rfl) (fun hb20 => .cB) (fun hb20 => (HasO.cnd (.tmp rfl) (notT hb20))) hv_17) <| jmv rfl rfl <| jF (ov (PTR gb_2 (0 + 20))) rfl rfl rfl rfl (fun hq_21 => op_fieldAddr (off := 20) lb tf32_4 (.tmp rfl)) <| JL.sub ⟨[(1, ov (PTR gb_2 0)), (40, ov (S rB v_17)), (41, bif (!v_17) then ov (PTR gb_2 (0 + 20)) else .one .und)], [cvar gb_2 r_api_Event t_1], []⟩ (.cons rfl (.cons rfl (.cons rfl .nil))) rfl rfl <| jF (ov (S (rL r_api_Dest) t_1.To)) rfl rfl rfl rfl (fun hq_22 => op_loadS (j := 0) lb tS30 (HasO.cnd (.tmp rfl) (notT (notF hq_22))) rfl (cT (comp_api_Event_To t_1) rfl) rfl rfl) <| jF (ov (S (rI .i64) (List.length t_1.To : Int))) rfl rfl rfl rfl (fun hq_23 => op_lenL lb tu30 (HasO.cnd (.tmp rfl) (notT (notF hq_23)))) <| lI hx15 fun v_18 hv_18 hx15 => jF (ov (S rB v_18)) rfl rfl rfl rfl (fun hq_24 => op_cmpI lb (HasO.cnd (.tmp rfl) (notT (notF hq_24))) .cI (cs hv_18)) ?_
   refine lI hx15 fun v_19 hv_19 hx15 => jc (op_pickCS lb (.tmp rfl) (fun hb25 => .cB) (fun hb25 => (HasO.cnd (.tmp rfl) (notT hb25))) hv_19) <| JL.nil ?_
   try obtain rfl := so hx15
   exact JQ.join () (Imp.norm (js := [0]) rfl (.cons rfl (.cons rfl .nil)))
 refine bI hx1 fun v_3 hv_3 hx1 => lI hx1 fun v_4 hv_4 hx1 => bI hx1 fun v_5 hv_5 hx1 => lI hx1 fun v_6 hv_6 hx1 => lI hx1 fun v_7 hv_7 hx1 => ?_
 obtain ⟨v_8, hv_8, hx1⟩ := lt1_inv hx1
 rcases iteB_inv hx1 with ⟨hc13, hx1⟩ | ⟨hc13, hx1⟩
 · refine JC.anyF (base := [(1, ov (PTR gb_2 0))])
       (fs := fun γ => [⟨some 6, ov (PTR gb_2 (0 + 0))⟩, ⟨some 7, ov (A r_api_Dot t_1.ID)⟩, ⟨some 8, ov (S rB v_3)⟩, ⟨some 9, ov (S rB v_4)⟩, ⟨some 10, ov (S rB v_4)⟩, ⟨some 11, bif (!v_4) then ov (PTR gb_2 (0 + 4)) else .one .und⟩, ⟨some 12, bif (!v_4) then ov (A (rV 16 (rU UInt64)) t_1.Past) else .one .und⟩, ⟨some 13, bif (!v_4) then ov (S rB v_5) else .one .und⟩, ⟨some 14, bif (!v_4) then ov (S rB v_6) else .one .und⟩, ⟨some 15, ov (S rB v_7)⟩, ⟨some 16, ov (S rB v_7)⟩, ⟨some 17, bif (!v_7) then ov (PTR gb_2 (0 + 0)) else .one .und⟩, ⟨some 18, bif (!v_7) then ov (PTR gb_2 ((0 + 0) + 0)) else .one .und⟩, ⟨some 19, bif (!v_7) then ov (S (rI .i64) t_1.ID.Region) else .one .und⟩, ⟨some 20, bif (!v_7) then ov (S (rI .i64) v_8) else .one .und⟩, ⟨some 21, bif (!v_7) then ov (PTR gb_2 (0 + 4)) else .one .und⟩, ⟨some 22, .one .und⟩, ⟨some 23, .one .und⟩, ⟨some 24, .one .und⟩, ⟨some 25, .one .und⟩, ⟨some 26, .one .und⟩, ⟨some 27, .one .und⟩, ⟨some 28, .one .und⟩, ⟨some 29, ov (S rB true)⟩])
       (rs := fun γ => [⟨cvar gb_2 r_api_Event t_1, none, none, [1, 6, 13]⟩])
       (afts := nn 24) (js := [0]) mixed (.cons rfl .nil) (fun _ => rfl)
       (by
      refine dS 1 (fun γ ρ B hb hd => op_fieldAddr (off := 0) lb tf32_0 (.tmp (hb 1 _ rfl))) <| dR 2 (fun γ ρ B hb hd => OpStep.lk ⟨ρ, (cvar gb_2 r_api_Event t_1) :: B, _⟩ (op_loadA (j := 0) lb tA26 (tl hd 0 6) rfl (cT (comp_api_Event_ID t_1) rfl) rfl)) <| dS 3 (fun γ ρ B hb hd => (op_call (js := []) ld cl82 (sim_event_MayDot k t_1.ID v_3 hv_3) .func (.cons (tl hd 1 7) .nil) rfl).post (fun _ => Imp.refl)) <| dS 4 (fun γ ρ B hb hd => op_not lb (tl hd 2 8) hv_4) <| dm 5 3 9 ?_
      refine dF 6 4 10 v_4 (fun γ => ov (PTR gb_2 (0 + 4))) (fun γ ρ B hb hd hq_2 => op_fieldAddr (off := 4) lb tf32_3 (.tmp (hb 1 _ rfl))) ?_
      refine eF 7 4 10 v_4 (fun γ => ov (A (rV 16 (rU UInt64)) t_1.Past)) (fun γ ρ B hb hd hq_3 => OpStep.lk ⟨ρ, (cvar gb_2 r_api_Event t_1) :: B, _⟩ (op_loadA (j := 0) lb tA29 (HasO.cnd (tl hd 5 11) (notT (notF hq_3))) rfl (cT (comp_api_Event_Past t_1) rfl) rfl)) ?_
      refine dF 8 4 10 v_4 (fun γ => ov (S rB v_5)) (fun γ ρ B hb hd hq_4 => (op_call (js := []) ld cl83 (sim_event_mayVector k t_1.Past v_5 (ifT hv_5 hq_4)) .func (.cons (HasO.cnd (tl hd 6 12) (notT (notF hq_4))) .nil) rfl).post (fun _ => Imp.refl)) ?_
      refine dF 9 4 10 v_4 (fun γ => ov (S rB v_6)) (fun γ ρ B hb hd hq_5 => op_not lb (HasO.cnd (tl hd 7 13) (notT (notF hq_5))) hv_6) ?_
      refine dS 10 (fun γ ρ B hb hd => op_pickCS lb (tl hd 4 10) (fun hb6 => .cB) (fun hb6 => (HasO.cnd (tl hd 8 14) (notT hb6))) hv_7) <| dm 11 9 15 ?_
      refine dF 12 10 16 v_7 (fun γ => ov (PTR gb_2 (0 + 0))) (fun γ ρ B hb hd hq_7 => op_fieldAddr (off := 0) lb tf32_0 (.tmp (hb 1 _ rfl))) ?_
      refine dF 13 10 16 v_7 (fun γ => ov (PTR gb_2 ((0 + 0) + 0))) (fun γ ρ B hb hd hq_8 => op_fieldAddr (off := 0) lb tf26_0 (HasO.cnd (tl hd 11 17) (notT (notF hq_8)))) ?_
      refine eF 14 10 16 v_7 (fun γ => ov (S (rI .i64) t_1.ID.Region)) (fun γ ρ B hb hd hq_9 => OpStep.lk ⟨ρ, (cvar gb_2 r_api_Event t_1) :: B, _⟩ (op_loadS (j := 0) lb tS3 (HasO.cnd (tl hd 12 18) (notT (notF hq_9))) rfl (Comp.trans (cT (comp_api_Event_ID t_1) rfl) (comp_api_Dot_Region t_1.ID) (lE rfl)) rfl rfl)) ?_
      refine dF 15 10 16 v_7 (fun γ => ov (S (rI .i64) v_8)) (fun γ ρ B hb hd hq_10 => op_arI lb (HasO.cnd (tl hd 13 19) (notT (notF hq_10))) .cI (cs hv_8)) ?_
      refine dF 16 10 16 v_7 (fun γ => ov (PTR gb_2 (0 + 4))) (fun γ ρ B hb hd hq_11 => op_fieldAddr (off := 4) lb tf32_3 (.tmp (hb 1 _ rfl))) ?_
      refine kn 17 10 16 rfl hc13 <| kn 18 10 16 rfl hc13 <| kn 19 10 16 rfl hc13 <| kn 20 10 16 rfl hc13 <| kn 21 10 16 rfl hc13 ?_
      refine kn 22 10 16 rfl hc13 <| kn 23 10 16 rfl hc13 <| dS 24 (fun γ ρ B hb hd => op_pickT lb (tl hd 10 16) hc13 .cB) ?_
      exact DSteps.nil)
       (by decide +kernel) (fun _ => rfl) (fun _ => rfl) (fun _ => rfl) rfl
       (ρ' := fun γ => [(1, ov (PTR gb_2 0)), (29, ov (S rB true))])
       (X' := fun γ => [cvar gb_2 r_api_Event t_1])
       (fun γ ρ hb hd => (.cons (hb 1 _ rfl) (.cons (hdq hd 23 29 rfl) .nil))) (fun _ => rfl) (fun γ => ?_)
   refine JQ.at ⟨[(1, ov (PTR gb_2 0)), (29, ov (S rB true))], [cvar gb_2 r_api_Event t_1], []⟩ ?_
   try obtain rfl := so hx1
   exact JQ.join () (Imp.norm (js := [0]) rfl (.cons rfl (.cons rfl .nil)))
 refine bI hx1 fun i_9 hv_i_9 hx1 => lI hx1 fun v_10 hv_10 hx1 => lI hx1 fun v_11 hv_11 hx1 => ?_
 obtain ⟨v_12, hv_12, hx1⟩ := lt1_inv hx1
 refine JC.anyF (base := [(1, ov (PTR gb_2 0))])
     (fs := fun γ => [⟨some 6, ov (PTR gb_2 (0 + 0))⟩, ⟨some 7, ov (A r_api_Dot t_1.ID)⟩, ⟨some 8, ov (S rB v_3)⟩, ⟨some 9, ov (S rB v_4)⟩, ⟨some 10, ov (S rB v_4)⟩, ⟨some 11, bif (!v_4) then ov (PTR gb_2 (0 + 4)) else .one .und⟩, ⟨some 12, bif (!v_4) then ov (A (rV 16 (rU UInt64)) t_1.Past) else .one .und⟩, ⟨some 13, bif (!v_4) then ov (S rB v_5) else .one .und⟩, ⟨some 14, bif (!v_4) then ov (S rB v_6) else .one .und⟩, ⟨some 15, ov (S rB v_7)⟩, ⟨some 16, ov (S rB v_7)⟩, ⟨some 17, bif (!v_7) then ov (PTR gb_2 (0 + 0)) else .one .und⟩, ⟨some 18, bif (!v_7) then ov (PTR gb_2 ((0 + 0) + 0)) else .one .und⟩, ⟨some 19, bif (!v_7) then ov (S (rI .i64) t_1.ID.Region) else .one .und⟩, ⟨some 20, bif (!v_7) then ov (S (rI .i64) v_8) else .one .und⟩, ⟨some 21, bif (!v_7) then ov (PTR gb_2 (0 + 4)) else .one .und⟩, ⟨some 22, ov (PTR gb_2 ((0 + 4) + i_9.1 * 1))⟩, ⟨some 23, ov (S (rU UInt64) v_10)⟩, ⟨some 24, ov (PTR gb_2 (0 + 0))⟩, ⟨some 25, ov (PTR gb_2 ((0 + 0) + 1))⟩, ⟨some 26, ov (S (rU UInt64) t_1.ID.Count)⟩, ⟨some 27, ov (S (rU UInt64) v_11)⟩, ⟨some 28, ov (S rB v_12)⟩, ⟨some 29, ov (S rB v_12)⟩])
     (rs := fun γ => [⟨cvar gb_2 r_api_Event t_1, none, none, [1, 6, 13, 17, 20]⟩])
     (afts := nn 24) (js := [0]) mixed (.cons rfl .nil) (fun _ => rfl)
     (by
      refine dS 1 (fun γ ρ B hb hd => op_fieldAddr (off := 0) lb tf32_0 (.tmp (hb 1 _ rfl))) <| dR 2 (fun γ ρ B hb hd => OpStep.lk ⟨ρ, (cvar gb_2 r_api_Event t_1) :: B, _⟩ (op_loadA (j := 0) lb tA26 (tl hd 0 6) rfl (cT (comp_api_Event_ID t_1) rfl) rfl)) <| dS 3 (fun γ ρ B hb hd => (op_call (js := []) ld cl82 (sim_event_MayDot k t_1.ID v_3 hv_3) .func (.cons (tl hd 1 7) .nil) rfl).post (fun _ => Imp.refl)) <| dS 4 (fun γ ρ B hb hd => op_not lb (tl hd 2 8) hv_4) <| dm 5 3 9 ?_
      refine dF 6 4 10 v_4 (fun γ => ov (PTR gb_2 (0 + 4))) (fun γ ρ B hb hd hq_2 => op_fieldAddr (off := 4) lb tf32_3 (.tmp (hb 1 _ rfl))) ?_
      refine eF 7 4 10 v_4 (fun γ => ov (A (rV 16 (rU UInt64)) t_1.Past)) (fun γ ρ B hb hd hq_3 => OpStep.lk ⟨ρ, (cvar gb_2 r_api_Event t_1) :: B, _⟩ (op_loadA (j := 0) lb tA29 (HasO.cnd (tl hd 5 11) (notT (notF hq_3))) rfl (cT (comp_api_Event_Past t_1) rfl) rfl)) ?_
      refine dF 8 4 10 v_4 (fun γ => ov (S rB v_5)) (fun γ ρ B hb hd hq_4 => (op_call (js := []) ld cl83 (sim_event_mayVector k t_1.Past v_5 (ifT hv_5 hq_4)) .func (.cons (HasO.cnd (tl hd 6 12) (notT (notF hq_4))) .nil) rfl).post (fun _ => Imp.refl)) ?_
      refine dF 9 4 10 v_4 (fun γ => ov (S rB v_6)) (fun γ ρ B hb hd hq_5 => op_not lb (HasO.cnd (tl hd 7 13) (notT (notF hq_5))) hv_6) ?_
      refine dS 10 (fun γ ρ B hb hd => op_pickCS lb (tl hd 4 10) (fun hb6 => .cB) (fun hb6 => (HasO.cnd (tl hd 8 14) (notT hb6))) hv_7) <| dm 11 9 15 ?_
      refine dF 12 10 16 v_7 (fun γ => ov (PTR gb_2 (0 + 0))) (fun γ ρ B hb hd hq_7 => op_fieldAddr (off := 0) lb tf32_0 (.tmp (hb 1 _ rfl))) ?_
      refine dF 13 10 16 v_7 (fun γ => ov (PTR gb_2 ((0 + 0) + 0))) (fun γ ρ B hb hd hq_8 => op_fieldAddr (off := 0) lb tf26_0 (HasO.cnd (tl hd 11 17) (notT (notF hq_8)))) ?_
      refine eF 14 10 16 v_7 (fun γ => ov (S (rI .i64) t_1.ID.Region)) (fun γ ρ B hb hd hq_9 => OpStep.lk ⟨ρ, (cvar gb_2 r_api_Event t_1) :: B, _⟩ (op_loadS (j := 0) lb tS3 (HasO.cnd (tl hd 12 18) (notT (notF hq_9))) rfl (Comp.trans (cT (comp_api_Event_ID t_1) rfl) (comp_api_Dot_Region t_1.ID) (lE rfl)) rfl rfl)) ?_
      refine dF 15 10 16 v_7 (fun γ => ov (S (rI .i64) v_8)) (fun γ ρ B hb hd hq_10 => op_arI lb (HasO.cnd (tl hd 13 19) (notT (notF hq_10))) .cI (cs hv_8)) ?_
      refine dF 16 10 16 v_7 (fun γ => ov (PTR gb_2 (0 + 4))) (fun γ ρ B hb hd hq_11 => op_fieldAddr (off := 4) lb tf32_3 (.tmp (hb 1 _ rfl))) ?_
      refine dY 17 (fun γ ρ B hb hd => ⟨.yes rfl (ltB rfl) (hl hd 10 16 rfl) hc13, lkB (op_indexAddrIF lb tr29 (HasO.cnd (tl hd 15 21) (notT hc13)) (HasO.cnd (tl hd 14 20) (notT hc13)) hv_i_9)⟩) <| dY 18 (fun γ ρ B hb hd => ⟨.yes rfl (ltB rfl) (hl hd 10 16 rfl) hc13, OpStep.lk ⟨ρ, (cvar gb_2 r_api_Event t_1) :: B, _⟩ (op_loadS (j := 0) lb tS24 (tl hd 16 22) rfl (Comp.at (cT (comp_api_Event_Past t_1) rfl) i_9.2 rfl) rfl hv_10)⟩) <| dY 19 (fun γ ρ B hb hd => ⟨.yes rfl (ltB rfl) (hl hd 10 16 rfl) hc13, lkB (op_fieldAddr (off := 0) lb tf32_0 (.tmp (hb 1 _ rfl)))⟩) <| dY 20 (fun γ ρ B hb hd => ⟨.yes rfl (ltB rfl) (hl hd 10 16 rfl) hc13, lkB (op_fieldAddr (off := 1) lb tf26_1 (tl hd 18 24))⟩) <| dY 21 (fun γ ρ B hb hd => ⟨.yes rfl (ltB rfl) (hl hd 10 16 rfl) hc13, OpStep.lk ⟨ρ, (cvar gb_2 r_api_Event t_1) :: B, _⟩ (op_loadS (j := 0) lb tS24 (tl hd 19 25) rfl (Comp.trans (cT (comp_api_Event_ID t_1) rfl) (comp_api_Dot_Count t_1.ID) (lE rfl)) rfl rfl)⟩) ?_
      refine dY 22 (fun γ ρ B hb hd => ⟨.yes rfl (ltB rfl) (hl hd 10 16 rfl) hc13, lkB (op_arU lb (tl hd 20 26) (HasO.cU (x := (1 : UInt64)) rfl (by decide)) (cs hv_11))⟩) <| dY 23 (fun γ ρ B hb hd => ⟨.yes rfl (ltB rfl) (hl hd 10 16 rfl) hc13, lkB (op_cmpU lb (tl hd 17 23) (tl hd 21 27) (cs hv_12))⟩) <| dS 24 (fun γ ρ B hb hd => op_pickF lb (tl hd 10 16) hc13 (tl hd 22 28)) ?_
      exact DSteps.nil)
     (by decide +kernel) (fun _ => rfl) (fun _ => rfl) (fun _ => rfl) rfl
     (ρ' := fun γ => [(1, ov (PTR gb_2 0)), (29, ov (S rB v_12))])
     (X' := fun γ => [cvar gb_2 r_api_Event t_1])
     (fun γ ρ hb hd => (.cons (hb 1 _ rfl) (.cons (hdq hd 23 29 rfl) .nil))) (fun _ => rfl) (fun γ => ?_)
 refine JQ.at ⟨[(1, ov (PTR gb_2 0)), (29, ov (S rB v_12))], [cvar gb_2 r_api_Event t_1], []⟩ ?_
 try obtain rfl := so hx1
 exact JQ.join () (Imp.norm (js := [0]) rfl (.cons rfl (.cons rfl .nil)))

theorem sim_frame_May_2 (k : Nat) (n_1 : UInt64) (r : Bool) (hm : frame_May_2 k n_1 = some r) : Sim Tryz.prog 33 [S (rU UInt64) n_1] [] (γ := Unit) (fun q => []) (fun q => .one (.val (S rB r))) := by
 unfold frame_May_2 at hm
 refine Sim.of Tryz.func33 rfl rfl (lE rfl) (fun e0 w0 => ?_)
 refine JC.at ⟨[(0, ov (S (rU UInt64) n_1))], [], []⟩ <| jr <| jc (op_assign lb .cB) <| jn <| jr <| jmv rfl rfl <| lI hm fun v_2 hv_2 hm => jc (op_cmpU lb (.tmp rfl) (HasO.cU (x := (4611686018427387904 : UInt64)) rfl (by decide)) (cs hv_2)) <| jc (op_assign lb (.tmp rfl)) <| jn <| JC.ret ?_
 obtain rfl := so hm
 exact jd (.val (S rB v_2)) rfl rfl rfl rfl rfl rfl

theorem sim_slices_IndexFuncuint64_uint64'2 (k : Nat) (s_1 : (List UInt64)) (r : Int) (hm : slices_IndexFuncuint64_uint64'2 k s_1 = some r) : Sim Tryz.prog 85 [S (rL (rU UInt64)) s_1, CLO 33 []] [] (γ := Unit) (fun q => []) (fun q => .one (.val (S (rI .i64) r))) := by
 unfold slices_IndexFuncuint64_uint64'2 at hm
 refine Sim.of Tryz.func85 rfl rfl (lE rfl) (fun e0 w0 => ?_)
 refine JC.at ⟨[(0, ov (S (rL (rU UInt64)) s_1)), (1, ov (CLO 33 []))], [], []⟩ <| jr <| jc (op_assign lb .cI) <| jn <| bI hm fun tv1 hx1 hq1 => JC.seqK (α := Unit) (γ := Unit) (stj := fun v q => ⟨[], [], []⟩) (p := fun v => tv1 = (.inl v)) (fun v q hv => ?_) ?_
 · subst hv
   skip
   obtain _ := q
   dsimp only at hq1
   refine JC.at ⟨[], [], []⟩ <| jr <| jc (op_assign lb .cI) <| jn <| JC.ret ?_
   obtain rfl := so hq1
   exact jd (.val (S (rI .i64) (-1 : Int))) rfl rfl rfl rfl rfl rfl
 refine jr <| jmv rfl rfl <| jc (op_lenL lb tu71 (.tmp rfl)) <| jc (op_move lb .cI) <| jn <| JC.block <| bI hx1 fun tv2 hL2 hq2 => JC.pre ?_ (JC.loop (γ := Unit) (stf := fun s q => ⟨[(0, ov (S (rL (rU UInt64)) s_1)), (1, ov (CLO 33 [])), (7, ov (S (rI .i64) (List.length s_1 : Int))), (8, ov (S (rI .i64) s))], [], []⟩) (q := ()) hL2 ?_)
 · exact (Imp.norm (js := []) rfl (.cons rfl (.cons rfl (.cons rfl (.cons rfl .nil)))))
 intro x_2 q x hx hr
 obtain _ := q
 change slices_IndexFuncuint64_uint64'2.b1 k s_1 x_2 = some x at hx
 unfold slices_IndexFuncuint64_uint64'2.b1 at hx
 refine JC.at ⟨[(0, ov (S (rL (rU UInt64)) s_1)), (1, ov (CLO 33 [])), (7, ov (S (rI .i64) (List.length s_1 : Int))), (8, ov (S (rI .i64) x_2))], [], []⟩ <| jr <| lI hx fun v_3 hv_3 hx => jc (op_cmpI lb (.tmp rfl) (.tmp rfl) (cs hv_3)) <| jn <| JC.seq <| jif (.tmp rfl) hx (fun hc3 hx => ?_) (fun hc3 hx => ?_)
 · refine JC.skip <| JQ.then <| JC.seq <| JC.block <| jr <| jmv rfl rfl <| jc (op_assign lb (.tmp rfl)) <| jn <| jr <| jmv rfl rfl <| jmv rfl rfl <| jmv rfl rfl <| bI hx fun v_4 hv_4 hx => jc (op_indexAddrLg lb tu71 tz24 (.tmp rfl) (.tmp rfl) hv_4) <| jc (op_loadPSg lb tS24 rfl (.tmp rfl) rfl) <| bI hx fun v_5 hv_5 hx => jx (op_call (js := []) ld cl33 (sim_frame_May_2 k v_4 v_5 hv_5) (.tmp rfl) (.cons (.tmp rfl) .nil) rfl) fun _ => jn ?_
   refine jif (.tmp rfl) hx (fun hc4 hx => ?_) (fun hc4 hx => ?_)
   · refine jr <| jmv rfl rfl <| jc (op_assign lb (.tmp rfl)) <| jn <| JC.ret <| JQ.outRB <| JQ.outR ?_
     try obtain rfl := so hx
     try obtain rfl := hr _ rfl
     dsimp only at hq2
     refine JQ.outR <| JQ.outRB ?_
     try obtain rfl := so hq2
     dsimp only at hq1
     refine JQ.outR ?_
     obtain rfl := so hq1
     exact jd (.val (S (rI .i64) x_2)) rfl rfl rfl rfl rfl rfl
   refine JC.skip <| JQ.outNB <| JQ.then <| JC.region <| lI hx fun v_6 hv_6 hx => jc (op_arI lb (.tmp rfl) .cI (cs hv_6)) <| jmv rfl rfl <| JL.nil ?_
   try obtain rfl := so hx
   exact JQ.next () rfl (Imp.norm (js := []) rfl (.cons rfl (.cons rfl (.cons rfl (.cons rfl .nil)))))
 refine JC.exit <| JQ.outX ?_
 try obtain rfl := so hx
 try obtain rfl := hr _ rfl
 dsimp only at hq2
 refine JQ.outX <| JQ.here ?_
 try obtain rfl := so hq2
 exact JQ.joinK () () rfl (Imp.norm (js := []) rfl .nil)

theorem sim_slices_ContainsFuncuint64_uint64'2 (k : Nat) (s_1 : (List UInt64)) (r : Bool) (hm : slices_ContainsFuncuint64_uint64'2 k s_1 = some r) : Sim Tryz.prog 32 [S (rL (rU UInt64)) s_1, CLO 33 []] [] (γ := Unit) (fun q => []) (fun q => .one (.val (S rB r))) := by
 unfold slices_ContainsFuncuint64_uint64'2 at hm
 refine Sim.of Tryz.func32 rfl rfl (lE rfl) (fun e0 w0 => ?_)
 refine JC.at ⟨[(0, ov (S (rL (rU UInt64)) s_1)), (1, ov (CLO 33 []))], [], []⟩ <| jr <| jc (op_assign lb .cB) <| jn <| jr <| jmv rfl rfl <| jmv rfl rfl <| bI hm fun v_2 hv_2 hm => jx (op_call (js := []) ld cl85 (sim_slices_IndexFuncuint64_uint64'2 k s_1 v_2 hv_2) .func (.cons (.tmp rfl) (.cons (.tmp rfl) .nil)) rfl) fun _ => lI hm fun v_3 hv_3 hm => jc (op_cmpI lb (.tmp rfl) .cI (cs hv_3)) <| jc (op_assign lb (.tmp rfl)) <| jn <| JC.ret ?_
 obtain rfl := so hm
 exact jd (.val (S rB v_3)) rfl rfl rfl rfl rfl rfl

theorem sim_frame_May_1 (k : Nat) (i_1 : Int) (less_2 : Bool) (r : Bool) (hm : frame_May_1 k i_1 less_2 = some r) : Sim Tryz.prog 29 [S (rI .i64) i_1, S rB less_2] [] (γ := Unit) (fun q => []) (fun q => .one (.val (S rB r))) := by
 unfold frame_May_1 at hm
 refine Sim.of Tryz.func29 rfl rfl (lE rfl) (fun e0 w0 => ?_)
 refine JC.at ⟨[(0, ov (S (rI .i64) i_1)), (1, ov (S rB less_2))], [], []⟩ <| jr <| jc (op_assign lb .cB) <| jn <| bI hm fun x_5 hx1 hq1 => JC.seqJ (γ := Unit) (stj := fun _ => ⟨[(4, ov (S rB x_5))], [], []⟩) (fun _ => ?_) ?_
 · refine JC.ret ?_
   obtain rfl := so hq1
   exact jd (.val (S rB x_5)) rfl rfl rfl rfl rfl rfl
 refine JC.region <| jmv rfl rfl <| lI hx1 fun v_3 hv_3 hx1 => jc (op_cmpI lb (.tmp rfl) .cI (cs hv_3)) <| jmv rfl rfl <| jF (ov (S rB less_2)) rfl rfl rfl rfl (fun hq_2 => op_move lb (.tmp rfl)) <| lI hx1 fun v_4 hv_4 hx1 => jc (op_pickCS lb (.tmp rfl) (fun hb3 => .cB) (fun hb3 => (HasO.cnd (.tmp rfl) (notT hb3))) hv_4) <| jc (op_assign lb (.tmp rfl)) <| JL.nil ?_
 try obtain rfl := so hx1
 exact jo rfl rfl rfl

end Go.Proofs.YtklnihlchhhhlaaGreat
