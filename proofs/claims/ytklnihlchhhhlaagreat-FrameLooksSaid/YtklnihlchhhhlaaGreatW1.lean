/- Walks. -/
import Derived.Test.YtklnihlchhhhlaaGreatT
import Derived.Test.YtklnihlchhhhlaaGreatW0
namespace Go.Proofs.YtklnihlchhhhlaaGreat
open Go Fw
set_option linter.unusedVariables false
set_option maxRecDepth 100000
set_option maxHeartbeats 4000000

theorem sim_event_Same (k : Nat) (a_1 : api_Event) (b_2 : api_Event) (r : Bool) (hm : event_Same k a_1 b_2 = some r) : Sim Tryz.prog 70 [A r_api_Event a_1, A r_api_Event b_2] [] (γ := Unit) (fun q => []) (fun q => .one (.val (S rB r))) := by
 unfold event_Same at hm
 refine Sim.of Tryz.func70 rfl rfl (lE rfl) (fun e0 w0 => ?_)
 refine JC.at ⟨[(0, ov (A r_api_Event a_1)), (1, ov (A r_api_Event b_2))], [], []⟩ ?_
 refine jr ?_
 refine jx (op_boxA lb (.tmp rfl)) (fun gb_3 => ?_)
 refine jx (op_boxA lb (.tmp rfl)) (fun gb_4 => ?_)
 refine jc (op_assign lb .cB) <| jn ?_
 obtain ⟨x_10, hx1, hq1⟩ := bnd_inv hm
 refine JC.seqJ (γ := Unit) (stj := fun _ => ⟨[(4, ov (S rB x_10))], [], []⟩) (fun _ => ?_) ?_
 · refine JC.ret ?_
   obtain rfl := so hq1
   exact jd (.val (S rB x_10)) rfl rfl rfl rfl rfl rfl
 refine JC.region <| jc (op_fieldAddr (off := 0) lb tf32_0 (.tmp rfl)) <| jc (op_loadA (j := 0) lb tA26 (.tmp rfl) rfl (cT (comp_api_Event_ID a_1) rfl) rfl) <| jc (op_fieldAddr (off := 0) lb tf32_0 (.tmp rfl)) <| jc (op_loadA (j := 1) lb tA26 (.tmp rfl) rfl (cT (comp_api_Event_ID b_2) rfl) rfl) ?_
 obtain ⟨v_5, hv_5, hx1⟩ := lt1_inv hx1
 refine jc (op_eqA lb qa26 (by decide) ng26 (.tmp rfl) (.tmp rfl) hv_5) ?_
 refine JL.sub ⟨[(2, ov (PTR gb_3 0)), (3, ov (PTR gb_4 0)), (4, ov (S rB false)), (9, ov (S rB v_5))], [cvar gb_3 r_api_Event a_1, cvar gb_4 r_api_Event b_2], []⟩ (.cons rfl (.cons rfl (.cons rfl (.cons rfl .nil)))) rfl rfl ?_
 refine jmv rfl rfl ?_
 rcases iteB_inv hx1 with ⟨hc3, hx1⟩ | ⟨hc3, hx1⟩
 · refine JL.run (.yes rfl (ltB rfl) rfl hc3) (op_fieldAddr (off := 2) lb tf32_1 (.tmp rfl)) ?_
   refine JL.run (.yes rfl (ltB rfl) rfl hc3) (op_loadS (j := 0) lb tS9 (.tmp rfl) rfl (cT (comp_api_Event_Topic a_1) rfl) rfl rfl) ?_
   refine JL.run (.yes rfl (ltB rfl) rfl hc3) (op_fieldAddr (off := 2) lb tf32_1 (.tmp rfl)) ?_
   refine JL.run (.yes rfl (ltB rfl) rfl hc3) (op_loadS (j := 1) lb tS9 (.tmp rfl) rfl (cT (comp_api_Event_Topic b_2) rfl) rfl rfl) ?_
   obtain ⟨v_6, hv_6, hx1⟩ := lt1_inv hx1
   refine JL.run (.yes rfl (ltB rfl) rfl hc3) (op_cmpS lb (.tmp rfl) (.tmp rfl) (cs hv_6)) ?_
   refine jc (op_pickT lb (.tmp rfl) hc3 (.tmp rfl)) <| jmv rfl rfl ?_
   rcases iteB_inv hx1 with ⟨hc5, hx1⟩ | ⟨hc5, hx1⟩
   · refine JL.run (.yes rfl (ltB rfl) rfl hc5) (op_fieldAddr (off := 3) lb tf32_2 (.tmp rfl)) ?_
     refine JL.run (.yes rfl (ltB rfl) rfl hc5) (op_loadS (j := 0) lb tS27 (.tmp rfl) rfl (cT (comp_api_Event_Payload a_1) rfl) rfl rfl) ?_
     refine JL.run (.yes rfl (ltB rfl) rfl hc5) (op_fieldAddr (off := 3) lb tf32_2 (.tmp rfl)) ?_
     refine JL.run (.yes rfl (ltB rfl) rfl hc5) (op_loadS (j := 1) lb tS27 (.tmp rfl) rfl (cT (comp_api_Event_Payload b_2) rfl) rfl rfl) ?_
     refine JL.sub ⟨[(2, ov (PTR gb_3 0)), (3, ov (PTR gb_4 0)), (4, ov (S rB false)), (17, ov (S rB v_6)), (19, ov (S (rL (rU UInt8)) a_1.Payload)), (21, ov (S (rL (rU UInt8)) b_2.Payload))], [cvar gb_3 r_api_Event a_1, cvar gb_4 r_api_Event b_2], []⟩ (.cons rfl (.cons rfl (.cons rfl (.cons rfl (.cons rfl (.cons rfl .nil)))))) rfl rfl ?_
     obtain ⟨v_7, hv_7, hx1⟩ := bnd_inv hx1
     refine JL.runX (.yes rfl (ltB rfl) rfl hc5) (op_call (js := []) ld cl55 (sim_slices_Equalbyte_byte k a_1.Payload b_2.Payload v_7 hv_7) .func (.cons (.tmp rfl) (.cons (.tmp rfl) .nil)) rfl) (fun _ => ?_)
     refine jc (op_pickT lb (.tmp rfl) hc5 (.tmp rfl)) <| jmv rfl rfl ?_
     rcases iteB_inv hx1 with ⟨hc7, hx1⟩ | ⟨hc7, hx1⟩
     · refine JL.run (.yes rfl (ltB rfl) rfl hc7) (op_fieldAddr (off := 4) lb tf32_3 (.tmp rfl)) ?_
       refine JL.run (.yes rfl (ltB rfl) rfl hc7) (op_loadA (j := 0) lb tA29 (.tmp rfl) rfl (cT (comp_api_Event_Past a_1) rfl) rfl) ?_
       refine JL.run (.yes rfl (ltB rfl) rfl hc7) (op_fieldAddr (off := 4) lb tf32_3 (.tmp rfl)) ?_
       refine JL.run (.yes rfl (ltB rfl) rfl hc7) (op_loadA (j := 1) lb tA29 (.tmp rfl) rfl (cT (comp_api_Event_Past b_2) rfl) rfl) ?_
       obtain ⟨v_8, hv_8, hx1⟩ := lt1_inv hx1
       refine JL.run (.yes rfl (ltB rfl) rfl hc7) (op_eqA lb qa29 (by decide) ng29 (.tmp rfl) (.tmp rfl) hv_8) ?_
       refine jc (op_pickT lb (.tmp rfl) hc7 (.tmp rfl)) <| jmv rfl rfl ?_
       rcases iteB_inv hx1 with ⟨hc9, hx1⟩ | ⟨hc9, hx1⟩
       · refine JL.run (.yes rfl (ltB rfl) rfl hc9) (op_fieldAddr (off := 20) lb tf32_4 (.tmp rfl)) ?_
         refine JL.run (.yes rfl (ltB rfl) rfl hc9) (op_loadS (j := 0) lb tS30 (.tmp rfl) rfl (cT (comp_api_Event_To a_1) rfl) rfl rfl) ?_
         refine JL.nrm ⟨[(3, ov (PTR gb_4 0)), (4, ov (S rB false)), (31, ov (S rB v_8)), (33, ov (S (rL r_api_Dest) a_1.To))], [cvar gb_4 r_api_Event b_2], []⟩ [1] rfl (.cons rfl (.cons rfl (.cons rfl (.cons rfl .nil)))) rfl ?_
         refine JL.run (.yes rfl (ltB rfl) rfl hc9) (op_fieldAddr (off := 20) lb tf32_4 (.tmp rfl)) ?_
         refine JL.run (.yes rfl (ltB rfl) rfl hc9) (op_loadS (j := 0) lb tS30 (.tmp rfl) rfl (cT (comp_api_Event_To b_2) rfl) rfl rfl) ?_
         obtain ⟨v_9, hv_9, hx1⟩ := bnd_inv hx1
         refine JL.runX (.yes rfl (ltB rfl) rfl hc9) (op_call (js := []) ld cl110 (sim_slices_Equalapi_Dest_api_Dest k a_1.To b_2.To v_9 hv_9) .func (.cons (.tmp rfl) (.cons (.tmp rfl) .nil)) rfl) (fun _ => ?_)
         refine jc (op_pickT lb (.tmp rfl) hc9 (.tmp rfl)) <| jc (op_assign lb (.tmp rfl)) <| JL.nil ?_
         try obtain rfl := so hx1
         exact jo rfl rfl rfl
       refine jk rfl hc9 <| jk rfl hc9 <| jk rfl hc9 <| jk rfl hc9 <| jk rfl hc9 ?_
       refine jc (op_pickF lb (.tmp rfl) hc9 .cB) <| jc (op_assign lb (.tmp rfl)) ?_
       refine JL.nrm ⟨[(4, ov (S rB false))], [], []⟩ [] rfl (.cons rfl .nil) rfl ?_
       refine JL.nil ?_
       try obtain rfl := so hx1
       exact jo rfl rfl rfl
     refine jk rfl hc7 <| jk rfl hc7 <| jk rfl hc7 <| jk rfl hc7 <| jk rfl hc7 ?_
     refine jc (op_pickF lb (.tmp rfl) hc7 .cB) <| jmv rfl rfl <| jk rfl rfl <| jk rfl rfl <| jk rfl rfl ?_
     refine jk rfl rfl <| jk rfl rfl <| jc (op_pickF lb (.tmp rfl) rfl .cB) <| jc (op_assign lb (.tmp rfl)) <| JL.nil ?_
     try obtain rfl := so hx1
     exact jo rfl rfl rfl
   refine jk rfl hc5 <| jk rfl hc5 <| jk rfl hc5 <| jk rfl hc5 <| jk rfl hc5 ?_
   refine jc (op_pickF lb (.tmp rfl) hc5 .cB) <| jmv rfl rfl <| jk rfl rfl <| jk rfl rfl <| jk rfl rfl ?_
   refine jk rfl rfl <| jk rfl rfl <| jc (op_pickF lb (.tmp rfl) rfl .cB) <| jmv rfl rfl ?_
   refine JL.sub ⟨[(2, ov (PTR gb_3 0)), (3, ov (PTR gb_4 0)), (4, ov (S rB false)), (31, ov (S rB false))], [cvar gb_3 r_api_Event a_1, cvar gb_4 r_api_Event b_2], []⟩ (.cons rfl (.cons rfl (.cons rfl (.cons rfl .nil)))) rfl rfl ?_
   refine jk rfl rfl <| jk rfl rfl <| jk rfl rfl <| jk rfl rfl <| jk rfl rfl ?_
   refine jc (op_pickF lb (.tmp rfl) rfl .cB) <| jc (op_assign lb (.tmp rfl)) <| JL.nil ?_
   try obtain rfl := so hx1
   exact jo rfl rfl rfl
 refine jk rfl hc3 <| jk rfl hc3 <| jk rfl hc3 <| jk rfl hc3 <| jk rfl hc3 ?_
 refine jc (op_pickF lb (.tmp rfl) hc3 .cB) <| jmv rfl rfl <| jk rfl rfl <| jk rfl rfl <| jk rfl rfl ?_
 refine jk rfl rfl <| jk rfl rfl <| jc (op_pickF lb (.tmp rfl) rfl .cB) <| jmv rfl rfl <| jk rfl rfl ?_
 refine jk rfl rfl <| jk rfl rfl <| jk rfl rfl <| jk rfl rfl <| jc (op_pickF lb (.tmp rfl) rfl .cB) ?_
 refine jmv rfl rfl <| jk rfl rfl <| jk rfl rfl <| jk rfl rfl <| jk rfl rfl ?_
 refine jk rfl rfl <| jc (op_pickF lb (.tmp rfl) rfl .cB) <| jc (op_assign lb (.tmp rfl)) <| JL.nil ?_
 try obtain rfl := so hx1
 exact jo rfl rfl rfl

theorem sim_frame_Same (k : Nat) (t_1 : api_Frame) (a_2 : api_Frame) (r : Bool) (hm : frame_Same k t_1 a_2 = some r) : Sim Tryz.prog 18 [A r_api_Frame t_1, A r_api_Frame a_2] [] (γ := Unit) (fun q => []) (fun q => .one (.val (S rB r))) := by
 unfold frame_Same at hm
 refine Sim.of Tryz.func18 rfl rfl (lE rfl) (fun e0 w0 => ?_)
 refine JC.at ⟨[(0, ov (A r_api_Frame t_1)), (1, ov (A r_api_Frame a_2))], [], []⟩ ?_
 refine jr ?_
 refine jx (op_boxA lb (.tmp rfl)) (fun gb_3 => ?_)
 refine jx (op_boxA lb (.tmp rfl)) (fun gb_4 => ?_)
 refine jc (op_assign lb .cB) <| jn ?_
 obtain ⟨x_12, hx1, hq1⟩ := bnd_inv hm
 refine JC.seqJ (γ := Unit) (stj := fun _ => ⟨[(2, ov (PTR gb_3 0)), (3, ov (PTR gb_4 0)), (5, ov (S rB x_12))], [cvar gb_3 r_api_Frame t_1, cvar gb_4 r_api_Frame a_2], []⟩) (fun _ => ?_) ?_
 · obtain ⟨x_18, hx14, hq14⟩ := bnd_inv hq1
   refine JC.seqJ (γ := Unit) (stj := fun _ => ⟨[(2, ov (PTR gb_3 0)), (3, ov (PTR gb_4 0)), (5, ov (S rB x_12)), (6, ov (S rB x_18))], [cvar gb_3 r_api_Frame t_1, cvar gb_4 r_api_Frame a_2], []⟩) (fun _ => ?_) ?_
   · obtain ⟨x_21, hx23, hq23⟩ := bnd_inv hq14
     refine JC.seqJ (γ := Unit) (stj := fun _ => ⟨[(4, ov (S rB x_21))], [], []⟩) (fun _ => ?_) ?_
     · refine JC.ret ?_
       obtain rfl := so hq23
       exact jd (.val (S rB x_21)) rfl rfl rfl rfl rfl rfl
     refine JC.region <| jmv rfl rfl <| jmv rfl rfl ?_
     refine JL.cnd (sv := ov (S rB x_18)) (Guard.isT (ltB rfl) rfl rfl) rfl (ltB rfl) (fun hq_24 => op_move lb (.tmp rfl)) ?_
     obtain ⟨v_19, hv_19, hx23⟩ := lt1_inv hx23
     refine jc (op_pickCS lb (.tmp rfl) (fun hb25 => (HasO.cnd (.tmp rfl) hb25)) (fun hb25 => .cB) hv_19) <| jmv rfl rfl ?_
     rcases iteB_inv hx23 with ⟨hc27, hx23⟩ | ⟨hc27, hx23⟩
     · refine JL.run (.yes rfl (ltB rfl) rfl hc27) (op_fieldAddr (off := 4) lb tf39_4 (.tmp rfl)) ?_
       refine JL.run (.yes rfl (ltB rfl) rfl hc27) (op_loadA (j := 0) lb tA32 (.tmp rfl) rfl (cT (comp_api_Frame_Event t_1) rfl) rfl) ?_
       refine JL.run (.yes rfl (ltB rfl) rfl hc27) (op_fieldAddr (off := 4) lb tf39_4 (.tmp rfl)) ?_
       refine JL.run (.yes rfl (ltB rfl) rfl hc27) (op_loadA (j := 1) lb tA32 (.tmp rfl) rfl (cT (comp_api_Frame_Event a_2) rfl) rfl) ?_
       obtain ⟨v_20, hv_20, hx23⟩ := bnd_inv hx23
       refine JL.runX (.yes rfl (ltB rfl) rfl hc27) (op_call (js := []) ld cl70 (sim_event_Same k t_1.Event a_2.Event v_20 hv_20) .func (.cons (.tmp rfl) (.cons (.tmp rfl) .nil)) rfl) (fun _ => ?_)
       refine jc (op_pickT lb (.tmp rfl) hc27 (.tmp rfl)) <| jc (op_assign lb (.tmp rfl)) ?_
       refine JL.nrm ⟨[(4, ov (S rB v_20))], [], []⟩ [] rfl (.cons rfl .nil) rfl ?_
       refine JL.nil ?_
       try obtain rfl := so hx23
       exact jo rfl rfl rfl
     refine jk rfl hc27 <| jk rfl hc27 <| jk rfl hc27 <| jk rfl hc27 <| jk rfl hc27 ?_
     refine jc (op_pickF lb (.tmp rfl) hc27 .cB) <| jc (op_assign lb (.tmp rfl)) <| JL.nil ?_
     try obtain rfl := so hx23
     exact jo rfl rfl rfl
   refine JC.region <| jc (op_fieldAddr (off := 3) lb tf39_3 (.tmp rfl)) <| jc (op_loadS (j := 0) lb tS23 (.tmp rfl) rfl (cT (comp_api_Frame_Items t_1) rfl) rfl rfl) <| jc (op_fieldAddr (off := 3) lb tf39_3 (.tmp rfl)) <| jc (op_loadS (j := 1) lb tS23 (.tmp rfl) rfl (cT (comp_api_Frame_Items a_2) rfl) rfl rfl) ?_
   obtain ⟨v_13, hv_13, hx14⟩ := bnd_inv hx14
   refine jx (op_call (js := []) ld cl66 (sim_slices_Equalapi_Item_api_Item k t_1.Items a_2.Items v_13 hv_13) .func (.cons (.tmp rfl) (.cons (.tmp rfl) .nil)) rfl) (fun _ => ?_)
   refine jmv rfl rfl ?_
   rcases iteB_inv hx14 with ⟨hc16, hx14⟩ | ⟨hc16, hx14⟩
   · refine JL.run (.yes rfl (ltB rfl) rfl hc16) (op_fieldAddr (off := 57) lb tf39_7 (.tmp rfl)) ?_
     refine JL.run (.yes rfl (ltB rfl) rfl hc16) (op_loadS (j := 0) lb tS33 (.tmp rfl) rfl (cT (comp_api_Frame_Extra t_1) rfl) rfl rfl) ?_
     refine JL.run (.yes rfl (ltB rfl) rfl hc16) (op_fieldAddr (off := 57) lb tf39_7 (.tmp rfl)) ?_
     refine JL.run (.yes rfl (ltB rfl) rfl hc16) (op_loadS (j := 1) lb tS33 (.tmp rfl) rfl (cT (comp_api_Frame_Extra a_2) rfl) rfl rfl) ?_
     obtain ⟨v_14, hv_14, hx14⟩ := bnd_inv hx14
     refine JL.runX (.yes rfl (ltB rfl) rfl hc16) (op_call (js := []) ld cl67 (sim_slices_Equalapi_Dot_api_Dot k t_1.Extra a_2.Extra v_14 hv_14) .func (.cons (.tmp rfl) (.cons (.tmp rfl) .nil)) rfl) (fun _ => ?_)
     refine jc (op_pickT lb (.tmp rfl) hc16 (.tmp rfl)) ?_
     refine JL.sub ⟨[(2, ov (PTR gb_3 0)), (3, ov (PTR gb_4 0)), (5, ov (S rB x_12)), (65, ov (S rB v_14))], [cvar gb_3 r_api_Frame t_1, cvar gb_4 r_api_Frame a_2], []⟩ (.cons rfl (.cons rfl (.cons rfl (.cons rfl .nil)))) rfl rfl ?_
     refine jmv rfl rfl ?_
     rcases iteB_inv hx14 with ⟨hc18, hx14⟩ | ⟨hc18, hx14⟩
     · refine JL.run (.yes rfl (ltB rfl) rfl hc18) (op_fieldAddr (off := 58) lb tf39_8 (.tmp rfl)) ?_
       refine JL.run (.yes rfl (ltB rfl) rfl hc18) (op_loadS (j := 0) lb tS33 (.tmp rfl) rfl (cT (comp_api_Frame_Live t_1) rfl) rfl rfl) ?_
       refine JL.run (.yes rfl (ltB rfl) rfl hc18) (op_fieldAddr (off := 58) lb tf39_8 (.tmp rfl)) ?_
       refine JL.run (.yes rfl (ltB rfl) rfl hc18) (op_loadS (j := 1) lb tS33 (.tmp rfl) rfl (cT (comp_api_Frame_Live a_2) rfl) rfl rfl) ?_
       obtain ⟨v_15, hv_15, hx14⟩ := bnd_inv hx14
       refine JL.runX (.yes rfl (ltB rfl) rfl hc18) (op_call (js := []) ld cl67 (sim_slices_Equalapi_Dot_api_Dot k t_1.Live a_2.Live v_15 hv_15) .func (.cons (.tmp rfl) (.cons (.tmp rfl) .nil)) rfl) (fun _ => ?_)
       refine jc (op_pickT lb (.tmp rfl) hc18 (.tmp rfl)) <| jmv rfl rfl ?_
       rcases iteB_inv hx14 with ⟨hc20, hx14⟩ | ⟨hc20, hx14⟩
       · refine JL.run (.yes rfl (ltB rfl) rfl hc20) (op_fieldAddr (off := 91) lb tf39_10 (.tmp rfl)) ?_
         refine JL.run (.yes rfl (ltB rfl) rfl hc20) (op_loadS (j := 0) lb tS36 (.tmp rfl) rfl (cT (comp_api_Frame_Leaves t_1) rfl) rfl rfl) ?_
         refine JL.run (.yes rfl (ltB rfl) rfl hc20) (op_fieldAddr (off := 91) lb tf39_10 (.tmp rfl)) ?_
         refine JL.run (.yes rfl (ltB rfl) rfl hc20) (op_loadS (j := 1) lb tS36 (.tmp rfl) rfl (cT (comp_api_Frame_Leaves a_2) rfl) rfl rfl) ?_
         refine JL.sub ⟨[(2, ov (PTR gb_3 0)), (3, ov (PTR gb_4 0)), (5, ov (S rB x_12)), (73, ov (S rB v_15)), (75, ov (S (rL (rV 32 (rU UInt8))) t_1.Leaves)), (77, ov (S (rL (rV 32 (rU UInt8))) a_2.Leaves))], [cvar gb_3 r_api_Frame t_1, cvar gb_4 r_api_Frame a_2], []⟩ (.cons rfl (.cons rfl (.cons rfl (.cons rfl (.cons rfl (.cons rfl .nil)))))) rfl rfl ?_
         obtain ⟨v_16, hv_16, hx14⟩ := bnd_inv hx14
         refine JL.runX (.yes rfl (ltB rfl) rfl hc20) (op_call (js := []) ld cl68 (sim_slices_Equalapi_Hash_api_Hash k t_1.Leaves a_2.Leaves v_16 hv_16) .func (.cons (.tmp rfl) (.cons (.tmp rfl) .nil)) rfl) (fun _ => ?_)
         refine jc (op_pickT lb (.tmp rfl) hc20 (.tmp rfl)) <| jmv rfl rfl ?_
         rcases iteB_inv hx14 with ⟨hc22, hx14⟩ | ⟨hc22, hx14⟩
         · refine JL.run (.yes rfl (ltB rfl) rfl hc22) (op_fieldAddr (off := 92) lb tf39_11 (.tmp rfl)) ?_
           refine JL.run (.yes rfl (ltB rfl) rfl hc22) (op_loadS (j := 0) lb tS37 (.tmp rfl) rfl (cT (comp_api_Frame_Buckets t_1) rfl) rfl rfl) ?_
           refine JL.run (.yes rfl (ltB rfl) rfl hc22) (op_fieldAddr (off := 92) lb tf39_11 (.tmp rfl)) ?_
           refine JL.run (.yes rfl (ltB rfl) rfl hc22) (op_loadS (j := 1) lb tS37 (.tmp rfl) rfl (cT (comp_api_Frame_Buckets a_2) rfl) rfl rfl) ?_
           obtain ⟨v_17, hv_17, hx14⟩ := bnd_inv hx14
           refine JL.runX (.yes rfl (ltB rfl) rfl hc22) (op_call (js := []) ld cl69 (sim_slices_Equalint_int k t_1.Buckets a_2.Buckets v_17 hv_17) .func (.cons (.tmp rfl) (.cons (.tmp rfl) .nil)) rfl) (fun _ => ?_)
           refine jc (op_pickT lb (.tmp rfl) hc22 (.tmp rfl)) <| jc (op_assign lb (.tmp rfl)) <| JL.nil ?_
           try obtain rfl := so hx14
           exact JQ.join () (Imp.norm (js := [0, 0]) rfl (.cons rfl (.cons rfl (.cons rfl (.cons rfl .nil)))))
         refine jk rfl hc22 <| jk rfl hc22 <| jk rfl hc22 <| jk rfl hc22 <| jk rfl hc22 ?_
         refine jc (op_pickF lb (.tmp rfl) hc22 .cB) <| jc (op_assign lb (.tmp rfl)) <| JL.nil ?_
         try obtain rfl := so hx14
         exact JQ.join () (Imp.norm (js := [0, 0]) rfl (.cons rfl (.cons rfl (.cons rfl (.cons rfl .nil)))))
       refine jk rfl hc20 <| jk rfl hc20 <| jk rfl hc20 <| jk rfl hc20 <| jk rfl hc20 ?_
       refine jc (op_pickF lb (.tmp rfl) hc20 .cB) <| jmv rfl rfl <| jk rfl rfl <| jk rfl rfl <| jk rfl rfl ?_
       refine jk rfl rfl <| jk rfl rfl <| jc (op_pickF lb (.tmp rfl) rfl .cB) <| jc (op_assign lb (.tmp rfl)) ?_
       refine JL.sub ⟨[(2, ov (PTR gb_3 0)), (3, ov (PTR gb_4 0)), (5, ov (S rB x_12)), (6, ov (S rB false))], [cvar gb_3 r_api_Frame t_1, cvar gb_4 r_api_Frame a_2], []⟩ (.cons rfl (.cons rfl (.cons rfl (.cons rfl .nil)))) rfl rfl ?_
       refine JL.nil ?_
       try obtain rfl := so hx14
       exact JQ.join () (Imp.norm (js := [0, 0]) rfl (.cons rfl (.cons rfl (.cons rfl (.cons rfl .nil)))))
     refine jk rfl hc18 <| jk rfl hc18 <| jk rfl hc18 <| jk rfl hc18 <| jk rfl hc18 ?_
     refine jc (op_pickF lb (.tmp rfl) hc18 .cB) <| jmv rfl rfl <| jk rfl rfl <| jk rfl rfl <| jk rfl rfl ?_
     refine jk rfl rfl <| jk rfl rfl <| jc (op_pickF lb (.tmp rfl) rfl .cB) <| jmv rfl rfl <| jk rfl rfl ?_
     refine jk rfl rfl <| jk rfl rfl <| jk rfl rfl <| jk rfl rfl <| jc (op_pickF lb (.tmp rfl) rfl .cB) ?_
     refine jc (op_assign lb (.tmp rfl)) <| JL.nil ?_
     try obtain rfl := so hx14
     exact JQ.join () (Imp.norm (js := [0, 0]) rfl (.cons rfl (.cons rfl (.cons rfl (.cons rfl .nil)))))
   refine jk rfl hc16 <| jk rfl hc16 <| jk rfl hc16 <| jk rfl hc16 <| jk rfl hc16 ?_
   refine jc (op_pickF lb (.tmp rfl) hc16 .cB) <| jmv rfl rfl <| jk rfl rfl <| jk rfl rfl <| jk rfl rfl ?_
   refine jk rfl rfl <| jk rfl rfl <| jc (op_pickF lb (.tmp rfl) rfl .cB) <| jmv rfl rfl <| jk rfl rfl ?_
   refine jk rfl rfl <| jk rfl rfl <| jk rfl rfl <| jk rfl rfl <| jc (op_pickF lb (.tmp rfl) rfl .cB) ?_
   refine jmv rfl rfl ?_
   refine JL.sub ⟨[(2, ov (PTR gb_3 0)), (3, ov (PTR gb_4 0)), (5, ov (S rB x_12)), (80, ov (S rB false))], [cvar gb_3 r_api_Frame t_1, cvar gb_4 r_api_Frame a_2], []⟩ (.cons rfl (.cons rfl (.cons rfl (.cons rfl .nil)))) rfl rfl ?_
   refine jk rfl rfl <| jk rfl rfl <| jk rfl rfl <| jk rfl rfl <| jk rfl rfl ?_
   refine jc (op_pickF lb (.tmp rfl) rfl .cB) <| jc (op_assign lb (.tmp rfl)) <| JL.nil ?_
   try obtain rfl := so hx14
   exact JQ.join () (Imp.norm (js := [0, 0]) rfl (.cons rfl (.cons rfl (.cons rfl (.cons rfl .nil)))))
 refine JC.region <| jc (op_fieldAddr (off := 0) lb tf39_0 (.tmp rfl)) <| jc (op_loadS (j := 0) lb tS22 (.tmp rfl) rfl (cT (comp_api_Frame_Kind t_1) rfl) rfl rfl) <| jc (op_fieldAddr (off := 0) lb tf39_0 (.tmp rfl)) <| jc (op_loadS (j := 1) lb tS22 (.tmp rfl) rfl (cT (comp_api_Frame_Kind a_2) rfl) rfl rfl) ?_
 obtain ⟨v_5, hv_5, hx1⟩ := lt1_inv hx1
 refine jc (op_cmpI lb (.tmp rfl) (.tmp rfl) (cs hv_5)) ?_
 refine JL.sub ⟨[(2, ov (PTR gb_3 0)), (3, ov (PTR gb_4 0)), (11, ov (S rB v_5))], [cvar gb_3 r_api_Frame t_1, cvar gb_4 r_api_Frame a_2], []⟩ (.cons rfl (.cons rfl (.cons rfl .nil))) rfl rfl ?_
 refine jmv rfl rfl ?_
 rcases iteB_inv hx1 with ⟨hc3, hx1⟩ | ⟨hc3, hx1⟩
 · refine JL.run (.yes rfl (ltB rfl) rfl hc3) (op_fieldAddr (off := 1) lb tf39_1 (.tmp rfl)) ?_
   refine JL.run (.yes rfl (ltB rfl) rfl hc3) (op_loadS (j := 0) lb tS3 (.tmp rfl) rfl (cT (comp_api_Frame_From t_1) rfl) rfl rfl) ?_
   refine JL.run (.yes rfl (ltB rfl) rfl hc3) (op_fieldAddr (off := 1) lb tf39_1 (.tmp rfl)) ?_
   refine JL.run (.yes rfl (ltB rfl) rfl hc3) (op_loadS (j := 1) lb tS3 (.tmp rfl) rfl (cT (comp_api_Frame_From a_2) rfl) rfl rfl) ?_
   obtain ⟨v_6, hv_6, hx1⟩ := lt1_inv hx1
   refine JL.run (.yes rfl (ltB rfl) rfl hc3) (op_cmpI lb (.tmp rfl) (.tmp rfl) (cs hv_6)) ?_
   refine jc (op_pickT lb (.tmp rfl) hc3 (.tmp rfl)) <| jmv rfl rfl ?_
   rcases iteB_inv hx1 with ⟨hc5, hx1⟩ | ⟨hc5, hx1⟩
   · refine JL.run (.yes rfl (ltB rfl) rfl hc5) (op_fieldAddr (off := 2) lb tf39_2 (.tmp rfl)) ?_
     refine JL.run (.yes rfl (ltB rfl) rfl hc5) (op_loadS (j := 0) lb tS3 (.tmp rfl) rfl (cT (comp_api_Frame_To t_1) rfl) rfl rfl) ?_
     refine JL.run (.yes rfl (ltB rfl) rfl hc5) (op_fieldAddr (off := 2) lb tf39_2 (.tmp rfl)) ?_
     refine JL.run (.yes rfl (ltB rfl) rfl hc5) (op_loadS (j := 1) lb tS3 (.tmp rfl) rfl (cT (comp_api_Frame_To a_2) rfl) rfl rfl) ?_
     refine JL.sub ⟨[(2, ov (PTR gb_3 0)), (3, ov (PTR gb_4 0)), (19, ov (S rB v_6)), (21, ov (S (rI .i64) t_1.To)), (23, ov (S (rI .i64) a_2.To))], [cvar gb_3 r_api_Frame t_1, cvar gb_4 r_api_Frame a_2], []⟩ (.cons rfl (.cons rfl (.cons rfl (.cons rfl (.cons rfl .nil))))) rfl rfl ?_
     obtain ⟨v_7, hv_7, hx1⟩ := lt1_inv hx1
     refine JL.run (.yes rfl (ltB rfl) rfl hc5) (op_cmpI lb (.tmp rfl) (.tmp rfl) (cs hv_7)) ?_
     refine jc (op_pickT lb (.tmp rfl) hc5 (.tmp rfl)) <| jmv rfl rfl ?_
     rcases iteB_inv hx1 with ⟨hc7, hx1⟩ | ⟨hc7, hx1⟩
     · refine JL.run (.yes rfl (ltB rfl) rfl hc7) (op_fieldAddr (off := 25) lb tf39_5 (.tmp rfl)) ?_
       refine JL.run (.yes rfl (ltB rfl) rfl hc7) (op_loadA (j := 0) lb tA29 (.tmp rfl) rfl (cT (comp_api_Frame_Past t_1) rfl) rfl) ?_
       refine JL.run (.yes rfl (ltB rfl) rfl hc7) (op_fieldAddr (off := 25) lb tf39_5 (.tmp rfl)) ?_
       refine JL.run (.yes rfl (ltB rfl) rfl hc7) (op_loadA (j := 1) lb tA29 (.tmp rfl) rfl (cT (comp_api_Frame_Past a_2) rfl) rfl) ?_
       obtain ⟨v_8, hv_8, hx1⟩ := lt1_inv hx1
       refine JL.run (.yes rfl (ltB rfl) rfl hc7) (op_eqA lb qa29 (by decide) ng29 (.tmp rfl) (.tmp rfl) hv_8) ?_
       refine jc (op_pickT lb (.tmp rfl) hc7 (.tmp rfl)) <| jmv rfl rfl ?_
       rcases iteB_inv hx1 with ⟨hc9, hx1⟩ | ⟨hc9, hx1⟩
       · refine JL.run (.yes rfl (ltB rfl) rfl hc9) (op_fieldAddr (off := 41) lb tf39_6 (.tmp rfl)) ?_
         refine JL.run (.yes rfl (ltB rfl) rfl hc9) (op_loadA (j := 0) lb tA29 (.tmp rfl) rfl (cT (comp_api_Frame_Seen t_1) rfl) rfl) ?_
         refine JL.sub ⟨[(2, ov (PTR gb_3 0)), (3, ov (PTR gb_4 0)), (33, ov (S rB v_8)), (35, ov (A (rV 16 (rU UInt64)) t_1.Seen))], [cvar gb_3 r_api_Frame t_1, cvar gb_4 r_api_Frame a_2], []⟩ (.cons rfl (.cons rfl (.cons rfl (.cons rfl .nil)))) rfl rfl ?_
         refine JL.run (.yes rfl (ltB rfl) rfl hc9) (op_fieldAddr (off := 41) lb tf39_6 (.tmp rfl)) ?_
         refine JL.run (.yes rfl (ltB rfl) rfl hc9) (op_loadA (j := 1) lb tA29 (.tmp rfl) rfl (cT (comp_api_Frame_Seen a_2) rfl) rfl) ?_
         obtain ⟨v_9, hv_9, hx1⟩ := lt1_inv hx1
         refine JL.run (.yes rfl (ltB rfl) rfl hc9) (op_eqA lb qa29 (by decide) ng29 (.tmp rfl) (.tmp rfl) hv_9) ?_
         refine jc (op_pickT lb (.tmp rfl) hc9 (.tmp rfl)) <| jmv rfl rfl ?_
         rcases iteB_inv hx1 with ⟨hc11, hx1⟩ | ⟨hc11, hx1⟩
         · refine JL.run (.yes rfl (ltB rfl) rfl hc11) (op_fieldAddr (off := 59) lb tf39_9 (.tmp rfl)) ?_
           refine JL.run (.yes rfl (ltB rfl) rfl hc11) (op_loadA (j := 0) lb tA35 (.tmp rfl) rfl (cT (comp_api_Frame_Hash t_1) rfl) rfl) ?_
           refine JL.run (.yes rfl (ltB rfl) rfl hc11) (op_fieldAddr (off := 59) lb tf39_9 (.tmp rfl)) ?_
           refine JL.run (.yes rfl (ltB rfl) rfl hc11) (op_loadA (j := 1) lb tA35 (.tmp rfl) rfl (cT (comp_api_Frame_Hash a_2) rfl) rfl) ?_
           obtain ⟨v_10, hv_10, hx1⟩ := lt1_inv hx1
           refine JL.run (.yes rfl (ltB rfl) rfl hc11) (op_eqA lb qa35 (by decide) ng35 (.tmp rfl) (.tmp rfl) hv_10) ?_
           refine jc (op_pickT lb (.tmp rfl) hc11 (.tmp rfl)) <| jmv rfl rfl ?_
           refine JL.sub ⟨[(2, ov (PTR gb_3 0)), (3, ov (PTR gb_4 0)), (47, ov (S rB v_10))], [cvar gb_3 r_api_Frame t_1, cvar gb_4 r_api_Frame a_2], []⟩ (.cons rfl (.cons rfl (.cons rfl .nil))) rfl rfl ?_
           rcases iteB_inv hx1 with ⟨hc13, hx1⟩ | ⟨hc13, hx1⟩
           · refine JL.run (.yes rfl (ltB rfl) rfl hc13) (op_fieldAddr (off := 93) lb tf39_12 (.tmp rfl)) ?_
             refine JL.run (.yes rfl (ltB rfl) rfl hc13) (op_loadS (j := 0) lb tS4 (.tmp rfl) rfl (cT (comp_api_Frame_Reply t_1) rfl) rfl rfl) ?_
             refine JL.run (.yes rfl (ltB rfl) rfl hc13) (op_fieldAddr (off := 93) lb tf39_12 (.tmp rfl)) ?_
             refine JL.run (.yes rfl (ltB rfl) rfl hc13) (op_loadS (j := 1) lb tS4 (.tmp rfl) rfl (cT (comp_api_Frame_Reply a_2) rfl) rfl rfl) ?_
             obtain ⟨v_11, hv_11, hx1⟩ := lt1_inv hx1
             refine JL.run (.yes rfl (ltB rfl) rfl hc13) (op_eqB lb tu4 (.tmp rfl) (.tmp rfl) hv_11) ?_
             refine jc (op_pickT lb (.tmp rfl) hc13 (.tmp rfl)) <| jc (op_assign lb (.tmp rfl)) <| JL.nil ?_
             try obtain rfl := so hx1
             exact JQ.join () (Imp.norm (js := [0, 0]) rfl (.cons rfl (.cons rfl (.cons rfl .nil))))
           refine jk rfl hc13 <| jk rfl hc13 <| jk rfl hc13 <| jk rfl hc13 <| jk rfl hc13 ?_
           refine jc (op_pickF lb (.tmp rfl) hc13 .cB) <| jc (op_assign lb (.tmp rfl)) <| JL.nil ?_
           try obtain rfl := so hx1
           exact JQ.join () (Imp.norm (js := [0, 0]) rfl (.cons rfl (.cons rfl (.cons rfl .nil))))
         refine jk rfl hc11 <| jk rfl hc11 <| jk rfl hc11 <| jk rfl hc11 <| jk rfl hc11 ?_
         refine jc (op_pickF lb (.tmp rfl) hc11 .cB) <| jmv rfl rfl <| jk rfl rfl <| jk rfl rfl <| jk rfl rfl ?_
         refine jk rfl rfl <| jk rfl rfl <| jc (op_pickF lb (.tmp rfl) rfl .cB) <| jc (op_assign lb (.tmp rfl)) <| JL.nil ?_
         try obtain rfl := so hx1
         exact JQ.join () (Imp.norm (js := [0, 0]) rfl (.cons rfl (.cons rfl (.cons rfl .nil))))
       refine jk rfl hc9 <| jk rfl hc9 <| jk rfl hc9 <| jk rfl hc9 <| jk rfl hc9 ?_
       refine jc (op_pickF lb (.tmp rfl) hc9 .cB) <| jmv rfl rfl ?_
       refine JL.sub ⟨[(2, ov (PTR gb_3 0)), (3, ov (PTR gb_4 0)), (40, ov (S rB false))], [cvar gb_3 r_api_Frame t_1, cvar gb_4 r_api_Frame a_2], []⟩ (.cons rfl (.cons rfl (.cons rfl .nil))) rfl rfl ?_
       refine jk rfl rfl <| jk rfl rfl <| jk rfl rfl <| jk rfl rfl <| jk rfl rfl ?_
       refine jc (op_pickF lb (.tmp rfl) rfl .cB) <| jmv rfl rfl <| jk rfl rfl <| jk rfl rfl <| jk rfl rfl ?_
       refine jk rfl rfl <| jk rfl rfl <| jc (op_pickF lb (.tmp rfl) rfl .cB) <| jc (op_assign lb (.tmp rfl)) <| JL.nil ?_
       try obtain rfl := so hx1
       exact JQ.join () (Imp.norm (js := [0, 0]) rfl (.cons rfl (.cons rfl (.cons rfl .nil))))
     refine jk rfl hc7 <| jk rfl hc7 <| jk rfl hc7 <| jk rfl hc7 <| jk rfl hc7 ?_
     refine jc (op_pickF lb (.tmp rfl) hc7 .cB) <| jmv rfl rfl <| jk rfl rfl <| jk rfl rfl <| jk rfl rfl ?_
     refine jk rfl rfl <| jk rfl rfl <| jc (op_pickF lb (.tmp rfl) rfl .cB) <| jmv rfl rfl <| jk rfl rfl ?_
     refine jk rfl rfl <| jk rfl rfl <| jk rfl rfl <| jk rfl rfl <| jc (op_pickF lb (.tmp rfl) rfl .cB) ?_
     refine jmv rfl rfl <| jk rfl rfl <| jk rfl rfl <| jk rfl rfl <| jk rfl rfl ?_
     refine jk rfl rfl <| jc (op_pickF lb (.tmp rfl) rfl .cB) <| jc (op_assign lb (.tmp rfl)) <| JL.nil ?_
     try obtain rfl := so hx1
     exact JQ.join () (Imp.norm (js := [0, 0]) rfl (.cons rfl (.cons rfl (.cons rfl .nil))))
   refine jk rfl hc5 <| jk rfl hc5 <| jk rfl hc5 <| jk rfl hc5 <| jk rfl hc5 ?_
   refine jc (op_pickF lb (.tmp rfl) hc5 .cB) <| jmv rfl rfl <| jk rfl rfl <| jk rfl rfl <| jk rfl rfl ?_
   refine jk rfl rfl <| jk rfl rfl <| jc (op_pickF lb (.tmp rfl) rfl .cB) <| jmv rfl rfl ?_
   refine JL.sub ⟨[(2, ov (PTR gb_3 0)), (3, ov (PTR gb_4 0)), (33, ov (S rB false))], [cvar gb_3 r_api_Frame t_1, cvar gb_4 r_api_Frame a_2], []⟩ (.cons rfl (.cons rfl (.cons rfl .nil))) rfl rfl ?_
   refine jk rfl rfl <| jk rfl rfl <| jk rfl rfl <| jk rfl rfl <| jk rfl rfl ?_
   refine jc (op_pickF lb (.tmp rfl) rfl .cB) <| jmv rfl rfl <| jk rfl rfl <| jk rfl rfl <| jk rfl rfl ?_
   refine jk rfl rfl <| jk rfl rfl <| jc (op_pickF lb (.tmp rfl) rfl .cB) <| jmv rfl rfl <| jk rfl rfl ?_
   refine jk rfl rfl <| jk rfl rfl <| jk rfl rfl <| jk rfl rfl <| jc (op_pickF lb (.tmp rfl) rfl .cB) ?_
   refine jc (op_assign lb (.tmp rfl)) <| JL.nil ?_
   try obtain rfl := so hx1
   exact JQ.join () (Imp.norm (js := [0, 0]) rfl (.cons rfl (.cons rfl (.cons rfl .nil))))
 refine jk rfl hc3 <| jk rfl hc3 <| jk rfl hc3 <| jk rfl hc3 <| jk rfl hc3 ?_
 refine jc (op_pickF lb (.tmp rfl) hc3 .cB) <| jmv rfl rfl <| jk rfl rfl <| jk rfl rfl <| jk rfl rfl ?_
 refine jk rfl rfl <| jk rfl rfl <| jc (op_pickF lb (.tmp rfl) rfl .cB) <| jmv rfl rfl <| jk rfl rfl ?_
 refine jk rfl rfl <| jk rfl rfl <| jk rfl rfl <| jk rfl rfl <| jc (op_pickF lb (.tmp rfl) rfl .cB) ?_
 refine jmv rfl rfl <| jk rfl rfl <| jk rfl rfl <| jk rfl rfl <| jk rfl rfl ?_
 refine jk rfl rfl <| jc (op_pickF lb (.tmp rfl) rfl .cB) <| jmv rfl rfl <| jk rfl rfl <| jk rfl rfl ?_
 refine jk rfl rfl <| jk rfl rfl <| jk rfl rfl <| jc (op_pickF lb (.tmp rfl) rfl .cB) <| jmv rfl rfl ?_
 refine jk rfl rfl <| jk rfl rfl <| jk rfl rfl <| jk rfl rfl <| jk rfl rfl ?_
 refine jc (op_pickF lb (.tmp rfl) rfl .cB) ?_
 refine JL.sub ⟨[(2, ov (PTR gb_3 0)), (3, ov (PTR gb_4 0)), (53, ov (S rB false))], [cvar gb_3 r_api_Frame t_1, cvar gb_4 r_api_Frame a_2], []⟩ (.cons rfl (.cons rfl (.cons rfl .nil))) rfl rfl ?_
 refine jc (op_assign lb (.tmp rfl)) <| JL.nil ?_
 try obtain rfl := so hx1
 exact JQ.join () (Imp.norm (js := [0, 0]) rfl (.cons rfl (.cons rfl (.cons rfl .nil))))

theorem sim_ctx_May (k : Nat) (d_1 : api_Dot) (r : Bool) (hm : ctx_May k d_1 = some r) : Sim Tryz.prog 34 [A r_api_Dot d_1] [] (γ := Unit) (fun q => []) (fun q => .one (.val (S rB r))) := by
 unfold ctx_May at hm
 refine Sim.of Tryz.func34 rfl rfl (lE rfl) (fun e0 w0 => ?_)
 refine JC.at ⟨[(0, ov (A r_api_Dot d_1))], [], []⟩ ?_
 refine jr ?_
 refine jx (op_boxA lb (.tmp rfl)) (fun gb_2 => ?_)
 refine jc (op_assign lb .cB) <| jn ?_
 obtain ⟨x_7, hx1, hq1⟩ := bnd_inv hm
 refine JC.seqJ (γ := Unit) (stj := fun _ => ⟨[(2, ov (S rB x_7))], [], []⟩) (fun _ => ?_) ?_
 · refine JC.ret ?_
   obtain rfl := so hq1
   exact jd (.val (S rB x_7)) rfl rfl rfl rfl rfl rfl
 refine JC.region <| jc (op_fieldAddr (off := 0) lb tf26_0 (.tmp rfl)) <| jc (op_loadS (j := 0) lb tS3 (.tmp rfl) rfl (cT (comp_api_Dot_Region d_1) rfl) rfl rfl) ?_
 obtain ⟨v_3, hv_3, hx1⟩ := lt1_inv hx1
 refine jc (op_cmpI lb (.tmp rfl) .cI (cs hv_3)) <| jmv rfl rfl ?_
 rcases iteB_inv hx1 with ⟨hc3, hx1⟩ | ⟨hc3, hx1⟩
 · refine JL.run (.yes rfl (ltB rfl) rfl hc3) (op_fieldAddr (off := 0) lb tf26_0 (.tmp rfl)) ?_
   refine JL.run (.yes rfl (ltB rfl) rfl hc3) (op_loadS (j := 0) lb tS3 (.tmp rfl) rfl (cT (comp_api_Dot_Region d_1) rfl) rfl rfl) ?_
   obtain ⟨v_4, hv_4, hx1⟩ := lt1_inv hx1
   refine JL.run (.yes rfl (ltB rfl) rfl hc3) (op_cmpI lb (.tmp rfl) .cI (cs hv_4)) ?_
   refine jc (op_pickT lb (.tmp rfl) hc3 (.tmp rfl)) ?_
   refine JL.sub ⟨[(1, ov (PTR gb_2 0)), (2, ov (S rB false)), (10, ov (S rB v_4))], [cvar gb_2 r_api_Dot d_1], []⟩ (.cons rfl (.cons rfl (.cons rfl .nil))) rfl rfl ?_
   refine jmv rfl rfl ?_
   rcases iteB_inv hx1 with ⟨hc5, hx1⟩ | ⟨hc5, hx1⟩
   · refine JL.run (.yes rfl (ltB rfl) rfl hc5) (op_fieldAddr (off := 1) lb tf26_1 (.tmp rfl)) ?_
     refine JL.run (.yes rfl (ltB rfl) rfl hc5) (op_loadS (j := 0) lb tS24 (.tmp rfl) rfl (cT (comp_api_Dot_Count d_1) rfl) rfl rfl) ?_
     obtain ⟨v_5, hv_5, hx1⟩ := lt1_inv hx1
     refine JL.run (.yes rfl (ltB rfl) rfl hc5) (op_cmpU lb (.tmp rfl) (HasO.cU (x := (1 : UInt64)) rfl (by decide)) (cs hv_5)) ?_
     refine jc (op_pickT lb (.tmp rfl) hc5 (.tmp rfl)) <| jmv rfl rfl ?_
     rcases iteB_inv hx1 with ⟨hc7, hx1⟩ | ⟨hc7, hx1⟩
     · refine JL.run (.yes rfl (ltB rfl) rfl hc7) (op_fieldAddr (off := 1) lb tf26_1 (.tmp rfl)) ?_
       refine JL.run (.yes rfl (ltB rfl) rfl hc7) (op_loadS (j := 0) lb tS24 (.tmp rfl) rfl (cT (comp_api_Dot_Count d_1) rfl) rfl rfl) ?_
       obtain ⟨v_6, hv_6, hx1⟩ := lt1_inv hx1
       refine JL.run (.yes rfl (ltB rfl) rfl hc7) (op_cmpU lb (.tmp rfl) (HasO.cU (x := (4611686018427387904 : UInt64)) rfl (by decide)) (cs hv_6)) ?_
       refine jc (op_pickT lb (.tmp rfl) hc7 (.tmp rfl)) <| jc (op_assign lb (.tmp rfl)) <| JL.nil ?_
       try obtain rfl := so hx1
       exact jo rfl rfl rfl
     refine jk rfl hc7 <| jk rfl hc7 <| jk rfl hc7 <| jc (op_pickF lb (.tmp rfl) hc7 .cB) <| jc (op_assign lb (.tmp rfl)) ?_
     refine JL.nil ?_
     try obtain rfl := so hx1
     exact jo rfl rfl rfl
   refine jk rfl hc5 <| jk rfl hc5 <| jk rfl hc5 <| jc (op_pickF lb (.tmp rfl) hc5 .cB) <| jmv rfl rfl ?_
   refine jk rfl rfl <| jk rfl rfl <| jk rfl rfl <| jc (op_pickF lb (.tmp rfl) rfl .cB) <| jc (op_assign lb (.tmp rfl)) ?_
   refine JL.nil ?_
   try obtain rfl := so hx1
   exact jo rfl rfl rfl
 refine jk rfl hc3 <| jk rfl hc3 <| jk rfl hc3 <| jc (op_pickF lb (.tmp rfl) hc3 .cB) <| jmv rfl rfl ?_
 refine jk rfl rfl <| jk rfl rfl <| jk rfl rfl <| jc (op_pickF lb (.tmp rfl) rfl .cB) <| jmv rfl rfl ?_
 refine JL.sub ⟨[(1, ov (PTR gb_2 0)), (2, ov (S rB false)), (16, ov (S rB false))], [cvar gb_2 r_api_Dot d_1], []⟩ (.cons rfl (.cons rfl (.cons rfl .nil))) rfl rfl ?_
 refine jk rfl rfl <| jk rfl rfl <| jk rfl rfl <| jc (op_pickF lb (.tmp rfl) rfl .cB) <| jc (op_assign lb (.tmp rfl)) ?_
 refine JL.nil ?_
 try obtain rfl := so hx1
 exact jo rfl rfl rfl

theorem sim_event_MayName (k : Nat) (s_1 : (List UInt8)) (r : Bool) (hm : event_MayName k s_1 = some r) : Sim Tryz.prog 71 [S rS s_1] [] (γ := Unit) (fun q => []) (fun q => .one (.val (S rB r))) := by
 unfold event_MayName at hm
 refine Sim.of Tryz.func71 rfl rfl (lE rfl) (fun e0 w0 => ?_)
 refine JC.at ⟨[(0, ov (S rS s_1))], [], []⟩ ?_
 refine jr <| jc (op_assign lb .cB) <| jn ?_
 obtain ⟨x_5, hx1, hq1⟩ := bnd_inv hm
 refine JC.seqJ (γ := Unit) (stj := fun _ => ⟨[(2, ov (S rB x_5))], [], []⟩) (fun _ => ?_) ?_
 · refine JC.ret ?_
   obtain rfl := so hq1
   exact jd (.val (S rB x_5)) rfl rfl rfl rfl rfl rfl
 refine JC.region <| jmv rfl rfl <| jc (op_lenS lb tu9 (.tmp rfl)) ?_
 obtain ⟨v_2, hv_2, hx1⟩ := lt1_inv hx1
 refine jc (op_cmpI lb (.tmp rfl) .cI (cs hv_2)) <| jmv rfl rfl ?_
 refine JL.cnd (sv := ov (S rS s_1)) (Guard.isT (ltB rfl) rfl rfl) rfl (ltB rfl) (fun hq_2 => op_move lb (.tmp rfl)) ?_
 refine JL.cnd (sv := ov (S (rI .i64) (List.length s_1 : Int))) (Guard.isT (ltB rfl) rfl rfl) rfl (ltB rfl) (fun hq_3 => op_lenS lb tu9 (HasO.cnd (.tmp rfl) hq_3)) ?_
 obtain ⟨v_3, hv_3, hx1⟩ := lt1_inv hx1
 refine JL.cnd (sv := ov (S rB v_3)) (Guard.isT (ltB rfl) rfl rfl) rfl (ltB rfl) (fun hq_4 => op_cmpI lb (HasO.cnd (.tmp rfl) hq_4) .cI (cs hv_3)) ?_
 obtain ⟨v_4, hv_4, hx1⟩ := lt1_inv hx1
 refine jc (op_pickCS lb (.tmp rfl) (fun hb5 => (HasO.cnd (.tmp rfl) hb5)) (fun hb5 => .cB) hv_4) <| jc (op_assign lb (.tmp rfl)) <| JL.nil ?_
 try obtain rfl := so hx1
 exact jo rfl rfl rfl

theorem sim_frame_MayItem (k : Nat) (i_1 : api_Item) (r : Bool) (hm : frame_MayItem k i_1 = some r) : Sim Tryz.prog 20 [A r_api_Item i_1] [] (γ := Unit) (fun q => []) (fun q => .one (.val (S rB r))) := by
 unfold frame_MayItem at hm
 refine Sim.of Tryz.func20 rfl rfl (lE rfl) (fun e0 w0 => ?_)
 refine JC.at ⟨[(0, ov (A r_api_Item i_1))], [], []⟩ ?_
 refine jr ?_
 refine jx (op_boxA lb (.tmp rfl)) (fun gb_2 => ?_)
 refine jc (op_assign lb .cB) <| jn <| JC.seq <| jr <| jc (op_fieldAddr (off := 4) lb tf62_2 (.tmp rfl)) ?_
 refine jc (op_loadS (j := 0) lb tS4 (.tmp rfl) rfl (cT (comp_api_Item_Gone i_1) rfl) rfl rfl) <| jn ?_
 rcases iteB_inv hm with ⟨hc1, hm⟩ | ⟨hc1, hm⟩
 · refine JC.condT (.tmp rfl) hc1 ?_
   obtain ⟨x_5, hx2, hq2⟩ := bnd_inv hm
   refine JC.seqJ (γ := Unit) (stj := fun _ => ⟨[(2, ov (S rB x_5))], [], []⟩) (fun _ => ?_) ?_
   · refine JC.ret ?_
     refine JQ.outR ?_
     obtain rfl := so hq2
     exact jd (.val (S rB x_5)) rfl rfl rfl rfl rfl rfl
   refine JC.region <| jc (op_fieldAddr (off := 0) lb tf62_0 (.tmp rfl)) <| jc (op_loadA (j := 0) lb tA26 (.tmp rfl) rfl (cT (comp_api_Item_Dot i_1) rfl) rfl) ?_
   obtain ⟨v_3, hv_3, hx2⟩ := bnd_inv hx2
   refine jx (op_call (js := []) ld cl34 (sim_ctx_May k i_1.Dot v_3 hv_3) .func (.cons (.tmp rfl) .nil) rfl) (fun _ => ?_)
   refine jmv rfl rfl ?_
   rcases iteB_inv hx2 with ⟨hc4, hx2⟩ | ⟨hc4, hx2⟩
   · refine JL.run (.yes rfl (ltB rfl) rfl hc4) (op_fieldAddr (off := 2) lb tf62_1 (.tmp rfl)) ?_
     refine JL.run (.yes rfl (ltB rfl) rfl hc4) (op_loadA (j := 0) lb tA60 (.tmp rfl) rfl (cT (comp_api_Item_Key i_1) rfl) rfl) ?_
     refine JL.nrm ⟨[(2, ov (S rB false)), (8, ov (S rB v_3)), (10, ov (A r_api_Key i_1.Key))], [], []⟩ [] rfl (.cons rfl (.cons rfl (.cons rfl .nil))) rfl ?_
     refine JL.run (.yes rfl (ltB rfl) rfl hc4) (op_build lb tZ60 zv60 tp60 .nil rfl) ?_
     obtain ⟨v_4, hv_4, hx2⟩ := lt1_inv hx2
     refine JL.run (.yes rfl (ltB rfl) rfl hc4) (op_eqA lb qa60 (by decide) ng60 (.tmp rfl) (.tmp rfl) hv_4) ?_
     refine jc (op_pickT lb (.tmp rfl) hc4 (.tmp rfl)) <| jc (op_assign lb (.tmp rfl)) <| JL.nil ?_
     try obtain rfl := so hx2
     exact jo rfl rfl rfl
   refine jk rfl hc4 <| jk rfl hc4 <| jk rfl hc4 <| jk rfl hc4 <| jc (op_pickF lb (.tmp rfl) hc4 .cB) ?_
   refine jc (op_assign lb (.tmp rfl)) ?_
   refine JL.nrm ⟨[(2, ov (S rB false))], [], []⟩ [] rfl (.cons rfl .nil) rfl ?_
   refine JL.nil ?_
   try obtain rfl := so hx2
   exact jo rfl rfl rfl
 refine JC.condF (.tmp rfl) hc1 ?_
 refine JC.skip ?_
 refine JQ.then ?_
 obtain ⟨x_9, hx5, hq5⟩ := bnd_inv hm
 refine JC.seqJ (γ := Unit) (stj := fun _ => ⟨[(2, ov (S rB x_9))], [], []⟩) (fun _ => ?_) ?_
 · refine JC.ret ?_
   obtain rfl := so hq5
   exact jd (.val (S rB x_9)) rfl rfl rfl rfl rfl rfl
 refine JC.region <| jc (op_fieldAddr (off := 0) lb tf62_0 (.tmp rfl)) <| jc (op_loadA (j := 0) lb tA26 (.tmp rfl) rfl (cT (comp_api_Item_Dot i_1) rfl) rfl) ?_
 obtain ⟨v_6, hv_6, hx5⟩ := bnd_inv hx5
 refine jx (op_call (js := []) ld cl34 (sim_ctx_May k i_1.Dot v_6 hv_6) .func (.cons (.tmp rfl) .nil) rfl) (fun _ => ?_)
 refine jmv rfl rfl ?_
 rcases iteB_inv hx5 with ⟨hc7, hx5⟩ | ⟨hc7, hx5⟩
 · refine JL.run (.yes rfl (ltB rfl) rfl hc7) (op_fieldAddr (off := 2) lb tf62_1 (.tmp rfl)) ?_
   refine JL.run (.yes rfl (ltB rfl) rfl hc7) (op_fieldAddr (off := 0) lb tf60_0 (.tmp rfl)) ?_
   refine JL.sub ⟨[(1, ov (PTR gb_2 0)), (2, ov (S rB false)), (17, ov (S rB v_6)), (19, ov (PTR gb_2 ((0 + 2) + 0)))], [cvar gb_2 r_api_Item i_1], []⟩ (.cons rfl (.cons rfl (.cons rfl (.cons rfl .nil)))) rfl rfl ?_
   refine JL.run (.yes rfl (ltB rfl) rfl hc7) (op_loadS (j := 0) lb tS9 (.tmp rfl) rfl (Comp.trans (cT (comp_api_Item_Key i_1) rfl) (comp_api_Key_Topic i_1.Key) (lE rfl)) rfl rfl) ?_
   obtain ⟨v_7, hv_7, hx5⟩ := bnd_inv hx5
   refine JL.runX (.yes rfl (ltB rfl) rfl hc7) (op_call (js := []) ld cl71 (sim_event_MayName k i_1.Key.Topic v_7 hv_7) .func (.cons (.tmp rfl) .nil) rfl) (fun _ => ?_)
   refine jc (op_pickT lb (.tmp rfl) hc7 (.tmp rfl)) <| jmv rfl rfl ?_
   rcases iteB_inv hx5 with ⟨hc9, hx5⟩ | ⟨hc9, hx5⟩
   · refine JL.run (.yes rfl (ltB rfl) rfl hc9) (op_fieldAddr (off := 2) lb tf62_1 (.tmp rfl)) ?_
     refine JL.run (.yes rfl (ltB rfl) rfl hc9) (op_fieldAddr (off := 1) lb tf60_1 (.tmp rfl)) ?_
     refine JL.run (.yes rfl (ltB rfl) rfl hc9) (op_loadS (j := 0) lb tS9 (.tmp rfl) rfl (Comp.trans (cT (comp_api_Item_Key i_1) rfl) (comp_api_Key_Device i_1.Key) (lE rfl)) rfl rfl) ?_
     obtain ⟨v_8, hv_8, hx5⟩ := bnd_inv hx5
     refine JL.runX (.yes rfl (ltB rfl) rfl hc9) (op_call (js := []) ld cl71 (sim_event_MayName k i_1.Key.Device v_8 hv_8) .func (.cons (.tmp rfl) .nil) rfl) (fun _ => ?_)
     refine jc (op_pickT lb (.tmp rfl) hc9 (.tmp rfl)) <| jc (op_assign lb (.tmp rfl)) <| JL.nil ?_
     try obtain rfl := so hx5
     exact jo rfl rfl rfl
   refine jk rfl hc9 <| jk rfl hc9 <| jk rfl hc9 <| jk rfl hc9 <| jc (op_pickF lb (.tmp rfl) hc9 .cB) ?_
   refine jc (op_assign lb (.tmp rfl)) <| JL.nil ?_
   try obtain rfl := so hx5
   exact jo rfl rfl rfl
 refine jk rfl hc7 <| jk rfl hc7 <| jk rfl hc7 <| jk rfl hc7 <| jc (op_pickF lb (.tmp rfl) hc7 .cB) ?_
 refine jmv rfl rfl ?_
 refine JL.sub ⟨[(1, ov (PTR gb_2 0)), (2, ov (S rB false)), (23, ov (S rB false))], [cvar gb_2 r_api_Item i_1], []⟩ (.cons rfl (.cons rfl (.cons rfl .nil))) rfl rfl ?_
 refine jk rfl rfl <| jk rfl rfl <| jk rfl rfl <| jk rfl rfl <| jc (op_pickF lb (.tmp rfl) rfl .cB) ?_
 refine jc (op_assign lb (.tmp rfl)) <| JL.nil ?_
 try obtain rfl := so hx5
 exact jo rfl rfl rfl

theorem sim_frame_items_1 (k : Nat) (i_1 : api_Item) (r : Bool) (hm : frame_items_1 k i_1 = some r) : Sim Tryz.prog 81 [A r_api_Item i_1] [] (γ := Unit) (fun q => []) (fun q => .one (.val (S rB r))) := by
 unfold frame_items_1 at hm
 refine Sim.of Tryz.func81 rfl rfl (lE rfl) (fun e0 w0 => ?_)
 refine JC.at ⟨[(0, ov (A r_api_Item i_1))], [], []⟩ ?_
 refine jr ?_
 refine jx (op_boxA lb (.tmp rfl)) (fun gb_2 => ?_)
 refine jc (op_assign lb .cB) <| jn <| jr <| jc (op_loadA (j := 0) lb tA62 (.tmp rfl) rfl (Comp.self r_api_Item i_1) rfl) ?_
 obtain ⟨v_3, hv_3, hm⟩ := bnd_inv hm
 refine jx (op_call (js := []) ld cl20 (sim_frame_MayItem k i_1 v_3 hv_3) .func (.cons (.tmp rfl) .nil) rfl) (fun _ => ?_)
 obtain ⟨v_4, hv_4, hm⟩ := lt1_inv hm
 refine jc (op_not lb (.tmp rfl) hv_4) <| jc (op_assign lb (.tmp rfl)) <| jn ?_
 refine JC.ret ?_
 obtain rfl := so hm
 exact jd (.val (S rB v_4)) rfl rfl rfl rfl rfl rfl

theorem sim_slices_IndexFuncapi_Item_api_Item (k : Nat) (s_1 : (List api_Item)) (r : Int) (hm : slices_IndexFuncapi_Item_api_Item k s_1 = some r) : Sim Tryz.prog 111 [S (rL r_api_Item) s_1, CLO 81 []] [] (γ := Unit) (fun q => []) (fun q => .one (.val (S (rI .i64) r))) := by
 unfold slices_IndexFuncapi_Item_api_Item at hm
 refine Sim.of Tryz.func111 rfl rfl (lE rfl) (fun e0 w0 => ?_)
 refine JC.at ⟨[(0, ov (S (rL r_api_Item) s_1)), (1, ov (CLO 81 []))], [], []⟩ ?_
 refine jr <| jc (op_assign lb .cI) <| jn ?_
 obtain ⟨tv1, hx1, hq1⟩ := bnd_inv hm
 refine JC.seqK (α := Unit) (γ := Unit) (stj := fun v q => ⟨[], [], []⟩) (p := fun v => tv1 = (.inl v)) (fun v q hv => ?_) ?_
 · subst hv
   skip
   obtain _ := q
   dsimp only at hq1
   refine JC.at ⟨[], [], []⟩ ?_
   refine jr <| jc (op_assign lb .cI) <| jn ?_
   refine JC.ret ?_
   obtain rfl := so hq1
   exact jd (.val (S (rI .i64) (-1 : Int))) rfl rfl rfl rfl rfl rfl
 refine jr <| jmv rfl rfl <| jc (op_lenL lb tu23 (.tmp rfl)) <| jc (op_move lb .cI) <| jn ?_
 refine JC.block ?_
 obtain ⟨tv2, hL2, hq2⟩ := bnd_inv hx1
 refine JC.pre ?_ (JC.loop (γ := Unit) (stf := fun s q => ⟨[(0, ov (S (rL r_api_Item) s_1)), (1, ov (CLO 81 [])), (7, ov (S (rI .i64) (List.length s_1 : Int))), (8, ov (S (rI .i64) s))], [], []⟩) (q := ()) hL2 ?_)
 · exact (Imp.norm (js := []) rfl (.cons rfl (.cons rfl (.cons rfl (.cons rfl .nil)))))
 intro x_2 q x hx hr
 obtain _ := q
 change slices_IndexFuncapi_Item_api_Item.b1 k s_1 x_2 = some x at hx
 unfold slices_IndexFuncapi_Item_api_Item.b1 at hx
 refine JC.at ⟨[(0, ov (S (rL r_api_Item) s_1)), (1, ov (CLO 81 [])), (7, ov (S (rI .i64) (List.length s_1 : Int))), (8, ov (S (rI .i64) x_2))], [], []⟩ ?_
 refine jr ?_
 obtain ⟨v_3, hv_3, hx⟩ := lt1_inv hx
 refine jc (op_cmpI lb (.tmp rfl) (.tmp rfl) (cs hv_3)) <| jn <| JC.seq ?_
 rcases iteB_inv hx with ⟨hc3, hx⟩ | ⟨hc3, hx⟩
 · refine JC.condT (.tmp rfl) hc3 ?_
   refine JC.skip ?_
   refine JQ.then <| JC.seq <| JC.block <| jr <| jmv rfl rfl ?_
   refine jc (op_assign lb (.tmp rfl)) <| jn <| jr <| jmv rfl rfl <| jmv rfl rfl ?_
   refine jmv rfl rfl ?_
   obtain ⟨v_4, hv_4, hx⟩ := bnd_inv hx
   refine jc (op_indexAddrLg lb tu23 tz62 (.tmp rfl) (.tmp rfl) hv_4) <| jc (op_loadPAg lb tA62 (.tmp rfl) rfl) ?_
   obtain ⟨v_5, hv_5, hx⟩ := bnd_inv hx
   refine jx (op_call (js := []) ld cl81 (sim_frame_items_1 k v_4 v_5 hv_5) (.tmp rfl) (.cons (.tmp rfl) .nil) rfl) (fun _ => ?_)
   refine jn ?_
   rcases iteB_inv hx with ⟨hc4, hx⟩ | ⟨hc4, hx⟩
   · refine JC.condT (.tmp rfl) hc4 ?_
     refine jr <| jmv rfl rfl <| jc (op_assign lb (.tmp rfl)) <| jn ?_
     refine JC.ret ?_
     refine JQ.outRB ?_
     refine JQ.outR ?_
     try obtain rfl := so hx
     have ht := hr _ rfl
     clear hr
     first | subst ht | clear ht
     dsimp only at hq2
     refine JQ.outR ?_
     refine JQ.outRB ?_
     try obtain rfl := so hq2
     dsimp only at hq1
     refine JQ.outR ?_
     obtain rfl := so hq1
     exact jd (.val (S (rI .i64) x_2)) rfl rfl rfl rfl rfl rfl
   refine JC.condF (.tmp rfl) hc4 ?_
   refine JC.skip ?_
   refine JQ.outNB ?_
   refine JQ.then <| JC.region ?_
   obtain ⟨v_6, hv_6, hx⟩ := lt1_inv hx
   refine jc (op_arI lb (.tmp rfl) .cI (cs hv_6)) <| jmv rfl rfl <| JL.nil ?_
   try obtain rfl := so hx
   exact JQ.next () rfl (Imp.norm (js := []) rfl (.cons rfl (.cons rfl (.cons rfl (.cons rfl .nil)))))
 refine JC.condF (.tmp rfl) hc3 ?_
 refine JC.exit ?_
 refine JQ.outX ?_
 try obtain rfl := so hx
 have ht := hr _ rfl
 clear hr
 first | subst ht | clear ht
 dsimp only at hq2
 refine JQ.outX ?_
 refine JQ.here ?_
 try obtain rfl := so hq2
 exact JQ.joinK () () rfl (Imp.norm (js := []) rfl .nil)

theorem sim_slices_ContainsFuncapi_Item_api_Item (k : Nat) (s_1 : (List api_Item)) (r : Bool) (hm : slices_ContainsFuncapi_Item_api_Item k s_1 = some r) : Sim Tryz.prog 73 [S (rL r_api_Item) s_1, CLO 81 []] [] (γ := Unit) (fun q => []) (fun q => .one (.val (S rB r))) := by
 unfold slices_ContainsFuncapi_Item_api_Item at hm
 refine Sim.of Tryz.func73 rfl rfl (lE rfl) (fun e0 w0 => ?_)
 refine JC.at ⟨[(0, ov (S (rL r_api_Item) s_1)), (1, ov (CLO 81 []))], [], []⟩ ?_
 refine jr <| jc (op_assign lb .cB) <| jn <| jr <| jmv rfl rfl ?_
 refine jmv rfl rfl ?_
 obtain ⟨v_2, hv_2, hm⟩ := bnd_inv hm
 refine jx (op_call (js := []) ld cl111 (sim_slices_IndexFuncapi_Item_api_Item k s_1 v_2 hv_2) .func (.cons (.tmp rfl) (.cons (.tmp rfl) .nil)) rfl) (fun _ => ?_)
 obtain ⟨v_3, hv_3, hm⟩ := lt1_inv hm
 refine jc (op_cmpI lb (.tmp rfl) .cI (cs hv_3)) <| jc (op_assign lb (.tmp rfl)) <| jn ?_
 refine JC.ret ?_
 obtain rfl := so hm
 exact jd (.val (S rB v_3)) rfl rfl rfl rfl rfl rfl

theorem sim_frame_items (k : Nat) (f_1 : api_Frame) (r : Bool) (hm : frame_items k f_1 = some r) : Sim Tryz.prog 30 [A r_api_Frame f_1] [] (γ := Unit) (fun q => []) (fun q => .one (.val (S rB r))) := by
 unfold frame_items at hm
 refine Sim.of Tryz.func30 rfl rfl (lE rfl) (fun e0 w0 => ?_)
 refine JC.at ⟨[(0, ov (A r_api_Frame f_1))], [], []⟩ ?_
 refine jr ?_
 refine jx (op_boxA lb (.tmp rfl)) (fun gb_2 => ?_)
 refine jc (op_assign lb .cB) <| jn ?_
 obtain ⟨x_6, hx1, hq1⟩ := bnd_inv hm
 refine JC.seqJ (γ := Unit) (stj := fun _ => ⟨[(2, ov (S rB x_6))], [], []⟩) (fun _ => ?_) ?_
 · refine JC.ret ?_
   obtain rfl := so hq1
   exact jd (.val (S rB x_6)) rfl rfl rfl rfl rfl rfl
 refine JC.region <| jc (op_fieldAddr (off := 3) lb tf39_3 (.tmp rfl)) <| jc (op_loadS (j := 0) lb tS23 (.tmp rfl) rfl (cT (comp_api_Frame_Items f_1) rfl) rfl rfl) <| jc (op_lenL lb tu23 (.tmp rfl)) ?_
 obtain ⟨v_3, hv_3, hx1⟩ := lt1_inv hx1
 refine jc (op_cmpI lb (.tmp rfl) .cI (cs hv_3)) <| jmv rfl rfl ?_
 rcases iteB_inv hx1 with ⟨hc3, hx1⟩ | ⟨hc3, hx1⟩
 · refine JL.run (.yes rfl (ltB rfl) rfl hc3) (op_fieldAddr (off := 3) lb tf39_3 (.tmp rfl)) ?_
   refine JL.run (.yes rfl (ltB rfl) rfl hc3) (op_loadS (j := 0) lb tS23 (.tmp rfl) rfl (cT (comp_api_Frame_Items f_1) rfl) rfl rfl) ?_
   obtain ⟨v_4, hv_4, hx1⟩ := bnd_inv hx1
   refine JL.runX (.yes rfl (ltB rfl) rfl hc3) (op_call (js := []) ld cl73 (sim_slices_ContainsFuncapi_Item_api_Item k f_1.Items v_4 hv_4) .func (.cons (.tmp rfl) (.cons .func .nil)) rfl) (fun _ => ?_)
   refine JL.nrm ⟨[(2, ov (S rB false)), (7, ov (S rB v_3)), (10, ov (S rB v_4))], [], []⟩ [] rfl (.cons rfl (.cons rfl (.cons rfl .nil))) rfl ?_
   obtain ⟨v_5, hv_5, hx1⟩ := lt1_inv hx1
   refine JL.run (.yes rfl (ltB rfl) rfl hc3) (op_not lb (.tmp rfl) hv_5) ?_
   refine jc (op_pickT lb (.tmp rfl) hc3 (.tmp rfl)) <| jc (op_assign lb (.tmp rfl)) <| JL.nil ?_
   try obtain rfl := so hx1
   exact jo rfl rfl rfl
 refine jk rfl hc3 <| jk rfl hc3 <| jk rfl hc3 <| jk rfl hc3 <| jc (op_pickF lb (.tmp rfl) hc3 .cB) ?_
 refine jc (op_assign lb (.tmp rfl)) <| JL.nil ?_
 try obtain rfl := so hx1
 exact jo rfl rfl rfl

theorem sim_event_MayDot (k : Nat) (d_1 : api_Dot) (r : Bool) (hm : event_MayDot k d_1 = some r) : Sim Tryz.prog 82 [A r_api_Dot d_1] [] (γ := Unit) (fun q => []) (fun q => .one (.val (S rB r))) := by
 unfold event_MayDot at hm
 refine Sim.of Tryz.func82 rfl rfl (lE rfl) (fun e0 w0 => ?_)
 refine JC.at ⟨[(0, ov (A r_api_Dot d_1))], [], []⟩ ?_
 refine jr ?_
 refine jx (op_boxA lb (.tmp rfl)) (fun gb_2 => ?_)
 refine jc (op_assign lb .cB) <| jn ?_
 obtain ⟨x_7, hx1, hq1⟩ := bnd_inv hm
 refine JC.seqJ (γ := Unit) (stj := fun _ => ⟨[(2, ov (S rB x_7))], [], []⟩) (fun _ => ?_) ?_
 · refine JC.ret ?_
   obtain rfl := so hq1
   exact jd (.val (S rB x_7)) rfl rfl rfl rfl rfl rfl
 refine JC.region <| jc (op_fieldAddr (off := 0) lb tf26_0 (.tmp rfl)) <| jc (op_loadS (j := 0) lb tS3 (.tmp rfl) rfl (cT (comp_api_Dot_Region d_1) rfl) rfl rfl) ?_
 obtain ⟨v_3, hv_3, hx1⟩ := lt1_inv hx1
 refine jc (op_cmpI lb (.tmp rfl) .cI (cs hv_3)) <| jmv rfl rfl ?_
 rcases iteB_inv hx1 with ⟨hc3, hx1⟩ | ⟨hc3, hx1⟩
 · refine JL.run (.yes rfl (ltB rfl) rfl hc3) (op_fieldAddr (off := 0) lb tf26_0 (.tmp rfl)) ?_
   refine JL.run (.yes rfl (ltB rfl) rfl hc3) (op_loadS (j := 0) lb tS3 (.tmp rfl) rfl (cT (comp_api_Dot_Region d_1) rfl) rfl rfl) ?_
   obtain ⟨v_4, hv_4, hx1⟩ := lt1_inv hx1
   refine JL.run (.yes rfl (ltB rfl) rfl hc3) (op_cmpI lb (.tmp rfl) .cI (cs hv_4)) ?_
   refine jc (op_pickT lb (.tmp rfl) hc3 (.tmp rfl)) ?_
   refine JL.sub ⟨[(1, ov (PTR gb_2 0)), (2, ov (S rB false)), (10, ov (S rB v_4))], [cvar gb_2 r_api_Dot d_1], []⟩ (.cons rfl (.cons rfl (.cons rfl .nil))) rfl rfl ?_
   refine jmv rfl rfl ?_
   rcases iteB_inv hx1 with ⟨hc5, hx1⟩ | ⟨hc5, hx1⟩
   · refine JL.run (.yes rfl (ltB rfl) rfl hc5) (op_fieldAddr (off := 1) lb tf26_1 (.tmp rfl)) ?_
     refine JL.run (.yes rfl (ltB rfl) rfl hc5) (op_loadS (j := 0) lb tS24 (.tmp rfl) rfl (cT (comp_api_Dot_Count d_1) rfl) rfl rfl) ?_
     obtain ⟨v_5, hv_5, hx1⟩ := lt1_inv hx1
     refine JL.run (.yes rfl (ltB rfl) rfl hc5) (op_cmpU lb (.tmp rfl) (HasO.cU (x := (1 : UInt64)) rfl (by decide)) (cs hv_5)) ?_
     refine jc (op_pickT lb (.tmp rfl) hc5 (.tmp rfl)) <| jmv rfl rfl ?_
     rcases iteB_inv hx1 with ⟨hc7, hx1⟩ | ⟨hc7, hx1⟩
     · refine JL.run (.yes rfl (ltB rfl) rfl hc7) (op_fieldAddr (off := 1) lb tf26_1 (.tmp rfl)) ?_
       refine JL.run (.yes rfl (ltB rfl) rfl hc7) (op_loadS (j := 0) lb tS24 (.tmp rfl) rfl (cT (comp_api_Dot_Count d_1) rfl) rfl rfl) ?_
       obtain ⟨v_6, hv_6, hx1⟩ := lt1_inv hx1
       refine JL.run (.yes rfl (ltB rfl) rfl hc7) (op_cmpU lb (.tmp rfl) (HasO.cU (x := (4611686018427387904 : UInt64)) rfl (by decide)) (cs hv_6)) ?_
       refine jc (op_pickT lb (.tmp rfl) hc7 (.tmp rfl)) <| jc (op_assign lb (.tmp rfl)) <| JL.nil ?_
       try obtain rfl := so hx1
       exact jo rfl rfl rfl
     refine jk rfl hc7 <| jk rfl hc7 <| jk rfl hc7 <| jc (op_pickF lb (.tmp rfl) hc7 .cB) <| jc (op_assign lb (.tmp rfl)) ?_
     refine JL.nil ?_
     try obtain rfl := so hx1
     exact jo rfl rfl rfl
   refine jk rfl hc5 <| jk rfl hc5 <| jk rfl hc5 <| jc (op_pickF lb (.tmp rfl) hc5 .cB) <| jmv rfl rfl ?_
   refine jk rfl rfl <| jk rfl rfl <| jk rfl rfl <| jc (op_pickF lb (.tmp rfl) rfl .cB) <| jc (op_assign lb (.tmp rfl)) ?_
   refine JL.nil ?_
   try obtain rfl := so hx1
   exact jo rfl rfl rfl
 refine jk rfl hc3 <| jk rfl hc3 <| jk rfl hc3 <| jc (op_pickF lb (.tmp rfl) hc3 .cB) <| jmv rfl rfl ?_
 refine jk rfl rfl <| jk rfl rfl <| jk rfl rfl <| jc (op_pickF lb (.tmp rfl) rfl .cB) <| jmv rfl rfl ?_
 refine JL.sub ⟨[(1, ov (PTR gb_2 0)), (2, ov (S rB false)), (16, ov (S rB false))], [cvar gb_2 r_api_Dot d_1], []⟩ (.cons rfl (.cons rfl (.cons rfl .nil))) rfl rfl ?_
 refine jk rfl rfl <| jk rfl rfl <| jk rfl rfl <| jc (op_pickF lb (.tmp rfl) rfl .cB) <| jc (op_assign lb (.tmp rfl)) ?_
 refine JL.nil ?_
 try obtain rfl := so hx1
 exact jo rfl rfl rfl

theorem sim_event_mayVector_1 (k : Nat) (n_1 : UInt64) (r : Bool) (hm : event_mayVector_1 k n_1 = some r) : Sim Tryz.prog 116 [S (rU UInt64) n_1] [] (γ := Unit) (fun q => []) (fun q => .one (.val (S rB r))) := by
 unfold event_mayVector_1 at hm
 refine Sim.of Tryz.func116 rfl rfl (lE rfl) (fun e0 w0 => ?_)
 refine JC.at ⟨[(0, ov (S (rU UInt64) n_1))], [], []⟩ ?_
 refine jr <| jc (op_assign lb .cB) <| jn <| jr <| jmv rfl rfl ?_
 obtain ⟨v_2, hv_2, hm⟩ := lt1_inv hm
 refine jc (op_cmpU lb (.tmp rfl) (HasO.cU (x := (4611686018427387904 : UInt64)) rfl (by decide)) (cs hv_2)) <| jc (op_assign lb (.tmp rfl)) <| jn ?_
 refine JC.ret ?_
 obtain rfl := so hm
 exact jd (.val (S rB v_2)) rfl rfl rfl rfl rfl rfl

theorem sim_slices_IndexFuncuint64_uint64 (k : Nat) (s_1 : (List UInt64)) (r : Int) (hm : slices_IndexFuncuint64_uint64 k s_1 = some r) : Sim Tryz.prog 85 [S (rL (rU UInt64)) s_1, CLO 116 []] [] (γ := Unit) (fun q => []) (fun q => .one (.val (S (rI .i64) r))) := by
 unfold slices_IndexFuncuint64_uint64 at hm
 refine Sim.of Tryz.func85 rfl rfl (lE rfl) (fun e0 w0 => ?_)
 refine JC.at ⟨[(0, ov (S (rL (rU UInt64)) s_1)), (1, ov (CLO 116 []))], [], []⟩ ?_
 refine jr <| jc (op_assign lb .cI) <| jn ?_
 obtain ⟨tv1, hx1, hq1⟩ := bnd_inv hm
 refine JC.seqK (α := Unit) (γ := Unit) (stj := fun v q => ⟨[], [], []⟩) (p := fun v => tv1 = (.inl v)) (fun v q hv => ?_) ?_
 · subst hv
   skip
   obtain _ := q
   dsimp only at hq1
   refine JC.at ⟨[], [], []⟩ ?_
   refine jr <| jc (op_assign lb .cI) <| jn ?_
   refine JC.ret ?_
   obtain rfl := so hq1
   exact jd (.val (S (rI .i64) (-1 : Int))) rfl rfl rfl rfl rfl rfl
 refine jr <| jmv rfl rfl <| jc (op_lenL lb tu71 (.tmp rfl)) <| jc (op_move lb .cI) <| jn ?_
 refine JC.block ?_
 obtain ⟨tv2, hL2, hq2⟩ := bnd_inv hx1
 refine JC.pre ?_ (JC.loop (γ := Unit) (stf := fun s q => ⟨[(0, ov (S (rL (rU UInt64)) s_1)), (1, ov (CLO 116 [])), (7, ov (S (rI .i64) (List.length s_1 : Int))), (8, ov (S (rI .i64) s))], [], []⟩) (q := ()) hL2 ?_)
 · exact (Imp.norm (js := []) rfl (.cons rfl (.cons rfl (.cons rfl (.cons rfl .nil)))))
 intro x_2 q x hx hr
 obtain _ := q
 change slices_IndexFuncuint64_uint64.b1 k s_1 x_2 = some x at hx
 unfold slices_IndexFuncuint64_uint64.b1 at hx
 refine JC.at ⟨[(0, ov (S (rL (rU UInt64)) s_1)), (1, ov (CLO 116 [])), (7, ov (S (rI .i64) (List.length s_1 : Int))), (8, ov (S (rI .i64) x_2))], [], []⟩ ?_
 refine jr ?_
 obtain ⟨v_3, hv_3, hx⟩ := lt1_inv hx
 refine jc (op_cmpI lb (.tmp rfl) (.tmp rfl) (cs hv_3)) <| jn <| JC.seq ?_
 rcases iteB_inv hx with ⟨hc3, hx⟩ | ⟨hc3, hx⟩
 · refine JC.condT (.tmp rfl) hc3 ?_
   refine JC.skip ?_
   refine JQ.then <| JC.seq <| JC.block <| jr <| jmv rfl rfl ?_
   refine jc (op_assign lb (.tmp rfl)) <| jn <| jr <| jmv rfl rfl <| jmv rfl rfl ?_
   refine jmv rfl rfl ?_
   obtain ⟨v_4, hv_4, hx⟩ := bnd_inv hx
   refine jc (op_indexAddrLg lb tu71 tz24 (.tmp rfl) (.tmp rfl) hv_4) <| jc (op_loadPSg lb tS24 rfl (.tmp rfl) rfl) ?_
   obtain ⟨v_5, hv_5, hx⟩ := bnd_inv hx
   refine jx (op_call (js := []) ld cl116 (sim_event_mayVector_1 k v_4 v_5 hv_5) (.tmp rfl) (.cons (.tmp rfl) .nil) rfl) (fun _ => ?_)
   refine jn ?_
   rcases iteB_inv hx with ⟨hc4, hx⟩ | ⟨hc4, hx⟩
   · refine JC.condT (.tmp rfl) hc4 ?_
     refine jr <| jmv rfl rfl <| jc (op_assign lb (.tmp rfl)) <| jn ?_
     refine JC.ret ?_
     refine JQ.outRB ?_
     refine JQ.outR ?_
     try obtain rfl := so hx
     have ht := hr _ rfl
     clear hr
     first | subst ht | clear ht
     dsimp only at hq2
     refine JQ.outR ?_
     refine JQ.outRB ?_
     try obtain rfl := so hq2
     dsimp only at hq1
     refine JQ.outR ?_
     obtain rfl := so hq1
     exact jd (.val (S (rI .i64) x_2)) rfl rfl rfl rfl rfl rfl
   refine JC.condF (.tmp rfl) hc4 ?_
   refine JC.skip ?_
   refine JQ.outNB ?_
   refine JQ.then <| JC.region ?_
   obtain ⟨v_6, hv_6, hx⟩ := lt1_inv hx
   refine jc (op_arI lb (.tmp rfl) .cI (cs hv_6)) <| jmv rfl rfl <| JL.nil ?_
   try obtain rfl := so hx
   exact JQ.next () rfl (Imp.norm (js := []) rfl (.cons rfl (.cons rfl (.cons rfl (.cons rfl .nil)))))
 refine JC.condF (.tmp rfl) hc3 ?_
 refine JC.exit ?_
 refine JQ.outX ?_
 try obtain rfl := so hx
 have ht := hr _ rfl
 clear hr
 first | subst ht | clear ht
 dsimp only at hq2
 refine JQ.outX ?_
 refine JQ.here ?_
 try obtain rfl := so hq2
 exact JQ.joinK () () rfl (Imp.norm (js := []) rfl .nil)

theorem sim_slices_ContainsFuncuint64_uint64 (k : Nat) (s_1 : (List UInt64)) (r : Bool) (hm : slices_ContainsFuncuint64_uint64 k s_1 = some r) : Sim Tryz.prog 32 [S (rL (rU UInt64)) s_1, CLO 116 []] [] (γ := Unit) (fun q => []) (fun q => .one (.val (S rB r))) := by
 unfold slices_ContainsFuncuint64_uint64 at hm
 refine Sim.of Tryz.func32 rfl rfl (lE rfl) (fun e0 w0 => ?_)
 refine JC.at ⟨[(0, ov (S (rL (rU UInt64)) s_1)), (1, ov (CLO 116 []))], [], []⟩ ?_
 refine jr <| jc (op_assign lb .cB) <| jn <| jr <| jmv rfl rfl ?_
 refine jmv rfl rfl ?_
 obtain ⟨v_2, hv_2, hm⟩ := bnd_inv hm
 refine jx (op_call (js := []) ld cl85 (sim_slices_IndexFuncuint64_uint64 k s_1 v_2 hv_2) .func (.cons (.tmp rfl) (.cons (.tmp rfl) .nil)) rfl) (fun _ => ?_)
 obtain ⟨v_3, hv_3, hm⟩ := lt1_inv hm
 refine jc (op_cmpI lb (.tmp rfl) .cI (cs hv_3)) <| jc (op_assign lb (.tmp rfl)) <| jn ?_
 refine JC.ret ?_
 obtain rfl := so hm
 exact jd (.val (S rB v_3)) rfl rfl rfl rfl rfl rfl

theorem sim_event_mayVector (k : Nat) (v_1 : (Vector UInt64 16)) (r : Bool) (hm : event_mayVector k v_1 = some r) : Sim Tryz.prog 83 [A (rV 16 (rU UInt64)) v_1] [] (γ := Unit) (fun q => []) (fun q => .one (.val (S rB r))) := by
 unfold event_mayVector at hm
 refine Sim.of Tryz.func83 rfl rfl (lE rfl) (fun e0 w0 => ?_)
 refine JC.at ⟨[(0, ov (A (rV 16 (rU UInt64)) v_1))], [], []⟩ ?_
 refine jr ?_
 refine jx (op_boxA lb (.tmp rfl)) (fun gb_2 => ?_)
 refine jc (op_assign lb .cB) <| jn <| jr ?_
 obtain ⟨v_3, hv_3, hm⟩ := bnd_inv hm
 refine JL.pre (Imp.frzVar (j := 0) rfl (ImpK.slotP (s := 1) rfl (Comp.self (rV 16 (rU UInt64)) v_1) ImpK.refl)) ?_
 refine jc (op_sliceP lb tu29 tz24 (.tmp rfl) .none .none hv_3) ?_
 obtain ⟨v_4, hv_4, hm⟩ := bnd_inv hm
 refine jx (op_call (js := []) ld cl32 (sim_slices_ContainsFuncuint64_uint64 k v_3 v_4 hv_4) .func (.cons (.tmp rfl) (.cons .func .nil)) rfl) (fun _ => ?_)
 obtain ⟨v_5, hv_5, hm⟩ := lt1_inv hm
 refine jc (op_not lb (.tmp rfl) hv_5) <| jc (op_assign lb (.tmp rfl)) <| jn ?_
 refine JC.ret ?_
 obtain rfl := so hm
 exact jd (.val (S rB v_5)) rfl rfl rfl rfl rfl rfl

theorem sim_cmp_isNaNint (k : Nat) (x_1 : Int) (r : Bool) (hm : cmp_isNaNint k x_1 = some r) : Sim Tryz.prog 142 [S (rI .i64) x_1] [] (γ := Unit) (fun q => []) (fun q => .one (.val (S rB r))) := by
 unfold cmp_isNaNint at hm
 refine Sim.of Tryz.func142 rfl rfl (lE rfl) (fun e0 w0 => ?_)
 refine JC.at ⟨[(0, ov (S (rI .i64) x_1))], [], []⟩ ?_
 refine jr <| jc (op_assign lb .cB) <| jn <| jr <| jmv rfl rfl ?_
 refine jmv rfl rfl ?_
 obtain ⟨v_2, hv_2, hm⟩ := lt1_inv hm
 refine jc (op_cmpI lb (.tmp rfl) (.tmp rfl) (cs hv_2)) <| jc (op_assign lb (.tmp rfl)) <| jn ?_
 refine JC.ret ?_
 obtain rfl := so hm
 exact jd (.val (S rB v_2)) rfl rfl rfl rfl rfl rfl

theorem sim_cmp_Compareint (k : Nat) (x_1 : Int) (y_2 : Int) (r : Int) (hm : cmp_Compareint k x_1 y_2 = some r) : Sim Tryz.prog 118 [S (rI .i64) x_1, S (rI .i64) y_2] [] (γ := Unit) (fun q => []) (fun q => .one (.val (S (rI .i64) r))) := by
 unfold cmp_Compareint at hm
 refine Sim.of Tryz.func118 rfl rfl (lE rfl) (fun e0 w0 => ?_)
 refine JC.at ⟨[(0, ov (S (rI .i64) x_1)), (1, ov (S (rI .i64) y_2))], [], []⟩ ?_
 refine jr <| jc (op_assign lb .cI) <| jn <| jr <| jmv rfl rfl ?_
 obtain ⟨v_3, hv_3, hm⟩ := bnd_inv hm
 refine jx (op_call (js := []) ld cl142 (sim_cmp_isNaNint k x_1 v_3 hv_3) .func (.cons (.tmp rfl) .nil) rfl) (fun _ => ?_)
 refine jc (op_assign lb (.tmp rfl)) <| jn <| jr <| jmv rfl rfl ?_
 obtain ⟨v_4, hv_4, hm⟩ := bnd_inv hm
 refine jx (op_call (js := []) ld cl142 (sim_cmp_isNaNint k y_2 v_4 hv_4) .func (.cons (.tmp rfl) .nil) rfl) (fun _ => ?_)
 refine jc (op_assign lb (.tmp rfl)) <| jn <| JC.seq <| jr <| jmv rfl rfl ?_
 refine jn ?_
 rcases iteB_inv hm with ⟨hc1, hm⟩ | ⟨hc1, hm⟩
 · refine JC.condT (.tmp rfl) hc1 ?_
   refine JC.seq <| jr <| jmv rfl rfl <| jn ?_
   rcases iteB_inv hm with ⟨hc2, hm⟩ | ⟨hc2, hm⟩
   · refine JC.condT (.tmp rfl) hc2 ?_
     refine jr <| jc (op_assign lb .cI) <| jn ?_
     refine JC.ret ?_
     refine JQ.outR ?_
     refine JQ.outR ?_
     obtain rfl := so hm
     exact jd (.val (S (rI .i64) (0 : Int))) rfl rfl rfl rfl rfl rfl
   refine JC.condF (.tmp rfl) hc2 ?_
   refine JC.skip ?_
   refine JQ.then <| jr <| jc (op_assign lb .cI) <| jn ?_
   refine JC.ret ?_
   refine JQ.outR ?_
   obtain rfl := so hm
   exact jd (.val (S (rI .i64) (-1 : Int))) rfl rfl rfl rfl rfl rfl
 refine JC.condF (.tmp rfl) hc1 ?_
 refine JC.skip ?_
 refine JQ.then <| JC.seq <| jr <| jmv rfl rfl <| jn ?_
 rcases iteB_inv hm with ⟨hc3, hm⟩ | ⟨hc3, hm⟩
 · refine JC.condT (.tmp rfl) hc3 ?_
   refine jr <| jc (op_assign lb .cI) <| jn ?_
   refine JC.ret ?_
   refine JQ.outR ?_
   obtain rfl := so hm
   exact jd (.val (S (rI .i64) (1 : Int))) rfl rfl rfl rfl rfl rfl
 refine JC.condF (.tmp rfl) hc3 ?_
 refine JC.skip ?_
 refine JQ.then <| JC.seq <| jr <| jmv rfl rfl <| jmv rfl rfl ?_
 obtain ⟨v_5, hv_5, hm⟩ := lt1_inv hm
 refine jc (op_cmpI lb (.tmp rfl) (.tmp rfl) (cs hv_5)) ?_
 refine JL.sub ⟨[(0, ov (S (rI .i64) x_1)), (1, ov (S (rI .i64) y_2)), (16, ov (S rB v_5))], [], []⟩ (.cons rfl (.cons rfl (.cons rfl .nil))) rfl rfl ?_
 refine jn ?_
 rcases iteB_inv hm with ⟨hc4, hm⟩ | ⟨hc4, hm⟩
 · refine JC.condT (.tmp rfl) hc4 ?_
   refine jr <| jc (op_assign lb .cI) <| jn ?_
   refine JC.ret ?_
   refine JQ.outR ?_
   obtain rfl := so hm
   exact jd (.val (S (rI .i64) (-1 : Int))) rfl rfl rfl rfl rfl rfl
 refine JC.condF (.tmp rfl) hc4 ?_
 refine JC.skip ?_
 refine JQ.then <| JC.seq <| jr <| jmv rfl rfl <| jmv rfl rfl ?_
 obtain ⟨v_6, hv_6, hm⟩ := lt1_inv hm
 refine jc (op_cmpI lb (.tmp rfl) (.tmp rfl) (cs hv_6)) <| jn ?_
 rcases iteB_inv hm with ⟨hc5, hm⟩ | ⟨hc5, hm⟩
 · refine JC.condT (.tmp rfl) hc5 ?_
   refine jr <| jc (op_assign lb .cI) <| jn ?_
   refine JC.ret ?_
   refine JQ.outR ?_
   obtain rfl := so hm
   exact jd (.val (S (rI .i64) (1 : Int))) rfl rfl rfl rfl rfl rfl
 refine JC.condF (.tmp rfl) hc5 ?_
 refine JC.skip ?_
 refine JQ.then <| jr <| jc (op_assign lb .cI) <| jn ?_
 refine JC.ret ?_
 obtain rfl := so hm
 exact jd (.val (S (rI .i64) (0 : Int))) rfl rfl rfl rfl rfl rfl

theorem sim_cmp_isNaNuint64 (k : Nat) (x_1 : UInt64) (r : Bool) (hm : cmp_isNaNuint64 k x_1 = some r) : Sim Tryz.prog 143 [S (rU UInt64) x_1] [] (γ := Unit) (fun q => []) (fun q => .one (.val (S rB r))) := by
 unfold cmp_isNaNuint64 at hm
 refine Sim.of Tryz.func143 rfl rfl (lE rfl) (fun e0 w0 => ?_)
 refine JC.at ⟨[(0, ov (S (rU UInt64) x_1))], [], []⟩ ?_
 refine jr <| jc (op_assign lb .cB) <| jn <| jr <| jmv rfl rfl ?_
 refine jmv rfl rfl ?_
 obtain ⟨v_2, hv_2, hm⟩ := lt1_inv hm
 refine jc (op_cmpU lb (.tmp rfl) (.tmp rfl) (cs hv_2)) <| jc (op_assign lb (.tmp rfl)) <| jn ?_
 refine JC.ret ?_
 obtain rfl := so hm
 exact jd (.val (S rB v_2)) rfl rfl rfl rfl rfl rfl

theorem sim_cmp_Compareuint64 (k : Nat) (x_1 : UInt64) (y_2 : UInt64) (r : Int) (hm : cmp_Compareuint64 k x_1 y_2 = some r) : Sim Tryz.prog 119 [S (rU UInt64) x_1, S (rU UInt64) y_2] [] (γ := Unit) (fun q => []) (fun q => .one (.val (S (rI .i64) r))) := by
 unfold cmp_Compareuint64 at hm
 refine Sim.of Tryz.func119 rfl rfl (lE rfl) (fun e0 w0 => ?_)
 refine JC.at ⟨[(0, ov (S (rU UInt64) x_1)), (1, ov (S (rU UInt64) y_2))], [], []⟩ ?_
 refine jr <| jc (op_assign lb .cI) <| jn <| jr <| jmv rfl rfl ?_
 obtain ⟨v_3, hv_3, hm⟩ := bnd_inv hm
 refine jx (op_call (js := []) ld cl143 (sim_cmp_isNaNuint64 k x_1 v_3 hv_3) .func (.cons (.tmp rfl) .nil) rfl) (fun _ => ?_)
 refine jc (op_assign lb (.tmp rfl)) <| jn <| jr <| jmv rfl rfl ?_
 obtain ⟨v_4, hv_4, hm⟩ := bnd_inv hm
 refine jx (op_call (js := []) ld cl143 (sim_cmp_isNaNuint64 k y_2 v_4 hv_4) .func (.cons (.tmp rfl) .nil) rfl) (fun _ => ?_)
 refine jc (op_assign lb (.tmp rfl)) <| jn <| JC.seq <| jr <| jmv rfl rfl ?_
 refine jn ?_
 rcases iteB_inv hm with ⟨hc1, hm⟩ | ⟨hc1, hm⟩
 · refine JC.condT (.tmp rfl) hc1 ?_
   refine JC.seq <| jr <| jmv rfl rfl <| jn ?_
   rcases iteB_inv hm with ⟨hc2, hm⟩ | ⟨hc2, hm⟩
   · refine JC.condT (.tmp rfl) hc2 ?_
     refine jr <| jc (op_assign lb .cI) <| jn ?_
     refine JC.ret ?_
     refine JQ.outR ?_
     refine JQ.outR ?_
     obtain rfl := so hm
     exact jd (.val (S (rI .i64) (0 : Int))) rfl rfl rfl rfl rfl rfl
   refine JC.condF (.tmp rfl) hc2 ?_
   refine JC.skip ?_
   refine JQ.then <| jr <| jc (op_assign lb .cI) <| jn ?_
   refine JC.ret ?_
   refine JQ.outR ?_
   obtain rfl := so hm
   exact jd (.val (S (rI .i64) (-1 : Int))) rfl rfl rfl rfl rfl rfl
 refine JC.condF (.tmp rfl) hc1 ?_
 refine JC.skip ?_
 refine JQ.then <| JC.seq <| jr <| jmv rfl rfl <| jn ?_
 rcases iteB_inv hm with ⟨hc3, hm⟩ | ⟨hc3, hm⟩
 · refine JC.condT (.tmp rfl) hc3 ?_
   refine jr <| jc (op_assign lb .cI) <| jn ?_
   refine JC.ret ?_
   refine JQ.outR ?_
   obtain rfl := so hm
   exact jd (.val (S (rI .i64) (1 : Int))) rfl rfl rfl rfl rfl rfl
 refine JC.condF (.tmp rfl) hc3 ?_
 refine JC.skip ?_
 refine JQ.then <| JC.seq <| jr <| jmv rfl rfl <| jmv rfl rfl ?_
 obtain ⟨v_5, hv_5, hm⟩ := lt1_inv hm
 refine jc (op_cmpU lb (.tmp rfl) (.tmp rfl) (cs hv_5)) ?_
 refine JL.sub ⟨[(0, ov (S (rU UInt64) x_1)), (1, ov (S (rU UInt64) y_2)), (16, ov (S rB v_5))], [], []⟩ (.cons rfl (.cons rfl (.cons rfl .nil))) rfl rfl ?_
 refine jn ?_
 rcases iteB_inv hm with ⟨hc4, hm⟩ | ⟨hc4, hm⟩
 · refine JC.condT (.tmp rfl) hc4 ?_
   refine jr <| jc (op_assign lb .cI) <| jn ?_
   refine JC.ret ?_
   refine JQ.outR ?_
   obtain rfl := so hm
   exact jd (.val (S (rI .i64) (-1 : Int))) rfl rfl rfl rfl rfl rfl
 refine JC.condF (.tmp rfl) hc4 ?_
 refine JC.skip ?_
 refine JQ.then <| JC.seq <| jr <| jmv rfl rfl <| jmv rfl rfl ?_
 obtain ⟨v_6, hv_6, hm⟩ := lt1_inv hm
 refine jc (op_cmpU lb (.tmp rfl) (.tmp rfl) (cs hv_6)) <| jn ?_
 rcases iteB_inv hm with ⟨hc5, hm⟩ | ⟨hc5, hm⟩
 · refine JC.condT (.tmp rfl) hc5 ?_
   refine jr <| jc (op_assign lb .cI) <| jn ?_
   refine JC.ret ?_
   refine JQ.outR ?_
   obtain rfl := so hm
   exact jd (.val (S (rI .i64) (1 : Int))) rfl rfl rfl rfl rfl rfl
 refine JC.condF (.tmp rfl) hc5 ?_
 refine JC.skip ?_
 refine JQ.then <| jr <| jc (op_assign lb .cI) <| jn ?_
 refine JC.ret ?_
 obtain rfl := so hm
 exact jd (.val (S (rI .i64) (0 : Int))) rfl rfl rfl rfl rfl rfl

theorem sim_cmp_Orint (k : Nat) (vals_1 : (List Int)) (r : Int) (hm : cmp_Orint k vals_1 = some r) : Sim Tryz.prog 117 [S (rL (rI .i64)) vals_1] [] (γ := Unit) (fun q => []) (fun q => .one (.val (S (rI .i64) r))) := by
 unfold cmp_Orint at hm
 refine Sim.of Tryz.func117 rfl rfl (lE rfl) (fun e0 w0 => ?_)
 refine JC.at ⟨[(0, ov (S (rL (rI .i64)) vals_1))], [], []⟩ ?_
 refine jr <| jc (op_assign lb .cI) <| jn <| jr <| jc (op_assign lb .cI) ?_
 refine jn ?_
 obtain ⟨tv1, hx1, hq1⟩ := bnd_inv hm
 refine JC.seqK (α := Unit) (γ := Unit) (stj := fun v q => ⟨[(3, ov (S (rI .i64) (0 : Int)))], [], []⟩) (p := fun v => tv1 = (.inl v)) (fun v q hv => ?_) ?_
 · subst hv
   skip
   obtain _ := q
   dsimp only at hq1
   refine JC.at ⟨[(3, ov (S (rI .i64) (0 : Int)))], [], []⟩ ?_
   refine jr <| jmv rfl rfl <| jc (op_assign lb (.tmp rfl)) <| jn ?_
   refine JC.ret ?_
   obtain rfl := so hq1
   exact jd (.val (S (rI .i64) (0 : Int))) rfl rfl rfl rfl rfl rfl
 refine jr <| jmv rfl rfl <| jc (op_lenL lb tu37 (.tmp rfl)) <| jc (op_move lb .cI) <| jn ?_
 refine JC.block ?_
 obtain ⟨tv2, hL2, hq2⟩ := bnd_inv hx1
 refine JC.pre ?_ (JC.loop (γ := Unit) (stf := fun s q => ⟨[(3, ov (S (rI .i64) (0 : Int))), (6, ov (S (rL (rI .i64)) vals_1)), (7, ov (S (rI .i64) (List.length vals_1 : Int))), (8, ov (S (rI .i64) s))], [], []⟩) (q := ()) hL2 ?_)
 · exact (Imp.norm (js := []) rfl (.cons rfl (.cons rfl (.cons rfl (.cons rfl .nil)))))
 intro x_2 q x hx hr
 obtain _ := q
 change cmp_Orint.b1 k vals_1 x_2 = some x at hx
 unfold cmp_Orint.b1 at hx
 refine JC.at ⟨[(3, ov (S (rI .i64) (0 : Int))), (6, ov (S (rL (rI .i64)) vals_1)), (7, ov (S (rI .i64) (List.length vals_1 : Int))), (8, ov (S (rI .i64) x_2))], [], []⟩ ?_
 refine jr ?_
 obtain ⟨v_3, hv_3, hx⟩ := lt1_inv hx
 refine jc (op_cmpI lb (.tmp rfl) (.tmp rfl) (cs hv_3)) <| jn <| JC.seq ?_
 rcases iteB_inv hx with ⟨hc3, hx⟩ | ⟨hc3, hx⟩
 · refine JC.condT (.tmp rfl) hc3 ?_
   refine JC.skip ?_
   refine JQ.then <| JC.seq <| JC.block <| jr ?_
   obtain ⟨v_4, hv_4, hx⟩ := bnd_inv hx
   refine jc (op_indexAddrLg lb tu37 tz3 (.tmp rfl) (.tmp rfl) hv_4) <| jc (op_loadPSg lb tS3 rfl (.tmp rfl) rfl) <| jc (op_assign lb (.tmp rfl)) <| jn <| jr ?_
   refine jmv rfl rfl <| jmv rfl rfl ?_
   obtain ⟨v_5, hv_5, hx⟩ := lt1_inv hx
   refine jc (op_cmpI lb (.tmp rfl) (.tmp rfl) (cs hv_5)) <| jn ?_
   rcases iteB_inv hx with ⟨hc4, hx⟩ | ⟨hc4, hx⟩
   · refine JC.condT (.tmp rfl) hc4 ?_
     refine jr <| jmv rfl rfl <| jc (op_assign lb (.tmp rfl)) <| jn ?_
     refine JC.ret ?_
     refine JQ.outRB ?_
     refine JQ.outR ?_
     try obtain rfl := so hx
     have ht := hr _ rfl
     clear hr
     first | subst ht | clear ht
     dsimp only at hq2
     refine JQ.outR ?_
     refine JQ.outRB ?_
     try obtain rfl := so hq2
     dsimp only at hq1
     refine JQ.outR ?_
     obtain rfl := so hq1
     exact jd (.val (S (rI .i64) v_4)) rfl rfl rfl rfl rfl rfl
   refine JC.condF (.tmp rfl) hc4 ?_
   refine JC.skip ?_
   refine JQ.outNB ?_
   refine JQ.then <| JC.region ?_
   obtain ⟨v_6, hv_6, hx⟩ := lt1_inv hx
   refine jc (op_arI lb (.tmp rfl) .cI (cs hv_6)) <| jmv rfl rfl <| JL.nil ?_
   try obtain rfl := so hx
   exact JQ.next () rfl (Imp.norm (js := []) rfl (.cons rfl (.cons rfl (.cons rfl (.cons rfl .nil)))))
 refine JC.condF (.tmp rfl) hc3 ?_
 refine JC.exit ?_
 refine JQ.outX ?_
 try obtain rfl := so hx
 have ht := hr _ rfl
 clear hr
 first | subst ht | clear ht
 dsimp only at hq2
 refine JQ.outX ?_
 refine JQ.here ?_
 try obtain rfl := so hq2
 exact JQ.joinK () () rfl (Imp.norm (js := []) rfl (.cons rfl .nil))

theorem sim_event_Less (k : Nat) (a_1 : api_Dot) (b_2 : api_Dot) (r : Bool) (hm : event_Less k a_1 b_2 = some r) : Sim Tryz.prog 84 [A r_api_Dot a_1, A r_api_Dot b_2] [] (γ := Unit) (fun q => []) (fun q => .one (.val (S rB r))) := by
 unfold event_Less at hm
 refine Sim.of Tryz.func84 rfl rfl (lE rfl) (fun e0 w0 => ?_)
 refine JC.at ⟨[(0, ov (A r_api_Dot a_1)), (1, ov (A r_api_Dot b_2))], [], []⟩ ?_
 refine jr ?_
 refine jx (op_boxA lb (.tmp rfl)) (fun gb_3 => ?_)
 refine jx (op_boxA lb (.tmp rfl)) (fun gb_4 => ?_)
 refine jc (op_assign lb .cB) <| jn <| JC.seq ?_
 obtain ⟨v_5, hv_5, hm⟩ := bnd_inv hm
 obtain ⟨v_6, hv_6, hm⟩ := bnd_inv hm
 obtain ⟨v_7, hv_7, hm⟩ := bnd_inv hm
 obtain ⟨v_8, hv_8, hm⟩ := lt1_inv hm
 refine JC.anyF (base := [(2, ov (PTR gb_3 0)), (3, ov (PTR gb_4 0))])
     (fs := fun γ => [⟨some 5, ov (PTR gb_3 (0 + 0))⟩, ⟨some 6, ov (S (rI .i64) a_1.Region)⟩, ⟨some 7, ov (PTR gb_4 (0 + 0))⟩, ⟨some 8, ov (S (rI .i64) b_2.Region)⟩, ⟨some 9, ov (S (rI .i64) v_5)⟩, ⟨some 10, ov (PTR gb_3 (0 + 1))⟩, ⟨some 11, ov (S (rU UInt64) a_1.Count)⟩, ⟨some 12, ov (PTR gb_4 (0 + 1))⟩, ⟨some 13, ov (S (rU UInt64) b_2.Count)⟩, ⟨some 14, ov (S (rI .i64) v_6)⟩, ⟨some 15, ov (S (rL (rI .i64)) ([v_5, v_6] : (List Int)))⟩, ⟨some 16, ov (S (rI .i64) v_7)⟩, ⟨some 17, ov (S rB v_8)⟩, ⟨some 4, ov (S rB v_8)⟩])
     (rs := fun γ => [⟨cvar gb_3 r_api_Dot a_1, none, none, [1, 6]⟩, ⟨cvar gb_4 r_api_Dot b_2, none, none, [3, 8]⟩])
     (afts := nn 14) (js := [0, 0]) mixed (.cons rfl (.cons rfl .nil)) (fun _ => rfl)
     (by
      refine dS 1 (fun γ ρ B hb hd => op_fieldAddr (off := 0) lb tf26_0 (.tmp (hb 2 _ rfl))) <| dR 2 (fun γ ρ B hb hd => OpStep.lk ⟨ρ, (cvar gb_3 r_api_Dot a_1) :: B, _⟩ (op_loadS (j := 0) lb tS3 (tl hd 0 5) rfl (cT (comp_api_Dot_Region a_1) rfl) rfl rfl)) <| dS 3 (fun γ ρ B hb hd => op_fieldAddr (off := 0) lb tf26_0 (.tmp (hb 3 _ rfl))) <| dR 4 (fun γ ρ B hb hd => OpStep.lk ⟨ρ, (cvar gb_4 r_api_Dot b_2) :: B, _⟩ (op_loadS (j := 0) lb tS3 (tl hd 2 7) rfl (cT (comp_api_Dot_Region b_2) rfl) rfl rfl)) <| dS 5 (fun γ ρ B hb hd => (op_call (js := []) ld cl118 (sim_cmp_Compareint k a_1.Region b_2.Region v_5 hv_5) .func (.cons (tl hd 1 6) (.cons (tl hd 3 8) .nil)) rfl).post (fun _ => Imp.refl)) ?_
      refine dS 6 (fun γ ρ B hb hd => op_fieldAddr (off := 1) lb tf26_1 (.tmp (hb 2 _ rfl))) <| dR 7 (fun γ ρ B hb hd => OpStep.lk ⟨ρ, (cvar gb_3 r_api_Dot a_1) :: B, _⟩ (op_loadS (j := 0) lb tS24 (tl hd 5 10) rfl (cT (comp_api_Dot_Count a_1) rfl) rfl rfl)) <| dS 8 (fun γ ρ B hb hd => op_fieldAddr (off := 1) lb tf26_1 (.tmp (hb 3 _ rfl))) <| dR 9 (fun γ ρ B hb hd => OpStep.lk ⟨ρ, (cvar gb_4 r_api_Dot b_2) :: B, _⟩ (op_loadS (j := 0) lb tS24 (tl hd 7 12) rfl (cT (comp_api_Dot_Count b_2) rfl) rfl rfl)) <| dS 10 (fun γ ρ B hb hd => (op_call (js := []) ld cl119 (sim_cmp_Compareuint64 k a_1.Count b_2.Count v_6 hv_6) .func (.cons (tl hd 6 11) (.cons (tl hd 8 13) .nil)) rfl).post (fun _ => Imp.refl)) ?_
      refine dS 11 (fun γ ρ B hb hd => op_buildF (r := (rI .i64)) lb tu37 tz3 tZ3 rfl (lE rfl) (.S rfl (tl hd 4 9) (.S rfl (tl hd 9 14) .nil)) rfl) <| dS 12 (fun γ ρ B hb hd => (op_call (js := []) ld cl117 (sim_cmp_Orint k ([v_5, v_6] : (List Int)) v_7 hv_7) .func (.cons (tl hd 10 15) .nil) rfl).post (fun _ => Imp.refl)) <| dS 13 (fun γ ρ B hb hd => op_cmpI lb (tl hd 11 16) .cI (cs hv_8)) <| dS 14 (fun γ ρ B hb hd => op_assign lb (tl hd 12 17)) ?_
      exact DSteps.nil)
     (by decide +kernel) (fun _ => rfl) (fun _ => rfl) (fun _ => rfl) rfl
     (ρ' := fun γ => [(4, ov (S rB v_8))])
     (X' := fun γ => [cvar gb_3 r_api_Dot a_1, cvar gb_4 r_api_Dot b_2])
     (fun γ ρ hb hd => (.cons (hdq hd 13 4 rfl) .nil)) (fun _ => rfl) (fun γ => ?_)
 refine JQ.at ⟨[(4, ov (S rB v_8))], [cvar gb_3 r_api_Dot a_1, cvar gb_4 r_api_Dot b_2], []⟩ ?_
 refine JQ.then ?_
 refine JC.ret ?_
 obtain rfl := so hm
 exact jd (.val (S rB v_8)) rfl rfl rfl rfl rfl rfl

end Go.Proofs.YtklnihlchhhhlaaGreat
