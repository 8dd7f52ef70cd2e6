/- Walks. -/
import Derived.Test.YtklnihlchhhhlaaT
namespace Go.Proofs.Ytklnihlchhhhlaa
open Go Fw
set_option linter.unusedVariables false
set_option maxRecDepth 100000
set_option maxHeartbeats 4000000

theorem sim_ctx_May (k : Nat) (d_1 : api_Dot) (r : Bool) (hm : ctx_May k d_1 = some r) : Sim Try.prog 28 [A r_api_Dot d_1] [] (γ := Unit) (fun q => []) (fun q => .one (.val (S rB r))) := by
 unfold ctx_May at hm
 refine Sim.of Try.func28 rfl rfl (lE rfl) (fun e0 w0 => ?_)
 refine JC.at ⟨[(0, ov (A r_api_Dot d_1))], [], []⟩ ?_
 refine jr ?_
 refine jx (op_boxA lb (.tmp rfl)) (fun q => ?_)
 obtain ⟨gb_2, hqq⟩ : ∃ z, z = q := ⟨_, rfl⟩
 subst hqq
 refine jc (op_assign lb .cB) <| jn ?_
 replace hm := bnd_inv hm
 obtain ⟨x_7, hx1, hq1⟩ := hm
 refine JC.seqJ (γ := Unit) (stj := fun _ => ⟨[(2, ov (S rB x_7))], [], []⟩) (fun _ => ?_) ?_
 · refine JC.ret ?_
   replace hq1 := Option.some.inj hq1
   subst hq1
   exact JQ.done (js := []) (ss := [.val (S rB x_7)]) () (.inl rfl) (.nil rfl) rfl (.cons (.tmp rfl) .nil) rfl rfl rfl
 refine JC.region <| jc (op_fieldAddr (off := 0) lb tf29_0 (.tmp rfl)) <| jc (op_loadS (j := 0) lb tS3 (.tmp rfl) rfl (cT (comp_api_Dot_Region d_1) rfl) rfl rfl) ?_
 replace hx1 := lt1_inv hx1
 obtain ⟨v_3, hv_v_3, hx1⟩ := hx1
 refine jc (op_cmpI lb (.tmp rfl) .cI (congrArg some hv_v_3)) <| jmv rfl rfl ?_
 replace hx1 := iteB_inv hx1
 rcases hx1 with ⟨hc3, hx1⟩ | ⟨hc3, hx1⟩
 · refine JL.run (.yes rfl (ltB rfl) rfl hc3) (op_fieldAddr (off := 0) lb tf29_0 (.tmp rfl)) ?_
   refine JL.run (.yes rfl (ltB rfl) rfl hc3) (op_loadS (j := 0) lb tS3 (.tmp rfl) rfl (cT (comp_api_Dot_Region d_1) rfl) rfl rfl) ?_
   replace hx1 := lt1_inv hx1
   obtain ⟨v_4, hv_v_4, hx1⟩ := hx1
   refine JL.run (.yes rfl (ltB rfl) rfl hc3) (op_cmpI lb (.tmp rfl) .cI (congrArg some hv_v_4)) ?_
   refine jc (op_pickT lb (.tmp rfl) hc3 (.tmp rfl)) ?_
   refine JL.sub ⟨[(1, ov (PTR gb_2 0)), (2, ov (S rB false)), (10, ov (S rB v_4))], [cvar gb_2 r_api_Dot d_1], []⟩ (.cons rfl (.cons rfl (.cons rfl .nil))) rfl rfl ?_
   refine jmv rfl rfl ?_
   replace hx1 := iteB_inv hx1
   rcases hx1 with ⟨hc5, hx1⟩ | ⟨hc5, hx1⟩
   · refine JL.run (.yes rfl (ltB rfl) rfl hc5) (op_fieldAddr (off := 1) lb tf29_1 (.tmp rfl)) ?_
     refine JL.run (.yes rfl (ltB rfl) rfl hc5) (op_loadS (j := 0) lb tS27 (.tmp rfl) rfl (cT (comp_api_Dot_Count d_1) rfl) rfl rfl) ?_
     replace hx1 := lt1_inv hx1
     obtain ⟨v_5, hv_v_5, hx1⟩ := hx1
     refine JL.run (.yes rfl (ltB rfl) rfl hc5) (op_cmpU lb (.tmp rfl) (HasO.cU (x := (1 : UInt64)) rfl (by decide)) (congrArg some hv_v_5)) ?_
     refine jc (op_pickT lb (.tmp rfl) hc5 (.tmp rfl)) <| jmv rfl rfl ?_
     replace hx1 := iteB_inv hx1
     rcases hx1 with ⟨hc7, hx1⟩ | ⟨hc7, hx1⟩
     · refine JL.run (.yes rfl (ltB rfl) rfl hc7) (op_fieldAddr (off := 1) lb tf29_1 (.tmp rfl)) ?_
       refine JL.run (.yes rfl (ltB rfl) rfl hc7) (op_loadS (j := 0) lb tS27 (.tmp rfl) rfl (cT (comp_api_Dot_Count d_1) rfl) rfl rfl) ?_
       replace hx1 := lt1_inv hx1
       obtain ⟨v_6, hv_v_6, hx1⟩ := hx1
       refine JL.run (.yes rfl (ltB rfl) rfl hc7) (op_cmpU lb (.tmp rfl) (HasO.cU (x := (4611686018427387904 : UInt64)) rfl (by decide)) (congrArg some hv_v_6)) ?_
       refine jc (op_pickT lb (.tmp rfl) hc7 (.tmp rfl)) <| jc (op_assign lb (.tmp rfl)) <| JL.nil ?_
       replace hx1 := Option.some.inj hx1
       first | subst hx1 | clear hx1
       exact JQ.join () (Imp.norm (js := []) rfl (.cons rfl .nil))
     refine JL.sk (.no rfl (ltB rfl) rfl hc7) <| JL.sk (.no rfl (ltB rfl) rfl hc7) <| JL.sk (.no rfl (ltB rfl) rfl hc7) <| jc (op_pickF lb (.tmp rfl) hc7 .cB) <| jc (op_assign lb (.tmp rfl)) ?_
     refine JL.nil ?_
     replace hx1 := Option.some.inj hx1
     first | subst hx1 | clear hx1
     exact JQ.join () (Imp.norm (js := []) rfl (.cons rfl .nil))
   refine JL.sk (.no rfl (ltB rfl) rfl hc5) <| JL.sk (.no rfl (ltB rfl) rfl hc5) <| JL.sk (.no rfl (ltB rfl) rfl hc5) <| jc (op_pickF lb (.tmp rfl) hc5 .cB) <| jmv rfl rfl ?_
   refine JL.sk (.no rfl (ltB rfl) rfl rfl) <| JL.sk (.no rfl (ltB rfl) rfl rfl) <| JL.sk (.no rfl (ltB rfl) rfl rfl) <| jc (op_pickF lb (.tmp rfl) rfl .cB) <| jc (op_assign lb (.tmp rfl)) ?_
   refine JL.nil ?_
   replace hx1 := Option.some.inj hx1
   first | subst hx1 | clear hx1
   exact JQ.join () (Imp.norm (js := []) rfl (.cons rfl .nil))
 refine JL.sk (.no rfl (ltB rfl) rfl hc3) <| JL.sk (.no rfl (ltB rfl) rfl hc3) <| JL.sk (.no rfl (ltB rfl) rfl hc3) <| jc (op_pickF lb (.tmp rfl) hc3 .cB) <| jmv rfl rfl ?_
 refine JL.sk (.no rfl (ltB rfl) rfl rfl) <| JL.sk (.no rfl (ltB rfl) rfl rfl) <| JL.sk (.no rfl (ltB rfl) rfl rfl) <| jc (op_pickF lb (.tmp rfl) rfl .cB) <| jmv rfl rfl ?_
 refine JL.sub ⟨[(1, ov (PTR gb_2 0)), (2, ov (S rB false)), (16, ov (S rB false))], [cvar gb_2 r_api_Dot d_1], []⟩ (.cons rfl (.cons rfl (.cons rfl .nil))) rfl rfl ?_
 refine JL.sk (.no rfl (ltB rfl) rfl rfl) <| JL.sk (.no rfl (ltB rfl) rfl rfl) <| JL.sk (.no rfl (ltB rfl) rfl rfl) <| jc (op_pickF lb (.tmp rfl) rfl .cB) <| jc (op_assign lb (.tmp rfl)) ?_
 refine JL.nil ?_
 replace hx1 := Option.some.inj hx1
 first | subst hx1 | clear hx1
 exact JQ.join () (Imp.norm (js := []) rfl (.cons rfl .nil))

theorem sim_event_MayName (k : Nat) (s_1 : (List UInt8)) (r : Bool) (hm : event_MayName k s_1 = some r) : Sim Try.prog 32 [S rS s_1] [] (γ := Unit) (fun q => []) (fun q => .one (.val (S rB r))) := by
 unfold event_MayName at hm
 refine Sim.of Try.func32 rfl rfl (lE rfl) (fun e0 w0 => ?_)
 refine JC.at ⟨[(0, ov (S rS s_1))], [], []⟩ ?_
 refine jr <| jc (op_assign lb .cB) <| jn ?_
 replace hm := bnd_inv hm
 obtain ⟨x_5, hx1, hq1⟩ := hm
 refine JC.seqJ (γ := Unit) (stj := fun _ => ⟨[(2, ov (S rB x_5))], [], []⟩) (fun _ => ?_) ?_
 · refine JC.ret ?_
   replace hq1 := Option.some.inj hq1
   subst hq1
   exact JQ.done (js := []) (ss := [.val (S rB x_5)]) () (.inl rfl) (.nil rfl) rfl (.cons (.tmp rfl) .nil) rfl rfl rfl
 refine JC.region <| jmv rfl rfl <| jc (op_lenS lb tu9 (.tmp rfl)) ?_
 replace hx1 := lt1_inv hx1
 obtain ⟨v_2, hv_v_2, hx1⟩ := hx1
 refine jc (op_cmpI lb (.tmp rfl) .cI (congrArg some hv_v_2)) <| jmv rfl rfl ?_
 refine JL.cnd (sv := ov (S rS s_1)) (Guard.isT (ltB rfl) rfl rfl) rfl (ltB rfl) (fun hq_2 => op_move lb (.tmp rfl)) ?_
 refine JL.cnd (sv := ov (S (rI .i64) (List.length s_1 : Int))) (Guard.isT (ltB rfl) rfl rfl) rfl (ltB rfl) (fun hq_3 => op_lenS lb tu9 (HasO.cnd (.tmp rfl) hq_3)) ?_
 replace hx1 := lt1_inv hx1
 obtain ⟨v_3, hv_v_3, hx1⟩ := hx1
 refine JL.cnd (sv := ov (S rB v_3)) (Guard.isT (ltB rfl) rfl rfl) rfl (ltB rfl) (fun hq_4 => op_cmpI lb (HasO.cnd (.tmp rfl) hq_4) .cI (congrArg some hv_v_3)) ?_
 replace hx1 := lt1_inv hx1
 obtain ⟨v_4, hv_v_4, hx1⟩ := hx1
 refine jc (op_pickCS lb (.tmp rfl) (fun hb5 => (HasO.cnd (.tmp rfl) hb5)) (fun hb5 => .cB) hv_v_4) <| jc (op_assign lb (.tmp rfl)) <| JL.nil ?_
 replace hx1 := Option.some.inj hx1
 first | subst hx1 | clear hx1
 exact JQ.join () (Imp.norm (js := []) rfl (.cons rfl .nil))

theorem sim_frame_MayItem (k : Nat) (i_1 : api_Item) (r : Bool) (hm : frame_MayItem k i_1 = some r) : Sim Try.prog 14 [A r_api_Item i_1] [] (γ := Unit) (fun q => []) (fun q => .one (.val (S rB r))) := by
 unfold frame_MayItem at hm
 refine Sim.of Try.func14 rfl rfl (lE rfl) (fun e0 w0 => ?_)
 refine JC.at ⟨[(0, ov (A r_api_Item i_1))], [], []⟩ ?_
 refine jr ?_
 refine jx (op_boxA lb (.tmp rfl)) (fun q => ?_)
 obtain ⟨gb_2, hqq⟩ : ∃ z, z = q := ⟨_, rfl⟩
 subst hqq
 refine jc (op_assign lb .cB) <| jn <| JC.seq <| jr <| jc (op_fieldAddr (off := 4) lb tf33_2 (.tmp rfl)) ?_
 refine jc (op_loadS (j := 0) lb tS4 (.tmp rfl) rfl (cT (comp_api_Item_Gone i_1) rfl) rfl rfl) <| jn ?_
 replace hm := iteB_inv hm
 rcases hm with ⟨hc1, hm⟩ | ⟨hc1, hm⟩
 · refine JC.condT (.tmp rfl) hc1 ?_
   replace hm := bnd_inv hm
   obtain ⟨x_5, hx2, hq2⟩ := hm
   refine JC.seqJ (γ := Unit) (stj := fun _ => ⟨[(2, ov (S rB x_5))], [], []⟩) (fun _ => ?_) ?_
   · refine JC.ret ?_
     refine JQ.outR ?_
     replace hq2 := Option.some.inj hq2
     subst hq2
     exact JQ.done (js := []) (ss := [.val (S rB x_5)]) () (.inl rfl) (.nil rfl) rfl (.cons (.tmp rfl) .nil) rfl rfl rfl
   refine JC.region <| jc (op_fieldAddr (off := 0) lb tf33_0 (.tmp rfl)) <| jc (op_loadA (j := 0) lb tA29 (.tmp rfl) rfl (cT (comp_api_Item_Dot i_1) rfl) rfl) ?_
   replace hx2 := bnd_inv hx2
   obtain ⟨v_3, hv_v_3, hx2⟩ := hx2
   refine jx (op_call (js := []) ld cl28 (sim_ctx_May k i_1.Dot v_3 hv_v_3) .func (.cons (.tmp rfl) .nil) rfl) (fun _ => ?_)
   refine jmv rfl rfl ?_
   replace hx2 := iteB_inv hx2
   rcases hx2 with ⟨hc4, hx2⟩ | ⟨hc4, hx2⟩
   · refine JL.run (.yes rfl (ltB rfl) rfl hc4) (op_fieldAddr (off := 2) lb tf33_1 (.tmp rfl)) ?_
     refine JL.run (.yes rfl (ltB rfl) rfl hc4) (op_loadA (j := 0) lb tA31 (.tmp rfl) rfl (cT (comp_api_Item_Key i_1) rfl) rfl) ?_
     refine JL.nrm ⟨[(2, ov (S rB false)), (8, ov (S rB v_3)), (10, ov (A r_api_Key i_1.Key))], [], []⟩ [] rfl (.cons rfl (.cons rfl (.cons rfl .nil))) rfl ?_
     refine JL.run (.yes rfl (ltB rfl) rfl hc4) (op_build lb tZ31 zv31 tp31 .nil rfl) ?_
     replace hx2 := lt1_inv hx2
     obtain ⟨v_4, hv_v_4, hx2⟩ := hx2
     refine JL.run (.yes rfl (ltB rfl) rfl hc4) (op_eqA lb qa31 (by decide) ng31 (.tmp rfl) (.tmp rfl) hv_v_4) ?_
     refine jc (op_pickT lb (.tmp rfl) hc4 (.tmp rfl)) <| jc (op_assign lb (.tmp rfl)) <| JL.nil ?_
     replace hx2 := Option.some.inj hx2
     first | subst hx2 | clear hx2
     exact JQ.join () (Imp.norm (js := []) rfl (.cons rfl .nil))
   refine JL.sk (.no rfl (ltB rfl) rfl hc4) <| JL.sk (.no rfl (ltB rfl) rfl hc4) <| JL.sk (.no rfl (ltB rfl) rfl hc4) <| JL.sk (.no rfl (ltB rfl) rfl hc4) <| jc (op_pickF lb (.tmp rfl) hc4 .cB) ?_
   refine jc (op_assign lb (.tmp rfl)) ?_
   refine JL.nrm ⟨[(2, ov (S rB false))], [], []⟩ [] rfl (.cons rfl .nil) rfl ?_
   refine JL.nil ?_
   replace hx2 := Option.some.inj hx2
   first | subst hx2 | clear hx2
   exact JQ.join () (Imp.norm (js := []) rfl (.cons rfl .nil))
 refine JC.condF (.tmp rfl) hc1 ?_
 refine JC.skip ?_
 refine JQ.then ?_
 replace hm := bnd_inv hm
 obtain ⟨x_9, hx5, hq5⟩ := hm
 refine JC.seqJ (γ := Unit) (stj := fun _ => ⟨[(2, ov (S rB x_9))], [], []⟩) (fun _ => ?_) ?_
 · refine JC.ret ?_
   replace hq5 := Option.some.inj hq5
   subst hq5
   exact JQ.done (js := []) (ss := [.val (S rB x_9)]) () (.inl rfl) (.nil rfl) rfl (.cons (.tmp rfl) .nil) rfl rfl rfl
 refine JC.region <| jc (op_fieldAddr (off := 0) lb tf33_0 (.tmp rfl)) <| jc (op_loadA (j := 0) lb tA29 (.tmp rfl) rfl (cT (comp_api_Item_Dot i_1) rfl) rfl) ?_
 replace hx5 := bnd_inv hx5
 obtain ⟨v_6, hv_v_6, hx5⟩ := hx5
 refine jx (op_call (js := []) ld cl28 (sim_ctx_May k i_1.Dot v_6 hv_v_6) .func (.cons (.tmp rfl) .nil) rfl) (fun _ => ?_)
 refine jmv rfl rfl ?_
 replace hx5 := iteB_inv hx5
 rcases hx5 with ⟨hc7, hx5⟩ | ⟨hc7, hx5⟩
 · refine JL.run (.yes rfl (ltB rfl) rfl hc7) (op_fieldAddr (off := 2) lb tf33_1 (.tmp rfl)) ?_
   refine JL.run (.yes rfl (ltB rfl) rfl hc7) (op_fieldAddr (off := 0) lb tf31_0 (.tmp rfl)) ?_
   refine JL.sub ⟨[(1, ov (PTR gb_2 0)), (2, ov (S rB false)), (17, ov (S rB v_6)), (19, ov (PTR gb_2 ((0 + 2) + 0)))], [cvar gb_2 r_api_Item i_1], []⟩ (.cons rfl (.cons rfl (.cons rfl (.cons rfl .nil)))) rfl rfl ?_
   refine JL.run (.yes rfl (ltB rfl) rfl hc7) (op_loadS (j := 0) lb tS9 (.tmp rfl) rfl (Comp.trans (cT (comp_api_Item_Key i_1) rfl) (comp_api_Key_Topic i_1.Key) (lE rfl)) rfl rfl) ?_
   replace hx5 := bnd_inv hx5
   obtain ⟨v_7, hv_v_7, hx5⟩ := hx5
   refine JL.runX (.yes rfl (ltB rfl) rfl hc7) (op_call (js := []) ld cl32 (sim_event_MayName k i_1.Key.Topic v_7 hv_v_7) .func (.cons (.tmp rfl) .nil) rfl) (fun _ => ?_)
   refine jc (op_pickT lb (.tmp rfl) hc7 (.tmp rfl)) <| jmv rfl rfl ?_
   replace hx5 := iteB_inv hx5
   rcases hx5 with ⟨hc9, hx5⟩ | ⟨hc9, hx5⟩
   · refine JL.run (.yes rfl (ltB rfl) rfl hc9) (op_fieldAddr (off := 2) lb tf33_1 (.tmp rfl)) ?_
     refine JL.run (.yes rfl (ltB rfl) rfl hc9) (op_fieldAddr (off := 1) lb tf31_1 (.tmp rfl)) ?_
     refine JL.run (.yes rfl (ltB rfl) rfl hc9) (op_loadS (j := 0) lb tS9 (.tmp rfl) rfl (Comp.trans (cT (comp_api_Item_Key i_1) rfl) (comp_api_Key_Device i_1.Key) (lE rfl)) rfl rfl) ?_
     replace hx5 := bnd_inv hx5
     obtain ⟨v_8, hv_v_8, hx5⟩ := hx5
     refine JL.runX (.yes rfl (ltB rfl) rfl hc9) (op_call (js := []) ld cl32 (sim_event_MayName k i_1.Key.Device v_8 hv_v_8) .func (.cons (.tmp rfl) .nil) rfl) (fun _ => ?_)
     refine jc (op_pickT lb (.tmp rfl) hc9 (.tmp rfl)) <| jc (op_assign lb (.tmp rfl)) <| JL.nil ?_
     replace hx5 := Option.some.inj hx5
     first | subst hx5 | clear hx5
     exact JQ.join () (Imp.norm (js := []) rfl (.cons rfl .nil))
   refine JL.sk (.no rfl (ltB rfl) rfl hc9) <| JL.sk (.no rfl (ltB rfl) rfl hc9) <| JL.sk (.no rfl (ltB rfl) rfl hc9) <| JL.sk (.no rfl (ltB rfl) rfl hc9) <| jc (op_pickF lb (.tmp rfl) hc9 .cB) ?_
   refine jc (op_assign lb (.tmp rfl)) <| JL.nil ?_
   replace hx5 := Option.some.inj hx5
   first | subst hx5 | clear hx5
   exact JQ.join () (Imp.norm (js := []) rfl (.cons rfl .nil))
 refine JL.sk (.no rfl (ltB rfl) rfl hc7) <| JL.sk (.no rfl (ltB rfl) rfl hc7) <| JL.sk (.no rfl (ltB rfl) rfl hc7) <| JL.sk (.no rfl (ltB rfl) rfl hc7) <| jc (op_pickF lb (.tmp rfl) hc7 .cB) ?_
 refine jmv rfl rfl ?_
 refine JL.sub ⟨[(1, ov (PTR gb_2 0)), (2, ov (S rB false)), (23, ov (S rB false))], [cvar gb_2 r_api_Item i_1], []⟩ (.cons rfl (.cons rfl (.cons rfl .nil))) rfl rfl ?_
 refine JL.sk (.no rfl (ltB rfl) rfl rfl) <| JL.sk (.no rfl (ltB rfl) rfl rfl) <| JL.sk (.no rfl (ltB rfl) rfl rfl) <| JL.sk (.no rfl (ltB rfl) rfl rfl) <| jc (op_pickF lb (.tmp rfl) rfl .cB) ?_
 refine jc (op_assign lb (.tmp rfl)) <| JL.nil ?_
 replace hx5 := Option.some.inj hx5
 first | subst hx5 | clear hx5
 exact JQ.join () (Imp.norm (js := []) rfl (.cons rfl .nil))

theorem sim_frame_items_1 (k : Nat) (i_1 : api_Item) (r : Bool) (hm : frame_items_1 k i_1 = some r) : Sim Try.prog 61 [A r_api_Item i_1] [] (γ := Unit) (fun q => []) (fun q => .one (.val (S rB r))) := by
 unfold frame_items_1 at hm
 refine Sim.of Try.func61 rfl rfl (lE rfl) (fun e0 w0 => ?_)
 refine JC.at ⟨[(0, ov (A r_api_Item i_1))], [], []⟩ ?_
 refine jr ?_
 refine jx (op_boxA lb (.tmp rfl)) (fun q => ?_)
 obtain ⟨gb_2, hqq⟩ : ∃ z, z = q := ⟨_, rfl⟩
 subst hqq
 refine jc (op_assign lb .cB) <| jn <| jr <| jc (op_loadA (j := 0) lb tA33 (.tmp rfl) rfl (Comp.self r_api_Item i_1) rfl) ?_
 replace hm := bnd_inv hm
 obtain ⟨v_3, hv_v_3, hm⟩ := hm
 refine jx (op_call (js := []) ld cl14 (sim_frame_MayItem k i_1 v_3 hv_v_3) .func (.cons (.tmp rfl) .nil) rfl) (fun _ => ?_)
 replace hm := lt1_inv hm
 obtain ⟨v_4, hv_v_4, hm⟩ := hm
 refine jc (op_not lb (.tmp rfl) hv_v_4) <| jc (op_assign lb (.tmp rfl)) <| jn ?_
 refine JC.ret ?_
 replace hm := Option.some.inj hm
 subst hm
 exact JQ.done (js := []) (ss := [.val (S rB v_4)]) () (.inl rfl) (.nil rfl) rfl (.cons (.tmp rfl) .nil) rfl rfl rfl

theorem sim_slices_IndexFuncapi_Item_api_Item (k : Nat) (s_1 : (List api_Item)) (r : Int) (hm : slices_IndexFuncapi_Item_api_Item k s_1 = some r) : Sim Try.prog 31 [S (rL r_api_Item) s_1, CLO 61 []] [] (γ := Unit) (fun q => []) (fun q => .one (.val (S (rI .i64) r))) := by
 unfold slices_IndexFuncapi_Item_api_Item at hm
 refine Sim.of Try.func31 rfl rfl (lE rfl) (fun e0 w0 => ?_)
 refine JC.at ⟨[(0, ov (S (rL r_api_Item) s_1)), (1, ov (CLO 61 []))], [], []⟩ ?_
 refine jr <| jc (op_assign lb .cI) <| jn ?_
 replace hm := bnd_inv hm
 obtain ⟨tv1, hx1, hq1⟩ := hm
 refine JC.seqK (α := Unit) (γ := Unit) (stj := fun v q => ⟨[], [], []⟩) (p := fun v => tv1 = (.inl v)) (fun v q hv => ?_) ?_
 · subst hv
   skip
   obtain _ := q
   dsimp only at hq1
   refine JC.at ⟨[], [], []⟩ ?_
   refine jr <| jc (op_assign lb .cI) <| jn ?_
   refine JC.ret ?_
   replace hq1 := Option.some.inj hq1
   subst hq1
   exact JQ.done (js := []) (ss := [.val (S (rI .i64) (-1 : Int))]) () (.inl rfl) (.nil rfl) rfl (.cons (.tmp rfl) .nil) rfl rfl rfl
 refine jr <| jmv rfl rfl <| jc (op_lenL lb tu22 (.tmp rfl)) <| jc (op_move lb .cI) <| jn ?_
 refine JC.block ?_
 replace hx1 := bnd_inv hx1
 obtain ⟨tv2, hL2, hq2⟩ := hx1
 refine JC.pre ?_ (JC.loop (γ := Unit) (stf := fun s q => ⟨[(0, ov (S (rL r_api_Item) s_1)), (1, ov (CLO 61 [])), (7, ov (S (rI .i64) (List.length s_1 : Int))), (8, ov (S (rI .i64) s))], [], []⟩) (q := ()) hL2 ?_)
 · exact (Imp.norm (js := []) rfl (.cons rfl (.cons rfl (.cons rfl (.cons rfl .nil)))))
 intro x_2 q x hx hr
 obtain _ := q
 change slices_IndexFuncapi_Item_api_Item.b1 k s_1 x_2 = some x at hx
 unfold slices_IndexFuncapi_Item_api_Item.b1 at hx
 refine JC.at ⟨[(0, ov (S (rL r_api_Item) s_1)), (1, ov (CLO 61 [])), (7, ov (S (rI .i64) (List.length s_1 : Int))), (8, ov (S (rI .i64) x_2))], [], []⟩ ?_
 refine jr ?_
 replace hx := lt1_inv hx
 obtain ⟨v_3, hv_v_3, hx⟩ := hx
 refine jc (op_cmpI lb (.tmp rfl) (.tmp rfl) (congrArg some hv_v_3)) <| jn <| JC.seq ?_
 replace hx := iteB_inv hx
 rcases hx with ⟨hc3, hx⟩ | ⟨hc3, hx⟩
 · refine JC.condT (.tmp rfl) hc3 ?_
   refine JC.skip ?_
   refine JQ.then <| JC.seq <| JC.block <| jr <| jmv rfl rfl ?_
   refine jc (op_assign lb (.tmp rfl)) <| jn <| jr <| jmv rfl rfl <| jmv rfl rfl ?_
   refine jmv rfl rfl ?_
   replace hx := bnd_inv hx
   obtain ⟨v_4, hv_v_4, hx⟩ := hx
   refine jc (op_indexAddrLg lb tu22 tz33 (.tmp rfl) (.tmp rfl) hv_v_4) <| jc (op_loadPAg lb tA33 (.tmp rfl) rfl) ?_
   replace hx := bnd_inv hx
   obtain ⟨v_5, hv_v_5, hx⟩ := hx
   refine jx (op_call (js := []) ld cl61 (sim_frame_items_1 k v_4 v_5 hv_v_5) (.tmp rfl) (.cons (.tmp rfl) .nil) rfl) (fun _ => ?_)
   refine jn ?_
   replace hx := iteB_inv hx
   rcases hx with ⟨hc4, hx⟩ | ⟨hc4, hx⟩
   · refine JC.condT (.tmp rfl) hc4 ?_
     refine jr <| jmv rfl rfl <| jc (op_assign lb (.tmp rfl)) <| jn ?_
     refine JC.ret ?_
     refine JQ.outRB ?_
     refine JQ.outR ?_
     replace hx := Option.some.inj hx
     first | subst hx | clear hx
     have ht := hr _ rfl
     clear hr
     first | subst ht | clear ht
     dsimp only at hq2
     refine JQ.outR ?_
     refine JQ.outRB ?_
     replace hq2 := Option.some.inj hq2
     first | subst hq2 | clear hq2
     dsimp only at hq1
     refine JQ.outR ?_
     replace hq1 := Option.some.inj hq1
     subst hq1
     exact JQ.done (js := []) (ss := [.val (S (rI .i64) x_2)]) () (.inl rfl) (.nil rfl) rfl (.cons (.tmp rfl) .nil) rfl rfl rfl
   refine JC.condF (.tmp rfl) hc4 ?_
   refine JC.skip ?_
   refine JQ.outNB ?_
   refine JQ.then <| JC.region ?_
   replace hx := lt1_inv hx
   obtain ⟨v_6, hv_v_6, hx⟩ := hx
   refine jc (op_arI lb (.tmp rfl) .cI (congrArg some hv_v_6)) <| jmv rfl rfl <| JL.nil ?_
   replace hx := Option.some.inj hx
   first | subst hx | clear hx
   exact JQ.next () rfl (Imp.norm (js := []) rfl (.cons rfl (.cons rfl (.cons rfl (.cons rfl .nil)))))
 refine JC.condF (.tmp rfl) hc3 ?_
 refine JC.exit ?_
 refine JQ.outX ?_
 replace hx := Option.some.inj hx
 first | subst hx | clear hx
 have ht := hr _ rfl
 clear hr
 first | subst ht | clear ht
 dsimp only at hq2
 refine JQ.outX ?_
 refine JQ.here ?_
 replace hq2 := Option.some.inj hq2
 first | subst hq2 | clear hq2
 exact JQ.joinK () () rfl (Imp.norm (js := []) rfl .nil)

theorem sim_slices_ContainsFuncapi_Item_api_Item (k : Nat) (s_1 : (List api_Item)) (r : Bool) (hm : slices_ContainsFuncapi_Item_api_Item k s_1 = some r) : Sim Try.prog 12 [S (rL r_api_Item) s_1, CLO 61 []] [] (γ := Unit) (fun q => []) (fun q => .one (.val (S rB r))) := by
 unfold slices_ContainsFuncapi_Item_api_Item at hm
 refine Sim.of Try.func12 rfl rfl (lE rfl) (fun e0 w0 => ?_)
 refine JC.at ⟨[(0, ov (S (rL r_api_Item) s_1)), (1, ov (CLO 61 []))], [], []⟩ ?_
 refine jr <| jc (op_assign lb .cB) <| jn <| jr <| jmv rfl rfl ?_
 refine jmv rfl rfl ?_
 replace hm := bnd_inv hm
 obtain ⟨v_2, hv_v_2, hm⟩ := hm
 refine jx (op_call (js := []) ld cl31 (sim_slices_IndexFuncapi_Item_api_Item k s_1 v_2 hv_v_2) .func (.cons (.tmp rfl) (.cons (.tmp rfl) .nil)) rfl) (fun _ => ?_)
 replace hm := lt1_inv hm
 obtain ⟨v_3, hv_v_3, hm⟩ := hm
 refine jc (op_cmpI lb (.tmp rfl) .cI (congrArg some hv_v_3)) <| jc (op_assign lb (.tmp rfl)) <| jn ?_
 refine JC.ret ?_
 replace hm := Option.some.inj hm
 subst hm
 exact JQ.done (js := []) (ss := [.val (S rB v_3)]) () (.inl rfl) (.nil rfl) rfl (.cons (.tmp rfl) .nil) rfl rfl rfl

theorem sim_frame_items (k : Nat) (f_1 : api_Frame) (r : Bool) (hm : frame_items k f_1 = some r) : Sim Try.prog 24 [A r_api_Frame f_1] [] (γ := Unit) (fun q => []) (fun q => .one (.val (S rB r))) := by
 unfold frame_items at hm
 refine Sim.of Try.func24 rfl rfl (lE rfl) (fun e0 w0 => ?_)
 refine JC.at ⟨[(0, ov (A r_api_Frame f_1))], [], []⟩ ?_
 refine jr ?_
 refine jx (op_boxA lb (.tmp rfl)) (fun q => ?_)
 obtain ⟨gb_2, hqq⟩ : ∃ z, z = q := ⟨_, rfl⟩
 subst hqq
 refine jc (op_assign lb .cB) <| jn ?_
 replace hm := bnd_inv hm
 obtain ⟨x_6, hx1, hq1⟩ := hm
 refine JC.seqJ (γ := Unit) (stj := fun _ => ⟨[(2, ov (S rB x_6))], [], []⟩) (fun _ => ?_) ?_
 · refine JC.ret ?_
   replace hq1 := Option.some.inj hq1
   subst hq1
   exact JQ.done (js := []) (ss := [.val (S rB x_6)]) () (.inl rfl) (.nil rfl) rfl (.cons (.tmp rfl) .nil) rfl rfl rfl
 refine JC.region <| jc (op_fieldAddr (off := 3) lb tf50_3 (.tmp rfl)) <| jc (op_loadS (j := 0) lb tS22 (.tmp rfl) rfl (cT (comp_api_Frame_Items f_1) rfl) rfl rfl) <| jc (op_lenL lb tu22 (.tmp rfl)) ?_
 replace hx1 := lt1_inv hx1
 obtain ⟨v_3, hv_v_3, hx1⟩ := hx1
 refine jc (op_cmpI lb (.tmp rfl) .cI (congrArg some hv_v_3)) <| jmv rfl rfl ?_
 replace hx1 := iteB_inv hx1
 rcases hx1 with ⟨hc3, hx1⟩ | ⟨hc3, hx1⟩
 · refine JL.run (.yes rfl (ltB rfl) rfl hc3) (op_fieldAddr (off := 3) lb tf50_3 (.tmp rfl)) ?_
   refine JL.run (.yes rfl (ltB rfl) rfl hc3) (op_loadS (j := 0) lb tS22 (.tmp rfl) rfl (cT (comp_api_Frame_Items f_1) rfl) rfl rfl) ?_
   replace hx1 := bnd_inv hx1
   obtain ⟨v_4, hv_v_4, hx1⟩ := hx1
   refine JL.runX (.yes rfl (ltB rfl) rfl hc3) (op_call (js := []) ld cl12 (sim_slices_ContainsFuncapi_Item_api_Item k f_1.Items v_4 hv_v_4) .func (.cons (.tmp rfl) (.cons .func .nil)) rfl) (fun _ => ?_)
   refine JL.nrm ⟨[(2, ov (S rB false)), (7, ov (S rB v_3)), (10, ov (S rB v_4))], [], []⟩ [] rfl (.cons rfl (.cons rfl (.cons rfl .nil))) rfl ?_
   replace hx1 := lt1_inv hx1
   obtain ⟨v_5, hv_v_5, hx1⟩ := hx1
   refine JL.run (.yes rfl (ltB rfl) rfl hc3) (op_not lb (.tmp rfl) hv_v_5) ?_
   refine jc (op_pickT lb (.tmp rfl) hc3 (.tmp rfl)) <| jc (op_assign lb (.tmp rfl)) <| JL.nil ?_
   replace hx1 := Option.some.inj hx1
   first | subst hx1 | clear hx1
   exact JQ.join () (Imp.norm (js := []) rfl (.cons rfl .nil))
 refine JL.sk (.no rfl (ltB rfl) rfl hc3) <| JL.sk (.no rfl (ltB rfl) rfl hc3) <| JL.sk (.no rfl (ltB rfl) rfl hc3) <| JL.sk (.no rfl (ltB rfl) rfl hc3) <| jc (op_pickF lb (.tmp rfl) hc3 .cB) ?_
 refine jc (op_assign lb (.tmp rfl)) <| JL.nil ?_
 replace hx1 := Option.some.inj hx1
 first | subst hx1 | clear hx1
 exact JQ.join () (Imp.norm (js := []) rfl (.cons rfl .nil))

theorem sim_event_MayDot (k : Nat) (d_1 : api_Dot) (r : Bool) (hm : event_MayDot k d_1 = some r) : Sim Try.prog 62 [A r_api_Dot d_1] [] (γ := Unit) (fun q => []) (fun q => .one (.val (S rB r))) := by
 unfold event_MayDot at hm
 refine Sim.of Try.func62 rfl rfl (lE rfl) (fun e0 w0 => ?_)
 refine JC.at ⟨[(0, ov (A r_api_Dot d_1))], [], []⟩ ?_
 refine jr ?_
 refine jx (op_boxA lb (.tmp rfl)) (fun q => ?_)
 obtain ⟨gb_2, hqq⟩ : ∃ z, z = q := ⟨_, rfl⟩
 subst hqq
 refine jc (op_assign lb .cB) <| jn ?_
 replace hm := bnd_inv hm
 obtain ⟨x_7, hx1, hq1⟩ := hm
 refine JC.seqJ (γ := Unit) (stj := fun _ => ⟨[(2, ov (S rB x_7))], [], []⟩) (fun _ => ?_) ?_
 · refine JC.ret ?_
   replace hq1 := Option.some.inj hq1
   subst hq1
   exact JQ.done (js := []) (ss := [.val (S rB x_7)]) () (.inl rfl) (.nil rfl) rfl (.cons (.tmp rfl) .nil) rfl rfl rfl
 refine JC.region <| jc (op_fieldAddr (off := 0) lb tf29_0 (.tmp rfl)) <| jc (op_loadS (j := 0) lb tS3 (.tmp rfl) rfl (cT (comp_api_Dot_Region d_1) rfl) rfl rfl) ?_
 replace hx1 := lt1_inv hx1
 obtain ⟨v_3, hv_v_3, hx1⟩ := hx1
 refine jc (op_cmpI lb (.tmp rfl) .cI (congrArg some hv_v_3)) <| jmv rfl rfl ?_
 replace hx1 := iteB_inv hx1
 rcases hx1 with ⟨hc3, hx1⟩ | ⟨hc3, hx1⟩
 · refine JL.run (.yes rfl (ltB rfl) rfl hc3) (op_fieldAddr (off := 0) lb tf29_0 (.tmp rfl)) ?_
   refine JL.run (.yes rfl (ltB rfl) rfl hc3) (op_loadS (j := 0) lb tS3 (.tmp rfl) rfl (cT (comp_api_Dot_Region d_1) rfl) rfl rfl) ?_
   replace hx1 := lt1_inv hx1
   obtain ⟨v_4, hv_v_4, hx1⟩ := hx1
   refine JL.run (.yes rfl (ltB rfl) rfl hc3) (op_cmpI lb (.tmp rfl) .cI (congrArg some hv_v_4)) ?_
   refine jc (op_pickT lb (.tmp rfl) hc3 (.tmp rfl)) ?_
   refine JL.sub ⟨[(1, ov (PTR gb_2 0)), (2, ov (S rB false)), (10, ov (S rB v_4))], [cvar gb_2 r_api_Dot d_1], []⟩ (.cons rfl (.cons rfl (.cons rfl .nil))) rfl rfl ?_
   refine jmv rfl rfl ?_
   replace hx1 := iteB_inv hx1
   rcases hx1 with ⟨hc5, hx1⟩ | ⟨hc5, hx1⟩
   · refine JL.run (.yes rfl (ltB rfl) rfl hc5) (op_fieldAddr (off := 1) lb tf29_1 (.tmp rfl)) ?_
     refine JL.run (.yes rfl (ltB rfl) rfl hc5) (op_loadS (j := 0) lb tS27 (.tmp rfl) rfl (cT (comp_api_Dot_Count d_1) rfl) rfl rfl) ?_
     replace hx1 := lt1_inv hx1
     obtain ⟨v_5, hv_v_5, hx1⟩ := hx1
     refine JL.run (.yes rfl (ltB rfl) rfl hc5) (op_cmpU lb (.tmp rfl) (HasO.cU (x := (1 : UInt64)) rfl (by decide)) (congrArg some hv_v_5)) ?_
     refine jc (op_pickT lb (.tmp rfl) hc5 (.tmp rfl)) <| jmv rfl rfl ?_
     replace hx1 := iteB_inv hx1
     rcases hx1 with ⟨hc7, hx1⟩ | ⟨hc7, hx1⟩
     · refine JL.run (.yes rfl (ltB rfl) rfl hc7) (op_fieldAddr (off := 1) lb tf29_1 (.tmp rfl)) ?_
       refine JL.run (.yes rfl (ltB rfl) rfl hc7) (op_loadS (j := 0) lb tS27 (.tmp rfl) rfl (cT (comp_api_Dot_Count d_1) rfl) rfl rfl) ?_
       replace hx1 := lt1_inv hx1
       obtain ⟨v_6, hv_v_6, hx1⟩ := hx1
       refine JL.run (.yes rfl (ltB rfl) rfl hc7) (op_cmpU lb (.tmp rfl) (HasO.cU (x := (4611686018427387904 : UInt64)) rfl (by decide)) (congrArg some hv_v_6)) ?_
       refine jc (op_pickT lb (.tmp rfl) hc7 (.tmp rfl)) <| jc (op_assign lb (.tmp rfl)) <| JL.nil ?_
       replace hx1 := Option.some.inj hx1
       first | subst hx1 | clear hx1
       exact JQ.join () (Imp.norm (js := []) rfl (.cons rfl .nil))
     refine JL.sk (.no rfl (ltB rfl) rfl hc7) <| JL.sk (.no rfl (ltB rfl) rfl hc7) <| JL.sk (.no rfl (ltB rfl) rfl hc7) <| jc (op_pickF lb (.tmp rfl) hc7 .cB) <| jc (op_assign lb (.tmp rfl)) ?_
     refine JL.nil ?_
     replace hx1 := Option.some.inj hx1
     first | subst hx1 | clear hx1
     exact JQ.join () (Imp.norm (js := []) rfl (.cons rfl .nil))
   refine JL.sk (.no rfl (ltB rfl) rfl hc5) <| JL.sk (.no rfl (ltB rfl) rfl hc5) <| JL.sk (.no rfl (ltB rfl) rfl hc5) <| jc (op_pickF lb (.tmp rfl) hc5 .cB) <| jmv rfl rfl ?_
   refine JL.sk (.no rfl (ltB rfl) rfl rfl) <| JL.sk (.no rfl (ltB rfl) rfl rfl) <| JL.sk (.no rfl (ltB rfl) rfl rfl) <| jc (op_pickF lb (.tmp rfl) rfl .cB) <| jc (op_assign lb (.tmp rfl)) ?_
   refine JL.nil ?_
   replace hx1 := Option.some.inj hx1
   first | subst hx1 | clear hx1
   exact JQ.join () (Imp.norm (js := []) rfl (.cons rfl .nil))
 refine JL.sk (.no rfl (ltB rfl) rfl hc3) <| JL.sk (.no rfl (ltB rfl) rfl hc3) <| JL.sk (.no rfl (ltB rfl) rfl hc3) <| jc (op_pickF lb (.tmp rfl) hc3 .cB) <| jmv rfl rfl ?_
 refine JL.sk (.no rfl (ltB rfl) rfl rfl) <| JL.sk (.no rfl (ltB rfl) rfl rfl) <| JL.sk (.no rfl (ltB rfl) rfl rfl) <| jc (op_pickF lb (.tmp rfl) rfl .cB) <| jmv rfl rfl ?_
 refine JL.sub ⟨[(1, ov (PTR gb_2 0)), (2, ov (S rB false)), (16, ov (S rB false))], [cvar gb_2 r_api_Dot d_1], []⟩ (.cons rfl (.cons rfl (.cons rfl .nil))) rfl rfl ?_
 refine JL.sk (.no rfl (ltB rfl) rfl rfl) <| JL.sk (.no rfl (ltB rfl) rfl rfl) <| JL.sk (.no rfl (ltB rfl) rfl rfl) <| jc (op_pickF lb (.tmp rfl) rfl .cB) <| jc (op_assign lb (.tmp rfl)) ?_
 refine JL.nil ?_
 replace hx1 := Option.some.inj hx1
 first | subst hx1 | clear hx1
 exact JQ.join () (Imp.norm (js := []) rfl (.cons rfl .nil))

theorem sim_event_mayVector_1 (k : Nat) (n_1 : UInt64) (r : Bool) (hm : event_mayVector_1 k n_1 = some r) : Sim Try.prog 88 [S (rU UInt64) n_1] [] (γ := Unit) (fun q => []) (fun q => .one (.val (S rB r))) := by
 unfold event_mayVector_1 at hm
 refine Sim.of Try.func88 rfl rfl (lE rfl) (fun e0 w0 => ?_)
 refine JC.at ⟨[(0, ov (S (rU UInt64) n_1))], [], []⟩ ?_
 refine jr <| jc (op_assign lb .cB) <| jn <| jr <| jmv rfl rfl ?_
 replace hm := lt1_inv hm
 obtain ⟨v_2, hv_v_2, hm⟩ := hm
 refine jc (op_cmpU lb (.tmp rfl) (HasO.cU (x := (4611686018427387904 : UInt64)) rfl (by decide)) (congrArg some hv_v_2)) <| jc (op_assign lb (.tmp rfl)) <| jn ?_
 refine JC.ret ?_
 replace hm := Option.some.inj hm
 subst hm
 exact JQ.done (js := []) (ss := [.val (S rB v_2)]) () (.inl rfl) (.nil rfl) rfl (.cons (.tmp rfl) .nil) rfl rfl rfl

theorem sim_slices_IndexFuncuint64_uint64 (k : Nat) (s_1 : (List UInt64)) (r : Int) (hm : slices_IndexFuncuint64_uint64 k s_1 = some r) : Sim Try.prog 65 [S (rL (rU UInt64)) s_1, CLO 88 []] [] (γ := Unit) (fun q => []) (fun q => .one (.val (S (rI .i64) r))) := by
 unfold slices_IndexFuncuint64_uint64 at hm
 refine Sim.of Try.func65 rfl rfl (lE rfl) (fun e0 w0 => ?_)
 refine JC.at ⟨[(0, ov (S (rL (rU UInt64)) s_1)), (1, ov (CLO 88 []))], [], []⟩ ?_
 refine jr <| jc (op_assign lb .cI) <| jn ?_
 replace hm := bnd_inv hm
 obtain ⟨tv1, hx1, hq1⟩ := hm
 refine JC.seqK (α := Unit) (γ := Unit) (stj := fun v q => ⟨[], [], []⟩) (p := fun v => tv1 = (.inl v)) (fun v q hv => ?_) ?_
 · subst hv
   skip
   obtain _ := q
   dsimp only at hq1
   refine JC.at ⟨[], [], []⟩ ?_
   refine jr <| jc (op_assign lb .cI) <| jn ?_
   refine JC.ret ?_
   replace hq1 := Option.some.inj hq1
   subst hq1
   exact JQ.done (js := []) (ss := [.val (S (rI .i64) (-1 : Int))]) () (.inl rfl) (.nil rfl) rfl (.cons (.tmp rfl) .nil) rfl rfl rfl
 refine jr <| jmv rfl rfl <| jc (op_lenL lb tu82 (.tmp rfl)) <| jc (op_move lb .cI) <| jn ?_
 refine JC.block ?_
 replace hx1 := bnd_inv hx1
 obtain ⟨tv2, hL2, hq2⟩ := hx1
 refine JC.pre ?_ (JC.loop (γ := Unit) (stf := fun s q => ⟨[(0, ov (S (rL (rU UInt64)) s_1)), (1, ov (CLO 88 [])), (7, ov (S (rI .i64) (List.length s_1 : Int))), (8, ov (S (rI .i64) s))], [], []⟩) (q := ()) hL2 ?_)
 · exact (Imp.norm (js := []) rfl (.cons rfl (.cons rfl (.cons rfl (.cons rfl .nil)))))
 intro x_2 q x hx hr
 obtain _ := q
 change slices_IndexFuncuint64_uint64.b1 k s_1 x_2 = some x at hx
 unfold slices_IndexFuncuint64_uint64.b1 at hx
 refine JC.at ⟨[(0, ov (S (rL (rU UInt64)) s_1)), (1, ov (CLO 88 [])), (7, ov (S (rI .i64) (List.length s_1 : Int))), (8, ov (S (rI .i64) x_2))], [], []⟩ ?_
 refine jr ?_
 replace hx := lt1_inv hx
 obtain ⟨v_3, hv_v_3, hx⟩ := hx
 refine jc (op_cmpI lb (.tmp rfl) (.tmp rfl) (congrArg some hv_v_3)) <| jn <| JC.seq ?_
 replace hx := iteB_inv hx
 rcases hx with ⟨hc3, hx⟩ | ⟨hc3, hx⟩
 · refine JC.condT (.tmp rfl) hc3 ?_
   refine JC.skip ?_
   refine JQ.then <| JC.seq <| JC.block <| jr <| jmv rfl rfl ?_
   refine jc (op_assign lb (.tmp rfl)) <| jn <| jr <| jmv rfl rfl <| jmv rfl rfl ?_
   refine jmv rfl rfl ?_
   replace hx := bnd_inv hx
   obtain ⟨v_4, hv_v_4, hx⟩ := hx
   refine jc (op_indexAddrLg lb tu82 tz27 (.tmp rfl) (.tmp rfl) hv_v_4) <| jc (op_loadPSg lb tS27 rfl (.tmp rfl) rfl) ?_
   replace hx := bnd_inv hx
   obtain ⟨v_5, hv_v_5, hx⟩ := hx
   refine jx (op_call (js := []) ld cl88 (sim_event_mayVector_1 k v_4 v_5 hv_v_5) (.tmp rfl) (.cons (.tmp rfl) .nil) rfl) (fun _ => ?_)
   refine jn ?_
   replace hx := iteB_inv hx
   rcases hx with ⟨hc4, hx⟩ | ⟨hc4, hx⟩
   · refine JC.condT (.tmp rfl) hc4 ?_
     refine jr <| jmv rfl rfl <| jc (op_assign lb (.tmp rfl)) <| jn ?_
     refine JC.ret ?_
     refine JQ.outRB ?_
     refine JQ.outR ?_
     replace hx := Option.some.inj hx
     first | subst hx | clear hx
     have ht := hr _ rfl
     clear hr
     first | subst ht | clear ht
     dsimp only at hq2
     refine JQ.outR ?_
     refine JQ.outRB ?_
     replace hq2 := Option.some.inj hq2
     first | subst hq2 | clear hq2
     dsimp only at hq1
     refine JQ.outR ?_
     replace hq1 := Option.some.inj hq1
     subst hq1
     exact JQ.done (js := []) (ss := [.val (S (rI .i64) x_2)]) () (.inl rfl) (.nil rfl) rfl (.cons (.tmp rfl) .nil) rfl rfl rfl
   refine JC.condF (.tmp rfl) hc4 ?_
   refine JC.skip ?_
   refine JQ.outNB ?_
   refine JQ.then <| JC.region ?_
   replace hx := lt1_inv hx
   obtain ⟨v_6, hv_v_6, hx⟩ := hx
   refine jc (op_arI lb (.tmp rfl) .cI (congrArg some hv_v_6)) <| jmv rfl rfl <| JL.nil ?_
   replace hx := Option.some.inj hx
   first | subst hx | clear hx
   exact JQ.next () rfl (Imp.norm (js := []) rfl (.cons rfl (.cons rfl (.cons rfl (.cons rfl .nil)))))
 refine JC.condF (.tmp rfl) hc3 ?_
 refine JC.exit ?_
 refine JQ.outX ?_
 replace hx := Option.some.inj hx
 first | subst hx | clear hx
 have ht := hr _ rfl
 clear hr
 first | subst ht | clear ht
 dsimp only at hq2
 refine JQ.outX ?_
 refine JQ.here ?_
 replace hq2 := Option.some.inj hq2
 first | subst hq2 | clear hq2
 exact JQ.joinK () () rfl (Imp.norm (js := []) rfl .nil)

theorem sim_slices_ContainsFuncuint64_uint64 (k : Nat) (s_1 : (List UInt64)) (r : Bool) (hm : slices_ContainsFuncuint64_uint64 k s_1 = some r) : Sim Try.prog 26 [S (rL (rU UInt64)) s_1, CLO 88 []] [] (γ := Unit) (fun q => []) (fun q => .one (.val (S rB r))) := by
 unfold slices_ContainsFuncuint64_uint64 at hm
 refine Sim.of Try.func26 rfl rfl (lE rfl) (fun e0 w0 => ?_)
 refine JC.at ⟨[(0, ov (S (rL (rU UInt64)) s_1)), (1, ov (CLO 88 []))], [], []⟩ ?_
 refine jr <| jc (op_assign lb .cB) <| jn <| jr <| jmv rfl rfl ?_
 refine jmv rfl rfl ?_
 replace hm := bnd_inv hm
 obtain ⟨v_2, hv_v_2, hm⟩ := hm
 refine jx (op_call (js := []) ld cl65 (sim_slices_IndexFuncuint64_uint64 k s_1 v_2 hv_v_2) .func (.cons (.tmp rfl) (.cons (.tmp rfl) .nil)) rfl) (fun _ => ?_)
 replace hm := lt1_inv hm
 obtain ⟨v_3, hv_v_3, hm⟩ := hm
 refine jc (op_cmpI lb (.tmp rfl) .cI (congrArg some hv_v_3)) <| jc (op_assign lb (.tmp rfl)) <| jn ?_
 refine JC.ret ?_
 replace hm := Option.some.inj hm
 subst hm
 exact JQ.done (js := []) (ss := [.val (S rB v_3)]) () (.inl rfl) (.nil rfl) rfl (.cons (.tmp rfl) .nil) rfl rfl rfl

theorem sim_event_mayVector (k : Nat) (v_1 : (Vector UInt64 16)) (r : Bool) (hm : event_mayVector k v_1 = some r) : Sim Try.prog 63 [A (rV 16 (rU UInt64)) v_1] [] (γ := Unit) (fun q => []) (fun q => .one (.val (S rB r))) := by
 unfold event_mayVector at hm
 refine Sim.of Try.func63 rfl rfl (lE rfl) (fun e0 w0 => ?_)
 refine JC.at ⟨[(0, ov (A (rV 16 (rU UInt64)) v_1))], [], []⟩ ?_
 refine jr ?_
 refine jx (op_boxA lb (.tmp rfl)) (fun q => ?_)
 obtain ⟨gb_2, hqq⟩ : ∃ z, z = q := ⟨_, rfl⟩
 subst hqq
 refine jc (op_assign lb .cB) <| jn <| jr ?_
 replace hm := bnd_inv hm
 obtain ⟨v_3, hv_v_3, hm⟩ := hm
 refine JL.pre (Imp.frzVar (j := 0) rfl (ImpK.slotP (s := 1) rfl (Comp.self (rV 16 (rU UInt64)) v_1) ImpK.refl)) ?_
 refine jc (op_sliceP lb tu40 tz27 (.tmp rfl) .none .none hv_v_3) ?_
 replace hm := bnd_inv hm
 obtain ⟨v_4, hv_v_4, hm⟩ := hm
 refine jx (op_call (js := []) ld cl26 (sim_slices_ContainsFuncuint64_uint64 k v_3 v_4 hv_v_4) .func (.cons (.tmp rfl) (.cons .func .nil)) rfl) (fun _ => ?_)
 replace hm := lt1_inv hm
 obtain ⟨v_5, hv_v_5, hm⟩ := hm
 refine jc (op_not lb (.tmp rfl) hv_v_5) <| jc (op_assign lb (.tmp rfl)) <| jn ?_
 refine JC.ret ?_
 replace hm := Option.some.inj hm
 subst hm
 exact JQ.done (js := []) (ss := [.val (S rB v_5)]) () (.inl rfl) (.nil rfl) rfl (.cons (.tmp rfl) .nil) rfl rfl rfl

theorem sim_cmp_isNaNint (k : Nat) (x_1 : Int) (r : Bool) (hm : cmp_isNaNint k x_1 = some r) : Sim Try.prog 99 [S (rI .i64) x_1] [] (γ := Unit) (fun q => []) (fun q => .one (.val (S rB r))) := by
 unfold cmp_isNaNint at hm
 refine Sim.of Try.func99 rfl rfl (lE rfl) (fun e0 w0 => ?_)
 refine JC.at ⟨[(0, ov (S (rI .i64) x_1))], [], []⟩ ?_
 refine jr <| jc (op_assign lb .cB) <| jn <| jr <| jmv rfl rfl ?_
 refine jmv rfl rfl ?_
 replace hm := lt1_inv hm
 obtain ⟨v_2, hv_v_2, hm⟩ := hm
 refine jc (op_cmpI lb (.tmp rfl) (.tmp rfl) (congrArg some hv_v_2)) <| jc (op_assign lb (.tmp rfl)) <| jn ?_
 refine JC.ret ?_
 replace hm := Option.some.inj hm
 subst hm
 exact JQ.done (js := []) (ss := [.val (S rB v_2)]) () (.inl rfl) (.nil rfl) rfl (.cons (.tmp rfl) .nil) rfl rfl rfl

theorem sim_cmp_Compareint (k : Nat) (x_1 : Int) (y_2 : Int) (r : Int) (hm : cmp_Compareint k x_1 y_2 = some r) : Sim Try.prog 90 [S (rI .i64) x_1, S (rI .i64) y_2] [] (γ := Unit) (fun q => []) (fun q => .one (.val (S (rI .i64) r))) := by
 unfold cmp_Compareint at hm
 refine Sim.of Try.func90 rfl rfl (lE rfl) (fun e0 w0 => ?_)
 refine JC.at ⟨[(0, ov (S (rI .i64) x_1)), (1, ov (S (rI .i64) y_2))], [], []⟩ ?_
 refine jr <| jc (op_assign lb .cI) <| jn <| jr <| jmv rfl rfl ?_
 replace hm := bnd_inv hm
 obtain ⟨v_3, hv_v_3, hm⟩ := hm
 refine jx (op_call (js := []) ld cl99 (sim_cmp_isNaNint k x_1 v_3 hv_v_3) .func (.cons (.tmp rfl) .nil) rfl) (fun _ => ?_)
 refine jc (op_assign lb (.tmp rfl)) <| jn <| jr <| jmv rfl rfl ?_
 replace hm := bnd_inv hm
 obtain ⟨v_4, hv_v_4, hm⟩ := hm
 refine jx (op_call (js := []) ld cl99 (sim_cmp_isNaNint k y_2 v_4 hv_v_4) .func (.cons (.tmp rfl) .nil) rfl) (fun _ => ?_)
 refine jc (op_assign lb (.tmp rfl)) <| jn <| JC.seq <| jr <| jmv rfl rfl ?_
 refine jn ?_
 replace hm := iteB_inv hm
 rcases hm with ⟨hc1, hm⟩ | ⟨hc1, hm⟩
 · refine JC.condT (.tmp rfl) hc1 ?_
   refine JC.seq <| jr <| jmv rfl rfl <| jn ?_
   replace hm := iteB_inv hm
   rcases hm with ⟨hc2, hm⟩ | ⟨hc2, hm⟩
   · refine JC.condT (.tmp rfl) hc2 ?_
     refine jr <| jc (op_assign lb .cI) <| jn ?_
     refine JC.ret ?_
     refine JQ.outR ?_
     refine JQ.outR ?_
     replace hm := Option.some.inj hm
     subst hm
     exact JQ.done (js := []) (ss := [.val (S (rI .i64) (0 : Int))]) () (.inl rfl) (.nil rfl) rfl (.cons (.tmp rfl) .nil) rfl rfl rfl
   refine JC.condF (.tmp rfl) hc2 ?_
   refine JC.skip ?_
   refine JQ.then <| jr <| jc (op_assign lb .cI) <| jn ?_
   refine JC.ret ?_
   refine JQ.outR ?_
   replace hm := Option.some.inj hm
   subst hm
   exact JQ.done (js := []) (ss := [.val (S (rI .i64) (-1 : Int))]) () (.inl rfl) (.nil rfl) rfl (.cons (.tmp rfl) .nil) rfl rfl rfl
 refine JC.condF (.tmp rfl) hc1 ?_
 refine JC.skip ?_
 refine JQ.then <| JC.seq <| jr <| jmv rfl rfl <| jn ?_
 replace hm := iteB_inv hm
 rcases hm with ⟨hc3, hm⟩ | ⟨hc3, hm⟩
 · refine JC.condT (.tmp rfl) hc3 ?_
   refine jr <| jc (op_assign lb .cI) <| jn ?_
   refine JC.ret ?_
   refine JQ.outR ?_
   replace hm := Option.some.inj hm
   subst hm
   exact JQ.done (js := []) (ss := [.val (S (rI .i64) (1 : Int))]) () (.inl rfl) (.nil rfl) rfl (.cons (.tmp rfl) .nil) rfl rfl rfl
 refine JC.condF (.tmp rfl) hc3 ?_
 refine JC.skip ?_
 refine JQ.then <| JC.seq <| jr <| jmv rfl rfl <| jmv rfl rfl ?_
 replace hm := lt1_inv hm
 obtain ⟨v_5, hv_v_5, hm⟩ := hm
 refine jc (op_cmpI lb (.tmp rfl) (.tmp rfl) (congrArg some hv_v_5)) ?_
 refine JL.sub ⟨[(0, ov (S (rI .i64) x_1)), (1, ov (S (rI .i64) y_2)), (16, ov (S rB v_5))], [], []⟩ (.cons rfl (.cons rfl (.cons rfl .nil))) rfl rfl ?_
 refine jn ?_
 replace hm := iteB_inv hm
 rcases hm with ⟨hc4, hm⟩ | ⟨hc4, hm⟩
 · refine JC.condT (.tmp rfl) hc4 ?_
   refine jr <| jc (op_assign lb .cI) <| jn ?_
   refine JC.ret ?_
   refine JQ.outR ?_
   replace hm := Option.some.inj hm
   subst hm
   exact JQ.done (js := []) (ss := [.val (S (rI .i64) (-1 : Int))]) () (.inl rfl) (.nil rfl) rfl (.cons (.tmp rfl) .nil) rfl rfl rfl
 refine JC.condF (.tmp rfl) hc4 ?_
 refine JC.skip ?_
 refine JQ.then <| JC.seq <| jr <| jmv rfl rfl <| jmv rfl rfl ?_
 replace hm := lt1_inv hm
 obtain ⟨v_6, hv_v_6, hm⟩ := hm
 refine jc (op_cmpI lb (.tmp rfl) (.tmp rfl) (congrArg some hv_v_6)) <| jn ?_
 replace hm := iteB_inv hm
 rcases hm with ⟨hc5, hm⟩ | ⟨hc5, hm⟩
 · refine JC.condT (.tmp rfl) hc5 ?_
   refine jr <| jc (op_assign lb .cI) <| jn ?_
   refine JC.ret ?_
   refine JQ.outR ?_
   replace hm := Option.some.inj hm
   subst hm
   exact JQ.done (js := []) (ss := [.val (S (rI .i64) (1 : Int))]) () (.inl rfl) (.nil rfl) rfl (.cons (.tmp rfl) .nil) rfl rfl rfl
 refine JC.condF (.tmp rfl) hc5 ?_
 refine JC.skip ?_
 refine JQ.then <| jr <| jc (op_assign lb .cI) <| jn ?_
 refine JC.ret ?_
 replace hm := Option.some.inj hm
 subst hm
 exact JQ.done (js := []) (ss := [.val (S (rI .i64) (0 : Int))]) () (.inl rfl) (.nil rfl) rfl (.cons (.tmp rfl) .nil) rfl rfl rfl

theorem sim_cmp_isNaNuint64 (k : Nat) (x_1 : UInt64) (r : Bool) (hm : cmp_isNaNuint64 k x_1 = some r) : Sim Try.prog 100 [S (rU UInt64) x_1] [] (γ := Unit) (fun q => []) (fun q => .one (.val (S rB r))) := by
 unfold cmp_isNaNuint64 at hm
 refine Sim.of Try.func100 rfl rfl (lE rfl) (fun e0 w0 => ?_)
 refine JC.at ⟨[(0, ov (S (rU UInt64) x_1))], [], []⟩ ?_
 refine jr <| jc (op_assign lb .cB) <| jn <| jr <| jmv rfl rfl ?_
 refine jmv rfl rfl ?_
 replace hm := lt1_inv hm
 obtain ⟨v_2, hv_v_2, hm⟩ := hm
 refine jc (op_cmpU lb (.tmp rfl) (.tmp rfl) (congrArg some hv_v_2)) <| jc (op_assign lb (.tmp rfl)) <| jn ?_
 refine JC.ret ?_
 replace hm := Option.some.inj hm
 subst hm
 exact JQ.done (js := []) (ss := [.val (S rB v_2)]) () (.inl rfl) (.nil rfl) rfl (.cons (.tmp rfl) .nil) rfl rfl rfl

theorem sim_cmp_Compareuint64 (k : Nat) (x_1 : UInt64) (y_2 : UInt64) (r : Int) (hm : cmp_Compareuint64 k x_1 y_2 = some r) : Sim Try.prog 91 [S (rU UInt64) x_1, S (rU UInt64) y_2] [] (γ := Unit) (fun q => []) (fun q => .one (.val (S (rI .i64) r))) := by
 unfold cmp_Compareuint64 at hm
 refine Sim.of Try.func91 rfl rfl (lE rfl) (fun e0 w0 => ?_)
 refine JC.at ⟨[(0, ov (S (rU UInt64) x_1)), (1, ov (S (rU UInt64) y_2))], [], []⟩ ?_
 refine jr <| jc (op_assign lb .cI) <| jn <| jr <| jmv rfl rfl ?_
 replace hm := bnd_inv hm
 obtain ⟨v_3, hv_v_3, hm⟩ := hm
 refine jx (op_call (js := []) ld cl100 (sim_cmp_isNaNuint64 k x_1 v_3 hv_v_3) .func (.cons (.tmp rfl) .nil) rfl) (fun _ => ?_)
 refine jc (op_assign lb (.tmp rfl)) <| jn <| jr <| jmv rfl rfl ?_
 replace hm := bnd_inv hm
 obtain ⟨v_4, hv_v_4, hm⟩ := hm
 refine jx (op_call (js := []) ld cl100 (sim_cmp_isNaNuint64 k y_2 v_4 hv_v_4) .func (.cons (.tmp rfl) .nil) rfl) (fun _ => ?_)
 refine jc (op_assign lb (.tmp rfl)) <| jn <| JC.seq <| jr <| jmv rfl rfl ?_
 refine jn ?_
 replace hm := iteB_inv hm
 rcases hm with ⟨hc1, hm⟩ | ⟨hc1, hm⟩
 · refine JC.condT (.tmp rfl) hc1 ?_
   refine JC.seq <| jr <| jmv rfl rfl <| jn ?_
   replace hm := iteB_inv hm
   rcases hm with ⟨hc2, hm⟩ | ⟨hc2, hm⟩
   · refine JC.condT (.tmp rfl) hc2 ?_
     refine jr <| jc (op_assign lb .cI) <| jn ?_
     refine JC.ret ?_
     refine JQ.outR ?_
     refine JQ.outR ?_
     replace hm := Option.some.inj hm
     subst hm
     exact JQ.done (js := []) (ss := [.val (S (rI .i64) (0 : Int))]) () (.inl rfl) (.nil rfl) rfl (.cons (.tmp rfl) .nil) rfl rfl rfl
   refine JC.condF (.tmp rfl) hc2 ?_
   refine JC.skip ?_
   refine JQ.then <| jr <| jc (op_assign lb .cI) <| jn ?_
   refine JC.ret ?_
   refine JQ.outR ?_
   replace hm := Option.some.inj hm
   subst hm
   exact JQ.done (js := []) (ss := [.val (S (rI .i64) (-1 : Int))]) () (.inl rfl) (.nil rfl) rfl (.cons (.tmp rfl) .nil) rfl rfl rfl
 refine JC.condF (.tmp rfl) hc1 ?_
 refine JC.skip ?_
 refine JQ.then <| JC.seq <| jr <| jmv rfl rfl <| jn ?_
 replace hm := iteB_inv hm
 rcases hm with ⟨hc3, hm⟩ | ⟨hc3, hm⟩
 · refine JC.condT (.tmp rfl) hc3 ?_
   refine jr <| jc (op_assign lb .cI) <| jn ?_
   refine JC.ret ?_
   refine JQ.outR ?_
   replace hm := Option.some.inj hm
   subst hm
   exact JQ.done (js := []) (ss := [.val (S (rI .i64) (1 : Int))]) () (.inl rfl) (.nil rfl) rfl (.cons (.tmp rfl) .nil) rfl rfl rfl
 refine JC.condF (.tmp rfl) hc3 ?_
 refine JC.skip ?_
 refine JQ.then <| JC.seq <| jr <| jmv rfl rfl <| jmv rfl rfl ?_
 replace hm := lt1_inv hm
 obtain ⟨v_5, hv_v_5, hm⟩ := hm
 refine jc (op_cmpU lb (.tmp rfl) (.tmp rfl) (congrArg some hv_v_5)) ?_
 refine JL.sub ⟨[(0, ov (S (rU UInt64) x_1)), (1, ov (S (rU UInt64) y_2)), (16, ov (S rB v_5))], [], []⟩ (.cons rfl (.cons rfl (.cons rfl .nil))) rfl rfl ?_
 refine jn ?_
 replace hm := iteB_inv hm
 rcases hm with ⟨hc4, hm⟩ | ⟨hc4, hm⟩
 · refine JC.condT (.tmp rfl) hc4 ?_
   refine jr <| jc (op_assign lb .cI) <| jn ?_
   refine JC.ret ?_
   refine JQ.outR ?_
   replace hm := Option.some.inj hm
   subst hm
   exact JQ.done (js := []) (ss := [.val (S (rI .i64) (-1 : Int))]) () (.inl rfl) (.nil rfl) rfl (.cons (.tmp rfl) .nil) rfl rfl rfl
 refine JC.condF (.tmp rfl) hc4 ?_
 refine JC.skip ?_
 refine JQ.then <| JC.seq <| jr <| jmv rfl rfl <| jmv rfl rfl ?_
 replace hm := lt1_inv hm
 obtain ⟨v_6, hv_v_6, hm⟩ := hm
 refine jc (op_cmpU lb (.tmp rfl) (.tmp rfl) (congrArg some hv_v_6)) <| jn ?_
 replace hm := iteB_inv hm
 rcases hm with ⟨hc5, hm⟩ | ⟨hc5, hm⟩
 · refine JC.condT (.tmp rfl) hc5 ?_
   refine jr <| jc (op_assign lb .cI) <| jn ?_
   refine JC.ret ?_
   refine JQ.outR ?_
   replace hm := Option.some.inj hm
   subst hm
   exact JQ.done (js := []) (ss := [.val (S (rI .i64) (1 : Int))]) () (.inl rfl) (.nil rfl) rfl (.cons (.tmp rfl) .nil) rfl rfl rfl
 refine JC.condF (.tmp rfl) hc5 ?_
 refine JC.skip ?_
 refine JQ.then <| jr <| jc (op_assign lb .cI) <| jn ?_
 refine JC.ret ?_
 replace hm := Option.some.inj hm
 subst hm
 exact JQ.done (js := []) (ss := [.val (S (rI .i64) (0 : Int))]) () (.inl rfl) (.nil rfl) rfl (.cons (.tmp rfl) .nil) rfl rfl rfl

theorem sim_cmp_Orint (k : Nat) (vals_1 : (List Int)) (r : Int) (hm : cmp_Orint k vals_1 = some r) : Sim Try.prog 89 [S (rL (rI .i64)) vals_1] [] (γ := Unit) (fun q => []) (fun q => .one (.val (S (rI .i64) r))) := by
 unfold cmp_Orint at hm
 refine Sim.of Try.func89 rfl rfl (lE rfl) (fun e0 w0 => ?_)
 refine JC.at ⟨[(0, ov (S (rL (rI .i64)) vals_1))], [], []⟩ ?_
 refine jr <| jc (op_assign lb .cI) <| jn <| jr <| jc (op_assign lb .cI) ?_
 refine jn ?_
 replace hm := bnd_inv hm
 obtain ⟨tv1, hx1, hq1⟩ := hm
 refine JC.seqK (α := Unit) (γ := Unit) (stj := fun v q => ⟨[(3, ov (S (rI .i64) (0 : Int)))], [], []⟩) (p := fun v => tv1 = (.inl v)) (fun v q hv => ?_) ?_
 · subst hv
   skip
   obtain _ := q
   dsimp only at hq1
   refine JC.at ⟨[(3, ov (S (rI .i64) (0 : Int)))], [], []⟩ ?_
   refine jr <| jmv rfl rfl <| jc (op_assign lb (.tmp rfl)) <| jn ?_
   refine JC.ret ?_
   replace hq1 := Option.some.inj hq1
   subst hq1
   exact JQ.done (js := []) (ss := [.val (S (rI .i64) (0 : Int))]) () (.inl rfl) (.nil rfl) rfl (.cons (.tmp rfl) .nil) rfl rfl rfl
 refine jr <| jmv rfl rfl <| jc (op_lenL lb tu48 (.tmp rfl)) <| jc (op_move lb .cI) <| jn ?_
 refine JC.block ?_
 replace hx1 := bnd_inv hx1
 obtain ⟨tv2, hL2, hq2⟩ := hx1
 refine JC.pre ?_ (JC.loop (γ := Unit) (stf := fun s q => ⟨[(3, ov (S (rI .i64) (0 : Int))), (6, ov (S (rL (rI .i64)) vals_1)), (7, ov (S (rI .i64) (List.length vals_1 : Int))), (8, ov (S (rI .i64) s))], [], []⟩) (q := ()) hL2 ?_)
 · exact (Imp.norm (js := []) rfl (.cons rfl (.cons rfl (.cons rfl (.cons rfl .nil)))))
 intro x_2 q x hx hr
 obtain _ := q
 change cmp_Orint.b1 k vals_1 x_2 = some x at hx
 unfold cmp_Orint.b1 at hx
 refine JC.at ⟨[(3, ov (S (rI .i64) (0 : Int))), (6, ov (S (rL (rI .i64)) vals_1)), (7, ov (S (rI .i64) (List.length vals_1 : Int))), (8, ov (S (rI .i64) x_2))], [], []⟩ ?_
 refine jr ?_
 replace hx := lt1_inv hx
 obtain ⟨v_3, hv_v_3, hx⟩ := hx
 refine jc (op_cmpI lb (.tmp rfl) (.tmp rfl) (congrArg some hv_v_3)) <| jn <| JC.seq ?_
 replace hx := iteB_inv hx
 rcases hx with ⟨hc3, hx⟩ | ⟨hc3, hx⟩
 · refine JC.condT (.tmp rfl) hc3 ?_
   refine JC.skip ?_
   refine JQ.then <| JC.seq <| JC.block <| jr ?_
   replace hx := bnd_inv hx
   obtain ⟨v_4, hv_v_4, hx⟩ := hx
   refine jc (op_indexAddrLg lb tu48 tz3 (.tmp rfl) (.tmp rfl) hv_v_4) <| jc (op_loadPSg lb tS3 rfl (.tmp rfl) rfl) <| jc (op_assign lb (.tmp rfl)) <| jn <| jr ?_
   refine jmv rfl rfl <| jmv rfl rfl ?_
   replace hx := lt1_inv hx
   obtain ⟨v_5, hv_v_5, hx⟩ := hx
   refine jc (op_cmpI lb (.tmp rfl) (.tmp rfl) (congrArg some hv_v_5)) <| jn ?_
   replace hx := iteB_inv hx
   rcases hx with ⟨hc4, hx⟩ | ⟨hc4, hx⟩
   · refine JC.condT (.tmp rfl) hc4 ?_
     refine jr <| jmv rfl rfl <| jc (op_assign lb (.tmp rfl)) <| jn ?_
     refine JC.ret ?_
     refine JQ.outRB ?_
     refine JQ.outR ?_
     replace hx := Option.some.inj hx
     first | subst hx | clear hx
     have ht := hr _ rfl
     clear hr
     first | subst ht | clear ht
     dsimp only at hq2
     refine JQ.outR ?_
     refine JQ.outRB ?_
     replace hq2 := Option.some.inj hq2
     first | subst hq2 | clear hq2
     dsimp only at hq1
     refine JQ.outR ?_
     replace hq1 := Option.some.inj hq1
     subst hq1
     exact JQ.done (js := []) (ss := [.val (S (rI .i64) v_4)]) () (.inl rfl) (.nil rfl) rfl (.cons (.tmp rfl) .nil) rfl rfl rfl
   refine JC.condF (.tmp rfl) hc4 ?_
   refine JC.skip ?_
   refine JQ.outNB ?_
   refine JQ.then <| JC.region ?_
   replace hx := lt1_inv hx
   obtain ⟨v_6, hv_v_6, hx⟩ := hx
   refine jc (op_arI lb (.tmp rfl) .cI (congrArg some hv_v_6)) <| jmv rfl rfl <| JL.nil ?_
   replace hx := Option.some.inj hx
   first | subst hx | clear hx
   exact JQ.next () rfl (Imp.norm (js := []) rfl (.cons rfl (.cons rfl (.cons rfl (.cons rfl .nil)))))
 refine JC.condF (.tmp rfl) hc3 ?_
 refine JC.exit ?_
 refine JQ.outX ?_
 replace hx := Option.some.inj hx
 first | subst hx | clear hx
 have ht := hr _ rfl
 clear hr
 first | subst ht | clear ht
 dsimp only at hq2
 refine JQ.outX ?_
 refine JQ.here ?_
 replace hq2 := Option.some.inj hq2
 first | subst hq2 | clear hq2
 exact JQ.joinK () () rfl (Imp.norm (js := []) rfl (.cons rfl .nil))

theorem sim_event_Less (k : Nat) (a_1 : api_Dot) (b_2 : api_Dot) (r : Bool) (hm : event_Less k a_1 b_2 = some r) : Sim Try.prog 64 [A r_api_Dot a_1, A r_api_Dot b_2] [] (γ := Unit) (fun q => []) (fun q => .one (.val (S rB r))) := by
 unfold event_Less at hm
 refine Sim.of Try.func64 rfl rfl (lE rfl) (fun e0 w0 => ?_)
 refine JC.at ⟨[(0, ov (A r_api_Dot a_1)), (1, ov (A r_api_Dot b_2))], [], []⟩ ?_
 refine jr ?_
 refine jx (op_boxA lb (.tmp rfl)) (fun q => ?_)
 obtain ⟨gb_3, hqq⟩ : ∃ z, z = q := ⟨_, rfl⟩
 subst hqq
 refine jx (op_boxA lb (.tmp rfl)) (fun q => ?_)
 obtain ⟨gb_4, hqq⟩ : ∃ z, z = q := ⟨_, rfl⟩
 subst hqq
 refine jc (op_assign lb .cB) <| jn <| JC.seq ?_
 replace hm := bnd_inv hm
 obtain ⟨v_5, hv_v_5, hm⟩ := hm
 replace hm := bnd_inv hm
 obtain ⟨v_6, hv_v_6, hm⟩ := hm
 replace hm := bnd_inv hm
 obtain ⟨v_7, hv_v_7, hm⟩ := hm
 replace hm := lt1_inv hm
 obtain ⟨v_8, hv_v_8, hm⟩ := hm
 refine JC.anyE (kl := []) (kk := 0) (base := [(2, ov (PTR gb_3 0)), (3, ov (PTR gb_4 0))])
     (fs := fun γ => [⟨some 5, ov (PTR gb_3 (0 + 0))⟩, ⟨some 6, ov (S (rI .i64) a_1.Region)⟩, ⟨some 7, ov (PTR gb_4 (0 + 0))⟩, ⟨some 8, ov (S (rI .i64) b_2.Region)⟩, ⟨some 9, ov (S (rI .i64) v_5)⟩, ⟨some 10, ov (PTR gb_3 (0 + 1))⟩, ⟨some 11, ov (S (rU UInt64) a_1.Count)⟩, ⟨some 12, ov (PTR gb_4 (0 + 1))⟩, ⟨some 13, ov (S (rU UInt64) b_2.Count)⟩, ⟨some 14, ov (S (rI .i64) v_6)⟩, ⟨some 15, ov (S (rL (rI .i64)) ([v_5, v_6] : (List Int)))⟩, ⟨some 16, ov (S (rI .i64) v_7)⟩, ⟨some 17, ov (S rB v_8)⟩, ⟨some 4, ov (S rB v_8)⟩])
     (rs := fun γ => [⟨cvar gb_3 r_api_Dot a_1, none, none, [1, 6]⟩, ⟨cvar gb_4 r_api_Dot b_2, none, none, [3, 8]⟩])
     (ds := [5, 6, 7, 8, 9, 10, 11, 12, 13, 14, 15, 16, 17, 4]) (bs := [2, 3]) (afts := [[], [], [], [], [], [], [], [], [], [], [], [], [], []]) (js := [0, 0]) mixed (.cons rfl (.cons rfl .nil)) (fun _ => rfl)
     (by
      refine dS 1 (fun γ ρ B hb hd => op_fieldAddr (off := 0) lb tf29_0 (.tmp (hb 2 _ rfl))) <| dR 2 (fun γ ρ B hb hd => OpStep.lk ⟨ρ, (cvar gb_3 r_api_Dot a_1) :: B, _⟩ (op_loadS (j := 0) lb tS3 (tl hd 0 5) rfl (cT (comp_api_Dot_Region a_1) rfl) rfl rfl)) <| dS 3 (fun γ ρ B hb hd => op_fieldAddr (off := 0) lb tf29_0 (.tmp (hb 3 _ rfl))) <| dR 4 (fun γ ρ B hb hd => OpStep.lk ⟨ρ, (cvar gb_4 r_api_Dot b_2) :: B, _⟩ (op_loadS (j := 0) lb tS3 (tl hd 2 7) rfl (cT (comp_api_Dot_Region b_2) rfl) rfl rfl)) <| dS 5 (fun γ ρ B hb hd => (op_call (js := []) ld cl90 (sim_cmp_Compareint k a_1.Region b_2.Region v_5 hv_v_5) .func (.cons (tl hd 1 6) (.cons (tl hd 3 8) .nil)) rfl).post (fun _ => Imp.refl)) ?_
      refine dS 6 (fun γ ρ B hb hd => op_fieldAddr (off := 1) lb tf29_1 (.tmp (hb 2 _ rfl))) <| dR 7 (fun γ ρ B hb hd => OpStep.lk ⟨ρ, (cvar gb_3 r_api_Dot a_1) :: B, _⟩ (op_loadS (j := 0) lb tS27 (tl hd 5 10) rfl (cT (comp_api_Dot_Count a_1) rfl) rfl rfl)) <| dS 8 (fun γ ρ B hb hd => op_fieldAddr (off := 1) lb tf29_1 (.tmp (hb 3 _ rfl))) <| dR 9 (fun γ ρ B hb hd => OpStep.lk ⟨ρ, (cvar gb_4 r_api_Dot b_2) :: B, _⟩ (op_loadS (j := 0) lb tS27 (tl hd 7 12) rfl (cT (comp_api_Dot_Count b_2) rfl) rfl rfl)) <| dS 10 (fun γ ρ B hb hd => (op_call (js := []) ld cl91 (sim_cmp_Compareuint64 k a_1.Count b_2.Count v_6 hv_v_6) .func (.cons (tl hd 6 11) (.cons (tl hd 8 13) .nil)) rfl).post (fun _ => Imp.refl)) ?_
      refine dS 11 (fun γ ρ B hb hd => op_buildF (r := (rI .i64)) lb tu48 tz3 tZ3 rfl (lE rfl) (.S rfl (tl hd 4 9) (.S rfl (tl hd 9 14) .nil)) rfl) <| dS 12 (fun γ ρ B hb hd => (op_call (js := []) ld cl89 (sim_cmp_Orint k ([v_5, v_6] : (List Int)) v_7 hv_v_7) .func (.cons (tl hd 10 15) .nil) rfl).post (fun _ => Imp.refl)) <| dS 13 (fun γ ρ B hb hd => op_cmpI lb (tl hd 11 16) .cI (congrArg some hv_v_8)) <| dS 14 (fun γ ρ B hb hd => op_assign lb (tl hd 12 17)) ?_
      exact DSteps.nil)
     (by decide +kernel) (fun _ => rfl) rfl (fun _ => rfl) (fun _ => rfl) rfl (by decide) (by decide) (by decide +kernel) (fun _ d h => by cases h)
     (ρ' := fun γ => [(4, ov (S rB v_8))])
     (X' := fun γ => [cvar gb_3 r_api_Dot a_1, cvar gb_4 r_api_Dot b_2])
     (fun γ ρ hb hd => (.cons (hdq hd 13 4 rfl) .nil)) (fun _ => rfl) (fun γ => ?_)
 refine JQ.at ⟨[(4, ov (S rB v_8))], [cvar gb_3 r_api_Dot a_1, cvar gb_4 r_api_Dot b_2], []⟩ ?_
 refine JQ.then ?_
 refine JC.ret ?_
 replace hm := Option.some.inj hm
 subst hm
 exact JQ.done (js := []) (ss := [.val (S rB v_8)]) () (.inl rfl) (.nil rfl) rfl (.cons (.tmp rfl) .nil) rfl rfl rfl

end Go.Proofs.Ytklnihlchhhhlaa
