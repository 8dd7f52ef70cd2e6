/- Walks. -/
import Derived.Test.YtklnihlchhhhlaaT
import Derived.Test.YtklnihlchhhhlaaW0
import Derived.Test.YtklnihlchhhhlaaW1
import Derived.Test.YtklnihlchhhhlaaW2
import Derived.Test.YtklnihlchhhhlaaW3
import Derived.Test.YtklnihlchhhhlaaW4
import Derived.Test.YtklnihlchhhhlaaW6
namespace Go.Proofs.Ytklnihlchhhhlaa
open Go Fw
set_option linter.unusedVariables false
set_option maxRecDepth 100000
set_option maxHeartbeats 4000000

theorem sim_frame_May (k : Nat) (t_1 : api_Frame) (r : Bool) (hm : frame_May k t_1 = some r) : Sim Try.prog 10 [A r_api_Frame t_1] [] (γ := Unit) (fun q => []) (fun q => .one (.val (S rB r))) := by
 unfold frame_May at hm
 refine Sim.of Try.func10 rfl rfl (lE rfl) (fun e0 w0 => ?_)
 refine JC.at ⟨[(0, ov (A r_api_Frame t_1))], [], []⟩ ?_
 refine jr ?_
 refine jx (op_boxA lb (.tmp rfl)) (fun q => ?_)
 obtain ⟨gb_2, hqq⟩ : ∃ z, z = q := ⟨_, rfl⟩
 subst hqq
 refine jc (op_assign lb .cB) <| jn <| JC.seq ?_
 replace hm := bnd_inv hm
 obtain ⟨x_12, hx1, hq1⟩ := hm
 refine JC.seqJ (γ := Unit) (stj := fun _ => ⟨[(1, ov (PTR gb_2 0)), (41, ov (S rB x_12))], [cvar gb_2 r_api_Frame t_1], []⟩) (fun _ => ?_) ?_
 · replace hq1 := iteB_inv hq1
   rcases hq1 with ⟨hc16, hq1⟩ | ⟨hc16, hq1⟩
   · refine JC.condT (.tmp rfl) hc16 ?_
     refine jr <| jc (op_assign lb .cB) <| jn ?_
     refine JC.ret ?_
     refine JQ.outR ?_
     replace hq1 := Option.some.inj hq1
     subst hq1
     exact JQ.done (js := []) (ss := [.val (S rB false)]) () (.inl rfl) (.nil rfl) rfl (.cons (.tmp rfl) .nil) rfl rfl rfl
   refine JC.condF (.tmp rfl) hc16 ?_
   refine JC.skip ?_
   refine JQ.then <| jr <| jc (op_assign lb .func) <| jn ?_
   replace hq1 := bnd_inv hq1
   obtain ⟨tv17, hx17, hq17⟩ := hq1
   refine JC.seqK (α := Unit) (γ := Unit) (stj := fun v q => ⟨[], [], []⟩) (p := fun v => tv17 = (.inl v)) (fun v q hv => ?_) ?_
   · subst hv
     skip
     obtain _ := q
     dsimp only at hq17
     refine JC.at ⟨[], [], []⟩ ?_
     refine jr <| jc (op_assign lb .cB) <| jn ?_
     refine JC.ret ?_
     replace hq17 := Option.some.inj hq17
     subst hq17
     exact JQ.done (js := []) (ss := [.val (S rB false)]) () (.inl rfl) (.nil rfl) rfl (.cons (.tmp rfl) .nil) rfl rfl rfl
   refine jr <| jc (op_fieldAddr (off := 0) lb tf50_0 (.tmp rfl)) <| jc (op_loadS (j := 0) lb tS38 (.tmp rfl) rfl (cT (comp_api_Frame_Kind t_1) rfl) rfl rfl) <| jn <| JC.block ?_
   refine jr ?_
   replace hx17 := lt1_inv hx17
   obtain ⟨v_13, hv_v_13, hx17⟩ := hx17
   refine jc (op_cmpI lb (.tmp rfl) .cI (congrArg some hv_v_13)) <| jc (op_assign lb (.tmp rfl)) <| jn ?_
   replace hx17 := iteB_inv hx17
   rcases hx17 with ⟨hc18, hx17⟩ | ⟨hc18, hx17⟩
   · refine JC.condT (.tmp rfl) hc18 ?_
     replace hx17 := bnd_inv hx17
     obtain ⟨x_17, hx19, hq19⟩ := hx17
     refine JC.seqJ (γ := Unit) (stj := fun _ => ⟨[(2, ov (S rB x_17))], [], []⟩) (fun _ => ?_) ?_
     · refine JC.ret ?_
       refine JQ.outRB ?_
       replace hq19 := Option.some.inj hq19
       first | subst hq19 | clear hq19
       dsimp only at hq17
       refine JQ.outR ?_
       replace hq17 := Option.some.inj hq17
       subst hq17
       exact JQ.done (js := []) (ss := [.val (S rB x_17)]) () (.inl rfl) (.nil rfl) rfl (.cons (.tmp rfl) .nil) rfl rfl rfl
     refine JC.region <| jc (op_fieldAddr (off := 3) lb tf50_3 (.tmp rfl)) <| jc (op_loadS (j := 0) lb tS22 (.tmp rfl) rfl (cT (comp_api_Frame_Items t_1) rfl) rfl rfl) <| jc (op_lenL lb tu22 (.tmp rfl)) ?_
     replace hx19 := lt1_inv hx19
     obtain ⟨v_14, hv_v_14, hx19⟩ := hx19
     refine jc (op_cmpI lb (.tmp rfl) .cI (congrArg some hv_v_14)) <| jmv rfl rfl ?_
     refine JL.cnd (sv := ov (A r_api_Frame t_1)) (Guard.isT (ltB rfl) rfl rfl) rfl (ltB rfl) (fun hq_20 => op_loadA (j := 0) lb tA50 (.tmp rfl) rfl (Comp.self r_api_Frame t_1) rfl) ?_
     replace hx19 := bnd_inv hx19
     obtain ⟨v_15, hv_v_15, hx19⟩ := hx19
     refine JL.cnd (sv := ov (S rB v_15)) (Guard.isT (ltB rfl) rfl rfl) rfl (ltB rfl) (fun hq_21 => (op_call (js := []) ld cl24 (sim_frame_items k t_1 v_15 (ifT hv_v_15 hq_21)) .func (.cons (HasO.cnd (.tmp rfl) hq_21) .nil) rfl).post (fun _ => Imp.refl)) ?_
     refine JL.nrm ⟨[(50, ov (S rB v_14)), (52, bif v_14 then ov (S rB v_15) else .one .und)], [], []⟩ [] rfl (.cons rfl (.cons rfl .nil)) rfl ?_
     replace hx19 := lt1_inv hx19
     obtain ⟨v_16, hv_v_16, hx19⟩ := hx19
     refine jc (op_pickCS lb (.tmp rfl) (fun hb22 => (HasO.cnd (.tmp rfl) hb22)) (fun hb22 => .cB) hv_v_16) <| jc (op_assign lb (.tmp rfl)) <| JL.nil ?_
     replace hx19 := Option.some.inj hx19
     first | subst hx19 | clear hx19
     exact JQ.join () (Imp.norm (js := []) rfl (.cons rfl .nil))
   refine JC.condF (.tmp rfl) hc18 ?_
   refine jr ?_
   replace hx17 := lt1_inv hx17
   obtain ⟨v_18, hv_v_18, hx17⟩ := hx17
   refine jc (op_cmpI lb (.tmp rfl) .cI (congrArg some hv_v_18)) <| jc (op_assign lb (.tmp rfl)) <| jn ?_
   replace hx17 := iteB_inv hx17
   rcases hx17 with ⟨hc23, hx17⟩ | ⟨hc23, hx17⟩
   · refine JC.condT (.tmp rfl) hc23 ?_
     refine jr <| jc (op_fieldAddr (off := 4) lb tf50_4 (.tmp rfl)) <| jc (op_loadA (j := 0) lb tA43 (.tmp rfl) rfl (cT (comp_api_Frame_Event t_1) rfl) rfl) ?_
     replace hx17 := bnd_inv hx17
     obtain ⟨v_19, hv_v_19, hx17⟩ := hx17
     refine jx (op_call (js := []) ld cl25 (sim_event_May k t_1.Event v_19 hv_v_19) .func (.cons (.tmp rfl) .nil) rfl) (fun _ => ?_)
     refine jc (op_assign lb (.tmp rfl)) <| jn ?_
     refine JC.ret ?_
     refine JQ.outRB ?_
     replace hx17 := Option.some.inj hx17
     first | subst hx17 | clear hx17
     dsimp only at hq17
     refine JQ.outR ?_
     replace hq17 := Option.some.inj hq17
     subst hq17
     exact JQ.done (js := []) (ss := [.val (S rB v_19)]) () (.inl rfl) (.nil rfl) rfl (.cons (.tmp rfl) .nil) rfl rfl rfl
   refine JC.condF (.tmp rfl) hc23 ?_
   refine jr ?_
   replace hx17 := lt1_inv hx17
   obtain ⟨v_20, hv_v_20, hx17⟩ := hx17
   refine jc (op_cmpI lb (.tmp rfl) .cI (congrArg some hv_v_20)) <| jc (op_assign lb (.tmp rfl)) <| jn ?_
   replace hx17 := iteB_inv hx17
   rcases hx17 with ⟨hc24, hx17⟩ | ⟨hc24, hx17⟩
   · refine JC.condT (.tmp rfl) hc24 ?_
     refine jr <| jc (op_fieldAddr (off := 25) lb tf50_5 (.tmp rfl)) ?_
     replace hx17 := bnd_inv hx17
     obtain ⟨v_21, hv_v_21, hx17⟩ := hx17
     refine JL.pre (Imp.frzVar (j := 0) rfl (ImpK.slotP (s := 1) rfl (Comp.self r_api_Frame t_1) (ImpK.slotP (s := 42) rfl (cT (comp_api_Frame_Kind t_1) rfl) (ImpK.slotP (s := 61) rfl (cT (comp_api_Frame_Past t_1) rfl) ImpK.refl)))) ?_
     refine jc (op_sliceP lb tu40 tz27 (.tmp rfl) .none .none hv_v_21) ?_
     refine JL.sub ⟨[(62, ov (S (rL (rU UInt64)) v_21))], [], []⟩ (.cons rfl .nil) rfl rfl ?_
     replace hx17 := bnd_inv hx17
     obtain ⟨v_22, hv_v_22, hx17⟩ := hx17
     refine jx (op_call (js := []) ld cl26 (sim_slices_ContainsFuncuint64_uint64'2 k v_21 v_22 hv_v_22) .func (.cons (.tmp rfl) (.cons .func .nil)) rfl) (fun _ => ?_)
     replace hx17 := lt1_inv hx17
     obtain ⟨v_23, hv_v_23, hx17⟩ := hx17
     refine jc (op_not lb (.tmp rfl) hv_v_23) <| jc (op_assign lb (.tmp rfl)) <| jn ?_
     refine JC.ret ?_
     refine JQ.outRB ?_
     replace hx17 := Option.some.inj hx17
     first | subst hx17 | clear hx17
     dsimp only at hq17
     refine JQ.outR ?_
     replace hq17 := Option.some.inj hq17
     subst hq17
     exact JQ.done (js := []) (ss := [.val (S rB v_23)]) () (.inl rfl) (.nil rfl) rfl (.cons (.tmp rfl) .nil) rfl rfl rfl
   refine JC.condF (.tmp rfl) hc24 ?_
   refine jr ?_
   replace hx17 := lt1_inv hx17
   obtain ⟨v_24, hv_v_24, hx17⟩ := hx17
   refine jc (op_cmpI lb (.tmp rfl) .cI (congrArg some hv_v_24)) <| jc (op_assign lb (.tmp rfl)) <| jn ?_
   replace hx17 := iteB_inv hx17
   rcases hx17 with ⟨hc25, hx17⟩ | ⟨hc25, hx17⟩
   · refine JC.condT (.tmp rfl) hc25 ?_
     replace hx17 := bnd_inv hx17
     obtain ⟨tv26, hx26, hq26⟩ := hx17
     refine JC.seqK (α := Unit) (γ := Unit) (stj := fun v q => ⟨[(1, ov (PTR gb_2 0))], [cvar gb_2 r_api_Frame t_1], []⟩) (p := fun v => tv26 = (.inl v)) (fun v q hv => ?_) ?_
     · subst hv
       skip
       obtain _ := q
       dsimp only at hq26
       refine JC.at ⟨[(1, ov (PTR gb_2 0))], [cvar gb_2 r_api_Frame t_1], []⟩ ?_
       replace hq26 := bnd_inv hq26
       obtain ⟨x_44, hx40, hq40⟩ := hq26
       refine JC.seqJ (γ := Unit) (stj := fun _ => ⟨[(2, ov (S rB x_44))], [], []⟩) (fun _ => ?_) ?_
       · refine JC.ret ?_
         refine JQ.outRB ?_
         replace hq40 := Option.some.inj hq40
         first | subst hq40 | clear hq40
         dsimp only at hq17
         refine JQ.outR ?_
         replace hq17 := Option.some.inj hq17
         subst hq17
         exact JQ.done (js := []) (ss := [.val (S rB x_44)]) () (.inl rfl) (.nil rfl) rfl (.cons (.tmp rfl) .nil) rfl rfl rfl
       refine JC.region <| jc (op_fieldAddr (off := 58) lb tf50_8 (.tmp rfl)) <| jc (op_loadS (j := 0) lb tS44 (.tmp rfl) rfl (cT (comp_api_Frame_Live t_1) rfl) rfl rfl) <| jc (op_lenL lb tu44 (.tmp rfl)) ?_
       replace hx40 := lt1_inv hx40
       obtain ⟨v_41, hv_v_41, hx40⟩ := hx40
       refine jc (op_cmpI lb (.tmp rfl) .cI (congrArg some hv_v_41)) <| jmv rfl rfl ?_
       refine JL.cnd (sv := ov (A r_api_Frame t_1)) (Guard.isT (ltB rfl) rfl rfl) rfl (ltB rfl) (fun hq_41 => op_loadA (j := 0) lb tA50 (.tmp rfl) rfl (Comp.self r_api_Frame t_1) rfl) ?_
       replace hx40 := bnd_inv hx40
       obtain ⟨v_42, hv_v_42, hx40⟩ := hx40
       refine JL.cnd (sv := ov (S rB v_42)) (Guard.isT (ltB rfl) rfl rfl) rfl (ltB rfl) (fun hq_42 => (op_call (js := []) ld cl30 (sim_frame_seen k t_1 v_42 (ifT hv_v_42 hq_42)) .func (.cons (HasO.cnd (.tmp rfl) hq_42) .nil) rfl).post (fun _ => Imp.refl)) ?_
       replace hx40 := lt1_inv hx40
       obtain ⟨v_43, hv_v_43, hx40⟩ := hx40
       refine jc (op_pickCS lb (.tmp rfl) (fun hb43 => (HasO.cnd (.tmp rfl) hb43)) (fun hb43 => .cB) hv_v_43) <| jc (op_assign lb (.tmp rfl)) <| JL.nil ?_
       replace hx40 := Option.some.inj hx40
       first | subst hx40 | clear hx40
       exact JQ.join () (Imp.norm (js := []) rfl (.cons rfl .nil))
     refine jr <| jc (op_fieldAddr (off := 58) lb tf50_8 (.tmp rfl)) ?_
     refine JL.sub ⟨[(1, ov (PTR gb_2 0)), (3, ov (CLO 23 [])), (67, ov (PTR gb_2 (0 + 58)))], [cvar gb_2 r_api_Frame t_1], []⟩ (.cons rfl (.cons rfl (.cons rfl .nil))) rfl rfl ?_
     refine jc (op_loadS (j := 0) lb tS44 (.tmp rfl) rfl (cT (comp_api_Frame_Live t_1) rfl) rfl rfl) <| jc (op_lenL lb tu44 (.tmp rfl)) <| jc (op_move lb .cI) <| jn <| JC.block ?_
     replace hx26 := bnd_inv hx26
     obtain ⟨tv27, hL27, hq27⟩ := hx26
     refine JC.pre ?_ (JC.loop (γ := Unit) (stf := fun s q => ⟨[(1, ov (PTR gb_2 0)), (3, ov (CLO 23 [])), (68, ov (S (rL r_api_Dot) t_1.Live)), (69, ov (S (rI .i64) (List.length t_1.Live : Int))), (70, ov (S (rI .i64) s))], [cvar gb_2 r_api_Frame t_1], []⟩) (q := ()) hL27 ?_)
     · exact (Imp.norm (js := [0]) rfl (.cons rfl (.cons rfl (.cons rfl (.cons rfl (.cons rfl .nil))))))
     intro x_25 q x hx hr
     obtain _ := q
     change frame_May.b1 k t_1 x_25 = some x at hx
     unfold frame_May.b1 at hx
     refine JC.at ⟨[(1, ov (PTR gb_2 0)), (3, ov (CLO 23 [])), (68, ov (S (rL r_api_Dot) t_1.Live)), (69, ov (S (rI .i64) (List.length t_1.Live : Int))), (70, ov (S (rI .i64) x_25))], [cvar gb_2 r_api_Frame t_1], []⟩ ?_
     refine jr ?_
     replace hx := lt1_inv hx
     obtain ⟨v_26, hv_v_26, hx⟩ := hx
     refine jc (op_cmpI lb (.tmp rfl) (.tmp rfl) (congrArg some hv_v_26)) <| jn <| JC.seq ?_
     replace hx := iteB_inv hx
     rcases hx with ⟨hc28, hx⟩ | ⟨hc28, hx⟩
     · refine JC.condT (.tmp rfl) hc28 ?_
       refine JC.skip ?_
       refine JQ.then <| JC.seq <| JC.block <| jr <| jmv rfl rfl ?_
       replace hx := bnd_inv hx
       obtain ⟨v_27, hv_v_27, hx⟩ := hx
       refine jc (op_indexAddrLg lb tu44 tz29 (.tmp rfl) (.tmp rfl) hv_v_27) <| jc (op_loadPAg lb tA29 (.tmp rfl) rfl) ?_
       refine jx (op_alloc lb tZ29 zr29) (fun q => ?_)
       obtain ⟨gb_28, hqq⟩ : ∃ z, z = q := ⟨_, rfl⟩
       subst hqq
       refine jc (op_assign lb (.tmp rfl)) <| jc (op_storeA (j := 1) tA29 (.tmp rfl) (.tmp rfl) rfl (UpdR.self (by rfl)) rfl) <| jn ?_
       replace hx := bnd_inv hx
       obtain ⟨x_39, hx29, hq29⟩ := hx
       refine JC.seqJ (γ := Unit) (stj := fun _ => ⟨[(1, ov (PTR gb_2 0)), (3, ov (CLO 23 [])), (68, ov (S (rL r_api_Dot) t_1.Live)), (69, ov (S (rI .i64) (List.length t_1.Live : Int))), (70, ov (S (rI .i64) x_25)), (95, ov (S rB x_39))], [cvar gb_2 r_api_Frame t_1], []⟩) (fun _ => ?_) ?_
       · replace hq29 := iteB_inv hq29
         rcases hq29 with ⟨hc39, hq29⟩ | ⟨hc39, hq29⟩
         · refine JC.condT (.tmp rfl) hc39 ?_
           refine jr <| jc (op_assign lb .cB) <| jn ?_
           refine JC.ret ?_
           refine JQ.outRB ?_
           refine JQ.outR ?_
           replace hq29 := Option.some.inj hq29
           first | subst hq29 | clear hq29
           have ht := hr _ rfl
           clear hr
           first | subst ht | clear ht
           dsimp only at hq27
           refine JQ.outR ?_
           refine JQ.outRB ?_
           replace hq27 := Option.some.inj hq27
           first | subst hq27 | clear hq27
           dsimp only at hq26
           refine JQ.outR ?_
           refine JQ.outRB ?_
           replace hq26 := Option.some.inj hq26
           first | subst hq26 | clear hq26
           dsimp only at hq17
           refine JQ.outR ?_
           replace hq17 := Option.some.inj hq17
           subst hq17
           exact JQ.done (js := []) (ss := [.val (S rB false)]) () (.inl rfl) (.nil rfl) rfl (.cons (.tmp rfl) .nil) rfl rfl rfl
         refine JC.condF (.tmp rfl) hc39 ?_
         refine JC.skip ?_
         refine JQ.outNB ?_
         refine JQ.then <| JC.region ?_
         replace hq29 := lt1_inv hq29
         obtain ⟨v_40, hv_v_40, hq29⟩ := hq29
         refine jc (op_arI lb (.tmp rfl) .cI (congrArg some hv_v_40)) <| jmv rfl rfl <| JL.nil ?_
         replace hq29 := Option.some.inj hq29
         first | subst hq29 | clear hq29
         exact JQ.next () rfl (Imp.norm (js := [0]) rfl (.cons rfl (.cons rfl (.cons rfl (.cons rfl (.cons rfl .nil))))))
       replace hx29 := bnd_inv hx29
       obtain ⟨v_29, hv_v_29, hx29⟩ := hx29
       replace hx29 := lt1_inv hx29
       obtain ⟨v_30, hv_v_30, hx29⟩ := hx29
       replace hx29 := lt1_inv hx29
       obtain ⟨v_31, hv_v_31, hx29⟩ := hx29
       replace hx29 := iteB_inv hx29
       rcases hx29 with ⟨hc36, hx29⟩ | ⟨hc36, hx29⟩
       · refine JC.anyE (kl := []) (kk := 0) (base := [(1, ov (PTR gb_2 0)), (3, ov (CLO 23 [])), (4, ov (S (rI .i64) x_25)), (5, ov (PTR gb_28 0)), (68, ov (S (rL r_api_Dot) t_1.Live)), (69, ov (S (rI .i64) (List.length t_1.Live : Int))), (70, ov (S (rI .i64) x_25))])
             (fs := fun γ => [⟨some 75, ov (A r_api_Dot v_27)⟩, ⟨some 76, ov (S rB v_29)⟩, ⟨some 77, ov (S rB v_30)⟩, ⟨some 78, ov (S rB v_30)⟩, ⟨some 79, bif (!v_30) then ov (CLO 23 []) else .one .und⟩, ⟨some 80, bif (!v_30) then ov (S (rI .i64) x_25) else .one .und⟩, ⟨some 81, bif (!v_30) then ov (S (rI .i64) x_25) else .one .und⟩, ⟨some 82, bif (!v_30) then ov (S rB v_31) else .one .und⟩, ⟨some 83, bif (!v_30) then ov (S rB v_31) else .one .und⟩, ⟨some 84, .one .und⟩, ⟨some 85, .one .und⟩, ⟨some 86, .one .und⟩, ⟨some 87, .one .und⟩, ⟨some 88, .one .und⟩, ⟨some 89, .one .und⟩, ⟨some 90, .one .und⟩, ⟨some 91, .one .und⟩, ⟨some 92, .one .und⟩, ⟨some 93, .one .und⟩, ⟨some 94, .one .und⟩, ⟨some 95, ov (S rB true)⟩])
             (rs := fun γ => [⟨cvar gb_2 r_api_Frame t_1, none, none, []⟩, ⟨cvar gb_28 r_api_Dot v_27, none, none, [0]⟩])
             (ds := [75, 76, 77, 78, 79, 80, 81, 82, 83, 84, 85, 86, 87, 88, 89, 90, 91, 92, 93, 94, 95]) (bs := [1, 3, 4, 5, 68, 69, 70]) (afts := [[], [], [], [], [], [], [], [], [], [], [], [], [], [], [], [], [], [], [], [], []]) (js := [0, 0]) mixed (.cons rfl (.cons rfl (.cons rfl (.cons rfl (.cons rfl (.cons rfl (.cons rfl .nil))))))) (fun _ => rfl)
             (by
      refine dR 1 (fun γ ρ B hb hd => OpStep.lk ⟨ρ, (cvar gb_28 r_api_Dot v_27) :: B, _⟩ (op_loadA (j := 0) lb tA29 (.tmp (hb 5 _ rfl)) rfl (Comp.self r_api_Dot v_27) rfl)) <| dS 2 (fun γ ρ B hb hd => (op_call (js := []) ld cl28 (sim_ctx_May k v_27 v_29 hv_v_29) .func (.cons (tl hd 0 75) .nil) rfl).post (fun _ => Imp.refl)) <| dS 3 (fun γ ρ B hb hd => op_not lb (tl hd 1 76) hv_v_30) <| dS 4 (fun γ ρ B hb hd => op_move lb (tl hd 2 77)) ?_
      refine dC 5 (!v_30) (fun γ => ov (CLO 23 [])) (fun γ ρ B hb hd => ⟨(Guard.isF (ltB rfl) rfl (hl hd 3 78 rfl)), fun hq_30 => op_move lb (.tmp (hb 3 _ rfl))⟩) ?_
      refine dC 6 (!v_30) (fun γ => ov (S (rI .i64) x_25)) (fun γ ρ B hb hd => ⟨(Guard.isF (ltB rfl) rfl (hl hd 3 78 rfl)), fun hq_31 => op_move lb (.tmp (hb 4 _ rfl))⟩) ?_
      refine dC 7 (!v_30) (fun γ => ov (S (rI .i64) x_25)) (fun γ ρ B hb hd => ⟨(Guard.isF (ltB rfl) rfl (hl hd 3 78 rfl)), fun hq_32 => op_move lb (.tmp (hb 4 _ rfl))⟩) ?_
      refine dC 8 (!v_30) (fun γ => ov (S rB v_31)) (fun γ ρ B hb hd => ⟨(Guard.isF (ltB rfl) rfl (hl hd 3 78 rfl)), fun hq_33 => op_cmpI lb (HasO.cnd (tl hd 6 81) (notT (notF hq_33))) .cI (congrArg some hv_v_31)⟩) ?_
      refine dC 9 (!v_30) (fun γ => ov (S rB v_31)) (fun γ ρ B hb hd => ⟨(Guard.isF (ltB rfl) rfl (hl hd 3 78 rfl)), fun hq_34 => op_move lb (HasO.cnd (tl hd 7 82) (notT (notF hq_34)))⟩) ?_
      refine dK 10 (fun γ ρ B hb hd => (Guard.eqB (Guard.cT (q := (!v_30)) (ltB rfl) rfl (hl hd 8 83 rfl)) (andFL (notF' hc36)))) <| dK 11 (fun γ ρ B hb hd => (Guard.eqB (Guard.cT (q := (!v_30)) (ltB rfl) rfl (hl hd 8 83 rfl)) (andFL (notF' hc36)))) <| dK 12 (fun γ ρ B hb hd => (Guard.eqB (Guard.cT (q := (!v_30)) (ltB rfl) rfl (hl hd 8 83 rfl)) (andFL (notF' hc36)))) <| dK 13 (fun γ ρ B hb hd => (Guard.eqB (Guard.cT (q := (!v_30)) (ltB rfl) rfl (hl hd 8 83 rfl)) (andFL (notF' hc36)))) <| dK 14 (fun γ ρ B hb hd => (Guard.eqB (Guard.cT (q := (!v_30)) (ltB rfl) rfl (hl hd 8 83 rfl)) (andFL (notF' hc36)))) ?_
      refine dK 15 (fun γ ρ B hb hd => (Guard.eqB (Guard.cT (q := (!v_30)) (ltB rfl) rfl (hl hd 8 83 rfl)) (andFL (notF' hc36)))) <| dK 16 (fun γ ρ B hb hd => (Guard.eqB (Guard.cT (q := (!v_30)) (ltB rfl) rfl (hl hd 8 83 rfl)) (andFL (notF' hc36)))) <| dK 17 (fun γ ρ B hb hd => (Guard.eqB (Guard.cT (q := (!v_30)) (ltB rfl) rfl (hl hd 8 83 rfl)) (andFL (notF' hc36)))) <| dK 18 (fun γ ρ B hb hd => .no rfl (ltB rfl) (hl hd 3 78 rfl) hc36) <| dK 19 (fun γ ρ B hb hd => .no rfl (ltB rfl) (hl hd 3 78 rfl) hc36) ?_
      refine dK 20 (fun γ ρ B hb hd => .no rfl (ltB rfl) (hl hd 3 78 rfl) hc36) <| dS 21 (fun γ ρ B hb hd => op_pickT lb (tl hd 3 78) hc36 .cB) ?_
      exact DSteps.nil)
             (by decide +kernel) (fun _ => rfl) rfl (fun _ => rfl) (fun _ => rfl) rfl (by decide) (by decide) (by decide +kernel) (fun _ d h => by cases h)
             (ρ' := fun γ => [(1, ov (PTR gb_2 0)), (3, ov (CLO 23 [])), (68, ov (S (rL r_api_Dot) t_1.Live)), (69, ov (S (rI .i64) (List.length t_1.Live : Int))), (70, ov (S (rI .i64) x_25)), (95, ov (S rB true))])
             (X' := fun γ => [cvar gb_2 r_api_Frame t_1, cvar gb_28 r_api_Dot v_27])
             (fun γ ρ hb hd => (.cons (hb 1 _ rfl (by decide)) (.cons (hb 3 _ rfl (by decide)) (.cons (hb 68 _ rfl (by decide)) (.cons (hb 69 _ rfl (by decide)) (.cons (hb 70 _ rfl (by decide)) (.cons (hdq hd 20 95 rfl) .nil))))))) (fun _ => rfl) (fun γ => ?_)
         refine JQ.at ⟨[(1, ov (PTR gb_2 0)), (3, ov (CLO 23 [])), (68, ov (S (rL r_api_Dot) t_1.Live)), (69, ov (S (rI .i64) (List.length t_1.Live : Int))), (70, ov (S (rI .i64) x_25)), (95, ov (S rB true))], [cvar gb_2 r_api_Frame t_1, cvar gb_28 r_api_Dot v_27], []⟩ ?_
         replace hx29 := Option.some.inj hx29
         first | subst hx29 | clear hx29
         exact JQ.join () (Imp.norm (js := [0]) rfl (.cons rfl (.cons rfl (.cons rfl (.cons rfl (.cons rfl (.cons rfl .nil)))))))
       replace hx29 := iteB_inv hx29
       rcases hx29 with ⟨hc38, hx29⟩ | ⟨hc38, hx29⟩
       · replace hx29 := lt1_inv hx29
         obtain ⟨v_32, hv_v_32, hx29⟩ := hx29
         replace hx29 := bnd_inv hx29
         obtain ⟨v_33, hv_v_33, hx29⟩ := hx29
         replace hx29 := bnd_inv hx29
         obtain ⟨v_34, hv_v_34, hx29⟩ := hx29
         replace hx29 := bnd_inv hx29
         obtain ⟨v_35, hv_v_35, hx29⟩ := hx29
         replace hx29 := lt1_inv hx29
         obtain ⟨v_36, hv_v_36, hx29⟩ := hx29
         refine JC.anyE (kl := []) (kk := 0) (base := [(1, ov (PTR gb_2 0)), (3, ov (CLO 23 [])), (4, ov (S (rI .i64) x_25)), (5, ov (PTR gb_28 0)), (68, ov (S (rL r_api_Dot) t_1.Live)), (69, ov (S (rI .i64) (List.length t_1.Live : Int))), (70, ov (S (rI .i64) x_25))])
             (fs := fun γ => [⟨some 75, ov (A r_api_Dot v_27)⟩, ⟨some 76, ov (S rB v_29)⟩, ⟨some 77, ov (S rB v_30)⟩, ⟨some 78, ov (S rB v_30)⟩, ⟨some 79, bif (!v_30) then ov (CLO 23 []) else .one .und⟩, ⟨some 80, bif (!v_30) then ov (S (rI .i64) x_25) else .one .und⟩, ⟨some 81, bif (!v_30) then ov (S (rI .i64) x_25) else .one .und⟩, ⟨some 82, bif (!v_30) then ov (S rB v_31) else .one .und⟩, ⟨some 83, bif (!v_30) then ov (S rB v_31) else .one .und⟩, ⟨some 84, ov (PTR gb_2 (0 + 58))⟩, ⟨some 85, ov (S (rL r_api_Dot) t_1.Live)⟩, ⟨some 86, ov (S (rI .i64) x_25)⟩, ⟨some 87, ov (S (rI .i64) v_32)⟩, ⟨some 88, ov (PT r_api_Dot v_33)⟩, ⟨some 89, ov (A r_api_Dot v_33)⟩, ⟨some 90, ov (A r_api_Dot v_27)⟩, ⟨some 91, ov (S rB v_34)⟩, ⟨some 92, ov (S rB v_34)⟩, ⟨some 93, ov (S rB v_35)⟩, ⟨some 94, ov (S rB v_36)⟩, ⟨some 95, ov (S rB v_36)⟩])
             (rs := fun γ => [⟨cvar gb_2 r_api_Frame t_1, none, none, [10]⟩, ⟨cvar gb_28 r_api_Dot v_27, none, none, [0, 15]⟩])
             (ds := [75, 76, 77, 78, 79, 80, 81, 82, 83, 84, 85, 86, 87, 88, 89, 90, 91, 92, 93, 94, 95]) (bs := [1, 3, 4, 5, 68, 69, 70]) (afts := [[], [], [], [], [], [], [], [], [], [], [], [], [], [], [], [], [], [], [], [], []]) (js := [0, 0]) mixed (.cons rfl (.cons rfl (.cons rfl (.cons rfl (.cons rfl (.cons rfl (.cons rfl .nil))))))) (fun _ => rfl)
             (by
      refine dR 1 (fun γ ρ B hb hd => OpStep.lk ⟨ρ, (cvar gb_28 r_api_Dot v_27) :: B, _⟩ (op_loadA (j := 0) lb tA29 (.tmp (hb 5 _ rfl)) rfl (Comp.self r_api_Dot v_27) rfl)) <| dS 2 (fun γ ρ B hb hd => (op_call (js := []) ld cl28 (sim_ctx_May k v_27 v_29 hv_v_29) .func (.cons (tl hd 0 75) .nil) rfl).post (fun _ => Imp.refl)) <| dS 3 (fun γ ρ B hb hd => op_not lb (tl hd 1 76) hv_v_30) <| dS 4 (fun γ ρ B hb hd => op_move lb (tl hd 2 77)) ?_
      refine dC 5 (!v_30) (fun γ => ov (CLO 23 [])) (fun γ ρ B hb hd => ⟨(Guard.isF (ltB rfl) rfl (hl hd 3 78 rfl)), fun hq_30 => op_move lb (.tmp (hb 3 _ rfl))⟩) ?_
      refine dC 6 (!v_30) (fun γ => ov (S (rI .i64) x_25)) (fun γ ρ B hb hd => ⟨(Guard.isF (ltB rfl) rfl (hl hd 3 78 rfl)), fun hq_31 => op_move lb (.tmp (hb 4 _ rfl))⟩) ?_
      refine dC 7 (!v_30) (fun γ => ov (S (rI .i64) x_25)) (fun γ ρ B hb hd => ⟨(Guard.isF (ltB rfl) rfl (hl hd 3 78 rfl)), fun hq_32 => op_move lb (.tmp (hb 4 _ rfl))⟩) ?_
      refine dC 8 (!v_30) (fun γ => ov (S rB v_31)) (fun γ ρ B hb hd => ⟨(Guard.isF (ltB rfl) rfl (hl hd 3 78 rfl)), fun hq_33 => op_cmpI lb (HasO.cnd (tl hd 6 81) (notT (notF hq_33))) .cI (congrArg some hv_v_31)⟩) ?_
      refine dC 9 (!v_30) (fun γ => ov (S rB v_31)) (fun γ ρ B hb hd => ⟨(Guard.isF (ltB rfl) rfl (hl hd 3 78 rfl)), fun hq_34 => op_move lb (HasO.cnd (tl hd 7 82) (notT (notF hq_34)))⟩) ?_
      refine DSteps.cons (j := 10) rfl (fun _ => rfl) (.run (fun γ ρ B hb hd => ⟨(Guard.eqB (Guard.cT (q := (!v_30)) (ltB rfl) rfl (hl hd 8 83 rfl)) (andI (notT hc36) hc38)), lkB (op_fieldAddr (off := 58) lb tf50_8 (.tmp (hb 1 _ rfl)))⟩)) ?_
      refine DSteps.cons (j := 11) rfl (fun _ => rfl) (.run (fun γ ρ B hb hd => ⟨(Guard.eqB (Guard.cT (q := (!v_30)) (ltB rfl) rfl (hl hd 8 83 rfl)) (andI (notT hc36) hc38)), OpStep.lk ⟨ρ, (cvar gb_2 r_api_Frame t_1) :: B, _⟩ (op_loadS (j := 0) lb tS44 (tl hd 9 84) rfl (cT (comp_api_Frame_Live t_1) rfl) rfl rfl)⟩)) ?_
      refine DSteps.cons (j := 12) rfl (fun _ => rfl) (.run (fun γ ρ B hb hd => ⟨(Guard.eqB (Guard.cT (q := (!v_30)) (ltB rfl) rfl (hl hd 8 83 rfl)) (andI (notT hc36) hc38)), lkB (op_move lb (.tmp (hb 4 _ rfl)))⟩)) ?_
      refine DSteps.cons (j := 13) rfl (fun _ => rfl) (.run (fun γ ρ B hb hd => ⟨(Guard.eqB (Guard.cT (q := (!v_30)) (ltB rfl) rfl (hl hd 8 83 rfl)) (andI (notT hc36) hc38)), lkB (op_arI lb (tl hd 11 86) .cI (congrArg some hv_v_32))⟩)) ?_
      refine DSteps.cons (j := 14) rfl (fun _ => rfl) (.run (fun γ ρ B hb hd => ⟨(Guard.eqB (Guard.cT (q := (!v_30)) (ltB rfl) rfl (hl hd 8 83 rfl)) (andI (notT hc36) hc38)), lkB (op_indexAddrLg lb tu44 tz29 (tl hd 10 85) (tl hd 12 87) hv_v_33)⟩)) ?_
      refine DSteps.cons (j := 15) rfl (fun _ => rfl) (.run (fun γ ρ B hb hd => ⟨(Guard.eqB (Guard.cT (q := (!v_30)) (ltB rfl) rfl (hl hd 8 83 rfl)) (andI (notT hc36) hc38)), lkB (op_loadPAg lb tA29 (tl hd 13 88) rfl)⟩)) ?_
      refine DSteps.cons (j := 16) rfl (fun _ => rfl) (.run (fun γ ρ B hb hd => ⟨(Guard.eqB (Guard.cT (q := (!v_30)) (ltB rfl) rfl (hl hd 8 83 rfl)) (andI (notT hc36) hc38)), OpStep.lk ⟨ρ, (cvar gb_28 r_api_Dot v_27) :: B, _⟩ (op_loadA (j := 0) lb tA29 (.tmp (hb 5 _ rfl)) rfl (Comp.self r_api_Dot v_27) rfl)⟩)) ?_
      refine DSteps.cons (j := 17) rfl (fun _ => rfl) (.run (fun γ ρ B hb hd => ⟨(Guard.eqB (Guard.cT (q := (!v_30)) (ltB rfl) rfl (hl hd 8 83 rfl)) (andI (notT hc36) hc38)), lkB ((op_call (js := []) ld cl29 (sim_ctx_Less k v_33 v_27 v_34 hv_v_34) .func (.cons (tl hd 14 89) (.cons (tl hd 15 90) .nil)) rfl).post (fun _ => Imp.refl))⟩)) ?_
      refine dY 18 (fun γ ρ B hb hd => ⟨.yes rfl (ltB rfl) (hl hd 3 78 rfl) hc36, lkB (op_pickT lb (HasO.cnd (tl hd 8 83) (notT hc36)) hc38 (tl hd 16 91))⟩) <| dY 19 (fun γ ρ B hb hd => ⟨.yes rfl (ltB rfl) (hl hd 3 78 rfl) hc36, lkB ((op_call (js := []) ld cl23 (sim_frame_May_1 k x_25 v_34 v_35 hv_v_35) (HasO.cnd (tl hd 4 79) (notT hc36)) (.cons (HasO.cnd (tl hd 5 80) (notT hc36)) (.cons (tl hd 17 92) .nil)) rfl).post (fun _ => Imp.refl))⟩) <| dY 20 (fun γ ρ B hb hd => ⟨.yes rfl (ltB rfl) (hl hd 3 78 rfl) hc36, lkB (op_not lb (tl hd 18 93) hv_v_36)⟩) <| dS 21 (fun γ ρ B hb hd => op_pickF lb (tl hd 3 78) hc36 (tl hd 19 94)) ?_
      exact DSteps.nil)
             (by decide +kernel) (fun _ => rfl) rfl (fun _ => rfl) (fun _ => rfl) rfl (by decide) (by decide) (by decide +kernel) (fun _ d h => by cases h)
             (ρ' := fun γ => [(1, ov (PTR gb_2 0)), (3, ov (CLO 23 [])), (68, ov (S (rL r_api_Dot) t_1.Live)), (69, ov (S (rI .i64) (List.length t_1.Live : Int))), (70, ov (S (rI .i64) x_25)), (95, ov (S rB v_36))])
             (X' := fun γ => [cvar gb_2 r_api_Frame t_1, cvar gb_28 r_api_Dot v_27])
             (fun γ ρ hb hd => (.cons (hb 1 _ rfl (by decide)) (.cons (hb 3 _ rfl (by decide)) (.cons (hb 68 _ rfl (by decide)) (.cons (hb 69 _ rfl (by decide)) (.cons (hb 70 _ rfl (by decide)) (.cons (hdq hd 20 95 rfl) .nil))))))) (fun _ => rfl) (fun γ => ?_)
         refine JQ.at ⟨[(1, ov (PTR gb_2 0)), (3, ov (CLO 23 [])), (68, ov (S (rL r_api_Dot) t_1.Live)), (69, ov (S (rI .i64) (List.length t_1.Live : Int))), (70, ov (S (rI .i64) x_25)), (95, ov (S rB v_36))], [cvar gb_2 r_api_Frame t_1, cvar gb_28 r_api_Dot v_27], []⟩ ?_
         replace hx29 := Option.some.inj hx29
         first | subst hx29 | clear hx29
         exact JQ.join () (Imp.norm (js := [0]) rfl (.cons rfl (.cons rfl (.cons rfl (.cons rfl (.cons rfl (.cons rfl .nil)))))))
       replace hx29 := bnd_inv hx29
       obtain ⟨v_37, hv_v_37, hx29⟩ := hx29
       replace hx29 := lt1_inv hx29
       obtain ⟨v_38, hv_v_38, hx29⟩ := hx29
       refine JC.anyE (kl := []) (kk := 0) (base := [(1, ov (PTR gb_2 0)), (3, ov (CLO 23 [])), (4, ov (S (rI .i64) x_25)), (5, ov (PTR gb_28 0)), (68, ov (S (rL r_api_Dot) t_1.Live)), (69, ov (S (rI .i64) (List.length t_1.Live : Int))), (70, ov (S (rI .i64) x_25))])
           (fs := fun γ => [⟨some 75, ov (A r_api_Dot v_27)⟩, ⟨some 76, ov (S rB v_29)⟩, ⟨some 77, ov (S rB v_30)⟩, ⟨some 78, ov (S rB v_30)⟩, ⟨some 79, bif (!v_30) then ov (CLO 23 []) else .one .und⟩, ⟨some 80, bif (!v_30) then ov (S (rI .i64) x_25) else .one .und⟩, ⟨some 81, bif (!v_30) then ov (S (rI .i64) x_25) else .one .und⟩, ⟨some 82, bif (!v_30) then ov (S rB v_31) else .one .und⟩, ⟨some 83, bif (!v_30) then ov (S rB v_31) else .one .und⟩, ⟨some 84, .one .und⟩, ⟨some 85, .one .und⟩, ⟨some 86, .one .und⟩, ⟨some 87, .one .und⟩, ⟨some 88, .one .und⟩, ⟨some 89, .one .und⟩, ⟨some 90, .one .und⟩, ⟨some 91, .one .und⟩, ⟨some 92, ov (S rB false)⟩, ⟨some 93, ov (S rB v_37)⟩, ⟨some 94, ov (S rB v_38)⟩, ⟨some 95, ov (S rB v_38)⟩])
           (rs := fun γ => [⟨cvar gb_2 r_api_Frame t_1, none, none, []⟩, ⟨cvar gb_28 r_api_Dot v_27, none, none, [0]⟩])
           (ds := [75, 76, 77, 78, 79, 80, 81, 82, 83, 84, 85, 86, 87, 88, 89, 90, 91, 92, 93, 94, 95]) (bs := [1, 3, 4, 5, 68, 69, 70]) (afts := [[], [], [], [], [], [], [], [], [], [], [], [], [], [], [], [], [], [], [], [], []]) (js := [0, 0]) mixed (.cons rfl (.cons rfl (.cons rfl (.cons rfl (.cons rfl (.cons rfl (.cons rfl .nil))))))) (fun _ => rfl)
           (by
      refine dR 1 (fun γ ρ B hb hd => OpStep.lk ⟨ρ, (cvar gb_28 r_api_Dot v_27) :: B, _⟩ (op_loadA (j := 0) lb tA29 (.tmp (hb 5 _ rfl)) rfl (Comp.self r_api_Dot v_27) rfl)) <| dS 2 (fun γ ρ B hb hd => (op_call (js := []) ld cl28 (sim_ctx_May k v_27 v_29 hv_v_29) .func (.cons (tl hd 0 75) .nil) rfl).post (fun _ => Imp.refl)) <| dS 3 (fun γ ρ B hb hd => op_not lb (tl hd 1 76) hv_v_30) <| dS 4 (fun γ ρ B hb hd => op_move lb (tl hd 2 77)) ?_
      refine dC 5 (!v_30) (fun γ => ov (CLO 23 [])) (fun γ ρ B hb hd => ⟨(Guard.isF (ltB rfl) rfl (hl hd 3 78 rfl)), fun hq_30 => op_move lb (.tmp (hb 3 _ rfl))⟩) ?_
      refine dC 6 (!v_30) (fun γ => ov (S (rI .i64) x_25)) (fun γ ρ B hb hd => ⟨(Guard.isF (ltB rfl) rfl (hl hd 3 78 rfl)), fun hq_31 => op_move lb (.tmp (hb 4 _ rfl))⟩) ?_
      refine dC 7 (!v_30) (fun γ => ov (S (rI .i64) x_25)) (fun γ ρ B hb hd => ⟨(Guard.isF (ltB rfl) rfl (hl hd 3 78 rfl)), fun hq_32 => op_move lb (.tmp (hb 4 _ rfl))⟩) ?_
      refine dC 8 (!v_30) (fun γ => ov (S rB v_31)) (fun γ ρ B hb hd => ⟨(Guard.isF (ltB rfl) rfl (hl hd 3 78 rfl)), fun hq_33 => op_cmpI lb (HasO.cnd (tl hd 6 81) (notT (notF hq_33))) .cI (congrArg some hv_v_31)⟩) ?_
      refine dC 9 (!v_30) (fun γ => ov (S rB v_31)) (fun γ ρ B hb hd => ⟨(Guard.isF (ltB rfl) rfl (hl hd 3 78 rfl)), fun hq_34 => op_move lb (HasO.cnd (tl hd 7 82) (notT (notF hq_34)))⟩) ?_
      refine dK 10 (fun γ ρ B hb hd => (Guard.eqB (Guard.cT (q := (!v_30)) (ltB rfl) rfl (hl hd 8 83 rfl)) (andFR hc38))) <| dK 11 (fun γ ρ B hb hd => (Guard.eqB (Guard.cT (q := (!v_30)) (ltB rfl) rfl (hl hd 8 83 rfl)) (andFR hc38))) <| dK 12 (fun γ ρ B hb hd => (Guard.eqB (Guard.cT (q := (!v_30)) (ltB rfl) rfl (hl hd 8 83 rfl)) (andFR hc38))) <| dK 13 (fun γ ρ B hb hd => (Guard.eqB (Guard.cT (q := (!v_30)) (ltB rfl) rfl (hl hd 8 83 rfl)) (andFR hc38))) <| dK 14 (fun γ ρ B hb hd => (Guard.eqB (Guard.cT (q := (!v_30)) (ltB rfl) rfl (hl hd 8 83 rfl)) (andFR hc38))) ?_
      refine dK 15 (fun γ ρ B hb hd => (Guard.eqB (Guard.cT (q := (!v_30)) (ltB rfl) rfl (hl hd 8 83 rfl)) (andFR hc38))) <| dK 16 (fun γ ρ B hb hd => (Guard.eqB (Guard.cT (q := (!v_30)) (ltB rfl) rfl (hl hd 8 83 rfl)) (andFR hc38))) <| dK 17 (fun γ ρ B hb hd => (Guard.eqB (Guard.cT (q := (!v_30)) (ltB rfl) rfl (hl hd 8 83 rfl)) (andFR hc38))) <| dY 18 (fun γ ρ B hb hd => ⟨.yes rfl (ltB rfl) (hl hd 3 78 rfl) hc36, lkB (op_pickF lb (HasO.cnd (tl hd 8 83) (notT hc36)) hc38 .cB)⟩) <| dY 19 (fun γ ρ B hb hd => ⟨.yes rfl (ltB rfl) (hl hd 3 78 rfl) hc36, lkB ((op_call (js := []) ld cl23 (sim_frame_May_1 k x_25 false v_37 hv_v_37) (HasO.cnd (tl hd 4 79) (notT hc36)) (.cons (HasO.cnd (tl hd 5 80) (notT hc36)) (.cons (tl hd 17 92) .nil)) rfl).post (fun _ => Imp.refl))⟩) ?_
      refine dY 20 (fun γ ρ B hb hd => ⟨.yes rfl (ltB rfl) (hl hd 3 78 rfl) hc36, lkB (op_not lb (tl hd 18 93) hv_v_38)⟩) <| dS 21 (fun γ ρ B hb hd => op_pickF lb (tl hd 3 78) hc36 (tl hd 19 94)) ?_
      exact DSteps.nil)
           (by decide +kernel) (fun _ => rfl) rfl (fun _ => rfl) (fun _ => rfl) rfl (by decide) (by decide) (by decide +kernel) (fun _ d h => by cases h)
           (ρ' := fun γ => [(1, ov (PTR gb_2 0)), (3, ov (CLO 23 [])), (68, ov (S (rL r_api_Dot) t_1.Live)), (69, ov (S (rI .i64) (List.length t_1.Live : Int))), (70, ov (S (rI .i64) x_25)), (95, ov (S rB v_38))])
           (X' := fun γ => [cvar gb_2 r_api_Frame t_1, cvar gb_28 r_api_Dot v_27])
           (fun γ ρ hb hd => (.cons (hb 1 _ rfl (by decide)) (.cons (hb 3 _ rfl (by decide)) (.cons (hb 68 _ rfl (by decide)) (.cons (hb 69 _ rfl (by decide)) (.cons (hb 70 _ rfl (by decide)) (.cons (hdq hd 20 95 rfl) .nil))))))) (fun _ => rfl) (fun γ => ?_)
       refine JQ.at ⟨[(1, ov (PTR gb_2 0)), (3, ov (CLO 23 [])), (68, ov (S (rL r_api_Dot) t_1.Live)), (69, ov (S (rI .i64) (List.length t_1.Live : Int))), (70, ov (S (rI .i64) x_25)), (95, ov (S rB v_38))], [cvar gb_2 r_api_Frame t_1, cvar gb_28 r_api_Dot v_27], []⟩ ?_
       replace hx29 := Option.some.inj hx29
       first | subst hx29 | clear hx29
       exact JQ.join () (Imp.norm (js := [0]) rfl (.cons rfl (.cons rfl (.cons rfl (.cons rfl (.cons rfl (.cons rfl .nil)))))))
     refine JC.condF (.tmp rfl) hc28 ?_
     refine JC.exit ?_
     refine JQ.outX ?_
     replace hx := Option.some.inj hx
     first | subst hx | clear hx
     have ht := hr _ rfl
     clear hr
     first | subst ht | clear ht
     dsimp only at hq27
     refine JQ.outX ?_
     refine JQ.here ?_
     replace hq27 := Option.some.inj hq27
     first | subst hq27 | clear hq27
     exact JQ.joinK () () rfl (Imp.norm (js := [0]) rfl (.cons rfl .nil))
   refine JC.condF (.tmp rfl) hc25 ?_
   refine jr ?_
   replace hx17 := lt1_inv hx17
   obtain ⟨v_45, hv_v_45, hx17⟩ := hx17
   refine jc (op_cmpI lb (.tmp rfl) .cI (congrArg some hv_v_45)) ?_
   refine JL.sub ⟨[(1, ov (PTR gb_2 0)), (3, ov (CLO 23 [])), (43, ov (S (rI .i64) t_1.Kind)), (106, ov (S rB v_45))], [cvar gb_2 r_api_Frame t_1], []⟩ (.cons rfl (.cons rfl (.cons rfl (.cons rfl .nil)))) rfl rfl ?_
   refine jc (op_assign lb (.tmp rfl)) <| jn ?_
   replace hx17 := iteB_inv hx17
   rcases hx17 with ⟨hc44, hx17⟩ | ⟨hc44, hx17⟩
   · refine JC.condT (.tmp rfl) hc44 ?_
     refine jr <| jc (op_assign lb .cB) <| jn ?_
     refine JC.ret ?_
     refine JQ.outRB ?_
     replace hx17 := Option.some.inj hx17
     first | subst hx17 | clear hx17
     dsimp only at hq17
     refine JQ.outR ?_
     replace hq17 := Option.some.inj hq17
     subst hq17
     exact JQ.done (js := []) (ss := [.val (S rB true)]) () (.inl rfl) (.nil rfl) rfl (.cons (.tmp rfl) .nil) rfl rfl rfl
   refine JC.condF (.tmp rfl) hc44 ?_
   refine jr ?_
   replace hx17 := lt1_inv hx17
   obtain ⟨v_46, hv_v_46, hx17⟩ := hx17
   refine jc (op_cmpI lb (.tmp rfl) .cI (congrArg some hv_v_46)) <| jc (op_assign lb (.tmp rfl)) <| jn ?_
   replace hx17 := iteB_inv hx17
   rcases hx17 with ⟨hc45, hx17⟩ | ⟨hc45, hx17⟩
   · refine JC.condT (.tmp rfl) hc45 ?_
     refine jr <| jc (op_fieldAddr (off := 91) lb tf50_10 (.tmp rfl)) <| jc (op_loadS (j := 0) lb tS47 (.tmp rfl) rfl (cT (comp_api_Frame_Leaves t_1) rfl) rfl rfl) <| jc (op_lenL lb tu47 (.tmp rfl)) ?_
     replace hx17 := lt1_inv hx17
     obtain ⟨v_47, hv_v_47, hx17⟩ := hx17
     refine jc (op_cmpI lb (.tmp rfl) .cI (congrArg some hv_v_47)) <| jc (op_assign lb (.tmp rfl)) <| jn ?_
     refine JC.ret ?_
     refine JQ.outRB ?_
     replace hx17 := Option.some.inj hx17
     first | subst hx17 | clear hx17
     dsimp only at hq17
     refine JQ.outR ?_
     replace hq17 := Option.some.inj hq17
     subst hq17
     exact JQ.done (js := []) (ss := [.val (S rB v_47)]) () (.inl rfl) (.nil rfl) rfl (.cons (.tmp rfl) .nil) rfl rfl rfl
   refine JC.condF (.tmp rfl) hc45 ?_
   refine jr ?_
   replace hx17 := lt1_inv hx17
   obtain ⟨v_48, hv_v_48, hx17⟩ := hx17
   refine jc (op_cmpI lb (.tmp rfl) .cI (congrArg some hv_v_48)) <| jc (op_assign lb (.tmp rfl)) <| jn ?_
   replace hx17 := iteB_inv hx17
   rcases hx17 with ⟨hc46, hx17⟩ | ⟨hc46, hx17⟩
   · refine JC.condT (.tmp rfl) hc46 ?_
     replace hx17 := bnd_inv hx17
     obtain ⟨tv47, hx47, hq47⟩ := hx17
     refine JC.seqK (α := Unit) (γ := Unit) (stj := fun v q => ⟨[(1, ov (PTR gb_2 0)), (3, ov (CLO 23 []))], [cvar gb_2 r_api_Frame t_1], []⟩) (p := fun v => tv47 = (.inl v)) (fun v q hv => ?_) ?_
     · subst hv
       skip
       obtain _ := q
       dsimp only at hq47
       refine JC.at ⟨[(1, ov (PTR gb_2 0)), (3, ov (CLO 23 []))], [cvar gb_2 r_api_Frame t_1], []⟩ ?_
       replace hq47 := bnd_inv hq47
       obtain ⟨tv64, hx64, hq64⟩ := hq47
       refine JC.seqK (α := Unit) (γ := Unit) (stj := fun v q => ⟨[(1, ov (PTR gb_2 0))], [cvar gb_2 r_api_Frame t_1], []⟩) (p := fun v => tv64 = (.inl v)) (fun v q hv => ?_) ?_
       · subst hv
         skip
         obtain _ := q
         dsimp only at hq64
         refine JC.at ⟨[(1, ov (PTR gb_2 0))], [cvar gb_2 r_api_Frame t_1], []⟩ ?_
         replace hq64 := bnd_inv hq64
         obtain ⟨x_84, hx71, hq71⟩ := hq64
         refine JC.seqJ (γ := Unit) (stj := fun _ => ⟨[(2, ov (S rB x_84))], [], []⟩) (fun _ => ?_) ?_
         · refine JC.ret ?_
           refine JQ.outRB ?_
           replace hq71 := Option.some.inj hq71
           first | subst hq71 | clear hq71
           dsimp only at hq17
           refine JQ.outR ?_
           replace hq17 := Option.some.inj hq17
           subst hq17
           exact JQ.done (js := []) (ss := [.val (S rB x_84)]) () (.inl rfl) (.nil rfl) rfl (.cons (.tmp rfl) .nil) rfl rfl rfl
         refine JC.region <| jc (op_fieldAddr (off := 92) lb tf50_11 (.tmp rfl)) <| jc (op_loadS (j := 0) lb tS48 (.tmp rfl) rfl (cT (comp_api_Frame_Buckets t_1) rfl) rfl rfl) <| jc (op_lenL lb tu48 (.tmp rfl)) ?_
         replace hx71 := lt1_inv hx71
         obtain ⟨v_79, hv_v_79, hx71⟩ := hx71
         refine jc (op_cmpI lb (.tmp rfl) .cI (congrArg some hv_v_79)) <| jmv rfl rfl ?_
         refine JL.cnd (sv := ov (A r_api_Frame t_1)) (Guard.isT (ltB rfl) rfl rfl) rfl (ltB rfl) (fun hq_72 => op_loadA (j := 0) lb tA50 (.tmp rfl) rfl (Comp.self r_api_Frame t_1) rfl) ?_
         replace hx71 := bnd_inv hx71
         obtain ⟨v_80, hv_v_80, hx71⟩ := hx71
         refine JL.cnd (sv := ov (S rB v_80)) (Guard.isT (ltB rfl) rfl rfl) rfl (ltB rfl) (fun hq_73 => (op_call (js := []) ld cl24 (sim_frame_items k t_1 v_80 (ifT hv_v_80 hq_73)) .func (.cons (HasO.cnd (.tmp rfl) hq_73) .nil) rfl).post (fun _ => Imp.refl)) ?_
         replace hx71 := lt1_inv hx71
         obtain ⟨v_81, hv_v_81, hx71⟩ := hx71
         refine jc (op_pickCS lb (.tmp rfl) (fun hb74 => (HasO.cnd (.tmp rfl) hb74)) (fun hb74 => .cB) hv_v_81) <| jmv rfl rfl ?_
         refine JL.cnd (sv := ov (A r_api_Frame t_1)) (Guard.isT (ltB rfl) rfl rfl) rfl (ltB rfl) (fun hq_75 => op_loadA (j := 0) lb tA50 (.tmp rfl) rfl (Comp.self r_api_Frame t_1) rfl) ?_
         replace hx71 := bnd_inv hx71
         obtain ⟨v_82, hv_v_82, hx71⟩ := hx71
         refine JL.cnd (sv := ov (S rB v_82)) (Guard.isT (ltB rfl) rfl rfl) rfl (ltB rfl) (fun hq_76 => (op_call (js := []) ld cl30 (sim_frame_seen k t_1 v_82 (ifT hv_v_82 hq_76)) .func (.cons (HasO.cnd (.tmp rfl) hq_76) .nil) rfl).post (fun _ => Imp.refl)) ?_
         replace hx71 := lt1_inv hx71
         obtain ⟨v_83, hv_v_83, hx71⟩ := hx71
         refine jc (op_pickCS lb (.tmp rfl) (fun hb77 => (HasO.cnd (.tmp rfl) hb77)) (fun hb77 => .cB) hv_v_83) ?_
         refine JL.nrm ⟨[(186, ov (S rB v_83))], [], []⟩ [] rfl (.cons rfl .nil) rfl ?_
         refine jc (op_assign lb (.tmp rfl)) <| JL.nil ?_
         replace hx71 := Option.some.inj hx71
         first | subst hx71 | clear hx71
         exact JQ.join () (Imp.norm (js := []) rfl (.cons rfl .nil))
       refine jr <| jc (op_fieldAddr (off := 3) lb tf50_3 (.tmp rfl)) <| jc (op_loadS (j := 0) lb tS22 (.tmp rfl) rfl (cT (comp_api_Frame_Items t_1) rfl) rfl rfl) <| jc (op_lenL lb tu22 (.tmp rfl)) <| jc (op_move lb .cI) ?_
       refine jn <| JC.block ?_
       replace hx64 := bnd_inv hx64
       obtain ⟨tv65, hL65, hq65⟩ := hx64
       refine JC.pre ?_ (JC.loop (γ := Unit) (stf := fun s q => ⟨[(1, ov (PTR gb_2 0)), (3, ov (CLO 23 [])), (149, ov (S (rL r_api_Item) t_1.Items)), (150, ov (S (rI .i64) (List.length t_1.Items : Int))), (151, ov (S (rI .i64) s))], [cvar gb_2 r_api_Frame t_1], []⟩) (q := ()) hL65 ?_)
       · exact (Imp.norm (js := [0]) rfl (.cons rfl (.cons rfl (.cons rfl (.cons rfl (.cons rfl .nil))))))
       intro x_65 q x hx hr
       obtain _ := q
       change frame_May.b3 k t_1 x_65 = some x at hx
       unfold frame_May.b3 at hx
       refine JC.at ⟨[(1, ov (PTR gb_2 0)), (3, ov (CLO 23 [])), (149, ov (S (rL r_api_Item) t_1.Items)), (150, ov (S (rI .i64) (List.length t_1.Items : Int))), (151, ov (S (rI .i64) x_65))], [cvar gb_2 r_api_Frame t_1], []⟩ ?_
       refine jr ?_
       replace hx := lt1_inv hx
       obtain ⟨v_66, hv_v_66, hx⟩ := hx
       refine jc (op_cmpI lb (.tmp rfl) (.tmp rfl) (congrArg some hv_v_66)) <| jn <| JC.seq ?_
       replace hx := iteB_inv hx
       rcases hx with ⟨hc66, hx⟩ | ⟨hc66, hx⟩
       · refine JC.condT (.tmp rfl) hc66 ?_
         refine JC.skip ?_
         refine JQ.then <| JC.seq <| JC.block <| jr <| jmv rfl rfl ?_
         replace hx := bnd_inv hx
         obtain ⟨v_67, hv_v_67, hx⟩ := hx
         refine jc (op_indexAddrLg lb tu22 tz33 (.tmp rfl) (.tmp rfl) hv_v_67) <| jc (op_loadPAg lb tA33 (.tmp rfl) rfl) ?_
         refine jx (op_alloc lb tZ33 zr33) (fun q => ?_)
         obtain ⟨gb_68, hqq⟩ : ∃ z, z = q := ⟨_, rfl⟩
         subst hqq
         refine jc (op_assign lb (.tmp rfl)) <| jc (op_storeA (j := 1) tA33 (.tmp rfl) (.tmp rfl) rfl (UpdR.self (by rfl)) rfl) <| jn ?_
         replace hx := bnd_inv hx
         obtain ⟨x_77, hx67, hq67⟩ := hx
         refine JC.seqJ (γ := Unit) (stj := fun _ => ⟨[(1, ov (PTR gb_2 0)), (3, ov (CLO 23 [])), (149, ov (S (rL r_api_Item) t_1.Items)), (150, ov (S (rI .i64) (List.length t_1.Items : Int))), (151, ov (S (rI .i64) x_65)), (173, ov (S rB x_77))], [cvar gb_2 r_api_Frame t_1], []⟩) (fun _ => ?_) ?_
         · replace hq67 := iteB_inv hq67
           rcases hq67 with ⟨hc70, hq67⟩ | ⟨hc70, hq67⟩
           · refine JC.condT (.tmp rfl) hc70 ?_
             refine jr <| jc (op_assign lb .cB) <| jn ?_
             refine JC.ret ?_
             refine JQ.outRB ?_
             refine JQ.outR ?_
             replace hq67 := Option.some.inj hq67
             first | subst hq67 | clear hq67
             have ht := hr _ rfl
             clear hr
             first | subst ht | clear ht
             dsimp only at hq65
             refine JQ.outR ?_
             refine JQ.outRB ?_
             replace hq65 := Option.some.inj hq65
             first | subst hq65 | clear hq65
             dsimp only at hq64
             refine JQ.outR ?_
             refine JQ.outRB ?_
             replace hq64 := Option.some.inj hq64
             first | subst hq64 | clear hq64
             dsimp only at hq17
             refine JQ.outR ?_
             replace hq17 := Option.some.inj hq17
             subst hq17
             exact JQ.done (js := []) (ss := [.val (S rB false)]) () (.inl rfl) (.nil rfl) rfl (.cons (.tmp rfl) .nil) rfl rfl rfl
           refine JC.condF (.tmp rfl) hc70 ?_
           refine JC.skip ?_
           refine JQ.outNB ?_
           refine JQ.then <| JC.region ?_
           replace hq67 := lt1_inv hq67
           obtain ⟨v_78, hv_v_78, hq67⟩ := hq67
           refine jc (op_arI lb (.tmp rfl) .cI (congrArg some hv_v_78)) <| jmv rfl rfl <| JL.nil ?_
           replace hq67 := Option.some.inj hq67
           first | subst hq67 | clear hq67
           exact JQ.next () rfl (Imp.norm (js := [0]) rfl (.cons rfl (.cons rfl (.cons rfl (.cons rfl (.cons rfl .nil))))))
         replace hx67 := lt1_inv hx67
         obtain ⟨v_69, hv_v_69, hx67⟩ := hx67
         replace hx67 := iteB_inv hx67
         rcases hx67 with ⟨hc69, hx67⟩ | ⟨hc69, hx67⟩
         · replace hx67 := lt1_inv hx67
           obtain ⟨v_70, hv_v_70, hx67⟩ := hx67
           replace hx67 := bnd_inv hx67
           obtain ⟨v_71, hv_v_71, hx67⟩ := hx67
           replace hx67 := bnd_inv hx67
           obtain ⟨v_72, hv_v_72, hx67⟩ := hx67
           replace hx67 := bnd_inv hx67
           obtain ⟨v_73, hv_v_73, hx67⟩ := hx67
           replace hx67 := lt1_inv hx67
           obtain ⟨v_74, hv_v_74, hx67⟩ := hx67
           refine JC.anyE (kl := []) (kk := 0) (base := [(1, ov (PTR gb_2 0)), (3, ov (CLO 23 [])), (8, ov (S (rI .i64) x_65)), (9, ov (PTR gb_68 0)), (149, ov (S (rL r_api_Item) t_1.Items)), (150, ov (S (rI .i64) (List.length t_1.Items : Int))), (151, ov (S (rI .i64) x_65))])
               (fs := fun γ => [⟨some 156, ov (CLO 23 [])⟩, ⟨some 157, ov (S (rI .i64) x_65)⟩, ⟨some 158, ov (S (rI .i64) x_65)⟩, ⟨some 159, ov (S rB v_69)⟩, ⟨some 160, ov (S rB v_69)⟩, ⟨some 161, ov (PTR gb_2 (0 + 3))⟩, ⟨some 162, ov (S (rL r_api_Item) t_1.Items)⟩, ⟨some 163, ov (S (rI .i64) x_65)⟩, ⟨some 164, ov (S (rI .i64) v_70)⟩, ⟨some 165, ov (PT r_api_Item v_71)⟩, ⟨some 166, ov (PT r_api_Dot v_71.Dot)⟩, ⟨some 167, ov (A r_api_Dot v_71.Dot)⟩, ⟨some 168, ov (PTR gb_68 (0 + 0))⟩, ⟨some 169, ov (A r_api_Dot v_67.Dot)⟩, ⟨some 170, ov (S rB v_72)⟩, ⟨some 171, ov (S rB v_72)⟩, ⟨some 172, ov (S rB v_73)⟩, ⟨some 173, ov (S rB v_74)⟩])
               (rs := fun γ => [⟨cvar gb_2 r_api_Frame t_1, none, none, [6]⟩, ⟨cvar gb_68 r_api_Item v_67, none, none, [13]⟩])
               (ds := [156, 157, 158, 159, 160, 161, 162, 163, 164, 165, 166, 167, 168, 169, 170, 171, 172, 173]) (bs := [1, 3, 8, 9, 149, 150, 151]) (afts := [[], [], [], [], [], [], [], [], [], [], [], [], [], [], [], [], [], []]) (js := [0, 0]) mixed (.cons rfl (.cons rfl (.cons rfl (.cons rfl (.cons rfl (.cons rfl (.cons rfl .nil))))))) (fun _ => rfl)
               (by
      refine dS 1 (fun γ ρ B hb hd => op_move lb (.tmp (hb 3 _ rfl))) <| dS 2 (fun γ ρ B hb hd => op_move lb (.tmp (hb 8 _ rfl))) <| dS 3 (fun γ ρ B hb hd => op_move lb (.tmp (hb 8 _ rfl))) <| dS 4 (fun γ ρ B hb hd => op_cmpI lb (tl hd 2 158) .cI (congrArg some hv_v_69)) <| dS 5 (fun γ ρ B hb hd => op_move lb (tl hd 3 159)) ?_
      refine dY 6 (fun γ ρ B hb hd => ⟨.yes rfl (ltB rfl) (hl hd 4 160 rfl) hc69, lkB (op_fieldAddr (off := 3) lb tf50_3 (.tmp (hb 1 _ rfl)))⟩) <| dY 7 (fun γ ρ B hb hd => ⟨.yes rfl (ltB rfl) (hl hd 4 160 rfl) hc69, OpStep.lk ⟨ρ, (cvar gb_2 r_api_Frame t_1) :: B, _⟩ (op_loadS (j := 0) lb tS22 (tl hd 5 161) rfl (cT (comp_api_Frame_Items t_1) rfl) rfl rfl)⟩) <| dY 8 (fun γ ρ B hb hd => ⟨.yes rfl (ltB rfl) (hl hd 4 160 rfl) hc69, lkB (op_move lb (.tmp (hb 8 _ rfl)))⟩) <| dY 9 (fun γ ρ B hb hd => ⟨.yes rfl (ltB rfl) (hl hd 4 160 rfl) hc69, lkB (op_arI lb (tl hd 7 163) .cI (congrArg some hv_v_70))⟩) <| dY 10 (fun γ ρ B hb hd => ⟨.yes rfl (ltB rfl) (hl hd 4 160 rfl) hc69, lkB (op_indexAddrLg lb tu22 tz33 (tl hd 6 162) (tl hd 8 164) hv_v_71)⟩) ?_
      refine dY 11 (fun γ ρ B hb hd => ⟨.yes rfl (ltB rfl) (hl hd 4 160 rfl) hc69, lkB (op_fieldAddrP lb tf33_0 (tl hd 9 165) (comp_api_Item_Dot v_71))⟩) <| dY 12 (fun γ ρ B hb hd => ⟨.yes rfl (ltB rfl) (hl hd 4 160 rfl) hc69, lkB (op_loadPAg lb tA29 (tl hd 10 166) rfl)⟩) <| dY 13 (fun γ ρ B hb hd => ⟨.yes rfl (ltB rfl) (hl hd 4 160 rfl) hc69, lkB (op_fieldAddr (off := 0) lb tf33_0 (.tmp (hb 9 _ rfl)))⟩) <| dY 14 (fun γ ρ B hb hd => ⟨.yes rfl (ltB rfl) (hl hd 4 160 rfl) hc69, OpStep.lk ⟨ρ, (cvar gb_68 r_api_Item v_67) :: B, _⟩ (op_loadA (j := 0) lb tA29 (tl hd 12 168) rfl (cT (comp_api_Item_Dot v_67) rfl) rfl)⟩) <| dY 15 (fun γ ρ B hb hd => ⟨.yes rfl (ltB rfl) (hl hd 4 160 rfl) hc69, lkB ((op_call (js := []) ld cl29 (sim_ctx_Less k v_71.Dot v_67.Dot v_72 hv_v_72) .func (.cons (tl hd 11 167) (.cons (tl hd 13 169) .nil)) rfl).post (fun _ => Imp.refl))⟩) ?_
      refine dS 16 (fun γ ρ B hb hd => op_pickT lb (tl hd 4 160) hc69 (tl hd 14 170)) <| dS 17 (fun γ ρ B hb hd => (op_call (js := []) ld cl23 (sim_frame_May_1 k x_65 v_72 v_73 hv_v_73) (tl hd 0 156) (.cons (tl hd 1 157) (.cons (tl hd 15 171) .nil)) rfl).post (fun _ => Imp.refl)) <| dS 18 (fun γ ρ B hb hd => op_not lb (tl hd 16 172) hv_v_74) ?_
      exact DSteps.nil)
               (by decide +kernel) (fun _ => rfl) rfl (fun _ => rfl) (fun _ => rfl) rfl (by decide) (by decide) (by decide +kernel) (fun _ d h => by cases h)
               (ρ' := fun γ => [(1, ov (PTR gb_2 0)), (3, ov (CLO 23 [])), (149, ov (S (rL r_api_Item) t_1.Items)), (150, ov (S (rI .i64) (List.length t_1.Items : Int))), (151, ov (S (rI .i64) x_65)), (173, ov (S rB v_74))])
               (X' := fun γ => [cvar gb_2 r_api_Frame t_1, cvar gb_68 r_api_Item v_67])
               (fun γ ρ hb hd => (.cons (hb 1 _ rfl (by decide)) (.cons (hb 3 _ rfl (by decide)) (.cons (hb 149 _ rfl (by decide)) (.cons (hb 150 _ rfl (by decide)) (.cons (hb 151 _ rfl (by decide)) (.cons (hdq hd 17 173 rfl) .nil))))))) (fun _ => rfl) (fun γ => ?_)
           refine JQ.at ⟨[(1, ov (PTR gb_2 0)), (3, ov (CLO 23 [])), (149, ov (S (rL r_api_Item) t_1.Items)), (150, ov (S (rI .i64) (List.length t_1.Items : Int))), (151, ov (S (rI .i64) x_65)), (173, ov (S rB v_74))], [cvar gb_2 r_api_Frame t_1, cvar gb_68 r_api_Item v_67], []⟩ ?_
           replace hx67 := Option.some.inj hx67
           first | subst hx67 | clear hx67
           exact JQ.join () (Imp.norm (js := [0]) rfl (.cons rfl (.cons rfl (.cons rfl (.cons rfl (.cons rfl (.cons rfl .nil)))))))
         replace hx67 := bnd_inv hx67
         obtain ⟨v_75, hv_v_75, hx67⟩ := hx67
         replace hx67 := lt1_inv hx67
         obtain ⟨v_76, hv_v_76, hx67⟩ := hx67
         refine JC.anyE (kl := []) (kk := 0) (base := [(1, ov (PTR gb_2 0)), (3, ov (CLO 23 [])), (8, ov (S (rI .i64) x_65)), (149, ov (S (rL r_api_Item) t_1.Items)), (150, ov (S (rI .i64) (List.length t_1.Items : Int))), (151, ov (S (rI .i64) x_65))])
             (fs := fun γ => [⟨some 156, ov (CLO 23 [])⟩, ⟨some 157, ov (S (rI .i64) x_65)⟩, ⟨some 158, ov (S (rI .i64) x_65)⟩, ⟨some 159, ov (S rB v_69)⟩, ⟨some 160, ov (S rB v_69)⟩, ⟨some 161, .one .und⟩, ⟨some 162, .one .und⟩, ⟨some 163, .one .und⟩, ⟨some 164, .one .und⟩, ⟨some 165, .one .und⟩, ⟨some 166, .one .und⟩, ⟨some 167, .one .und⟩, ⟨some 168, .one .und⟩, ⟨some 169, .one .und⟩, ⟨some 170, .one .und⟩, ⟨some 171, ov (S rB false)⟩, ⟨some 172, ov (S rB v_75)⟩, ⟨some 173, ov (S rB v_76)⟩])
             (rs := fun γ => [⟨cvar gb_2 r_api_Frame t_1, none, none, []⟩, ⟨cvar gb_68 r_api_Item v_67, none, none, []⟩])
             (ds := [156, 157, 158, 159, 160, 161, 162, 163, 164, 165, 166, 167, 168, 169, 170, 171, 172, 173]) (bs := [1, 3, 8, 149, 150, 151]) (afts := [[], [], [], [], [], [], [], [], [], [], [], [], [], [], [], [], [], []]) (js := [0, 0]) mixed (.cons rfl (.cons rfl (.cons rfl (.cons rfl (.cons rfl (.cons rfl .nil)))))) (fun _ => rfl)
             (by
      refine dS 1 (fun γ ρ B hb hd => op_move lb (.tmp (hb 3 _ rfl))) <| dS 2 (fun γ ρ B hb hd => op_move lb (.tmp (hb 8 _ rfl))) <| dS 3 (fun γ ρ B hb hd => op_move lb (.tmp (hb 8 _ rfl))) <| dS 4 (fun γ ρ B hb hd => op_cmpI lb (tl hd 2 158) .cI (congrArg some hv_v_69)) <| dS 5 (fun γ ρ B hb hd => op_move lb (tl hd 3 159)) ?_
      refine dK 6 (fun γ ρ B hb hd => .no rfl (ltB rfl) (hl hd 4 160 rfl) hc69) <| dK 7 (fun γ ρ B hb hd => .no rfl (ltB rfl) (hl hd 4 160 rfl) hc69) <| dK 8 (fun γ ρ B hb hd => .no rfl (ltB rfl) (hl hd 4 160 rfl) hc69) <| dK 9 (fun γ ρ B hb hd => .no rfl (ltB rfl) (hl hd 4 160 rfl) hc69) <| dK 10 (fun γ ρ B hb hd => .no rfl (ltB rfl) (hl hd 4 160 rfl) hc69) ?_
      refine dK 11 (fun γ ρ B hb hd => .no rfl (ltB rfl) (hl hd 4 160 rfl) hc69) <| dK 12 (fun γ ρ B hb hd => .no rfl (ltB rfl) (hl hd 4 160 rfl) hc69) <| dK 13 (fun γ ρ B hb hd => .no rfl (ltB rfl) (hl hd 4 160 rfl) hc69) <| dK 14 (fun γ ρ B hb hd => .no rfl (ltB rfl) (hl hd 4 160 rfl) hc69) <| dK 15 (fun γ ρ B hb hd => .no rfl (ltB rfl) (hl hd 4 160 rfl) hc69) ?_
      refine dS 16 (fun γ ρ B hb hd => op_pickF lb (tl hd 4 160) hc69 .cB) <| dS 17 (fun γ ρ B hb hd => (op_call (js := []) ld cl23 (sim_frame_May_1 k x_65 false v_75 hv_v_75) (tl hd 0 156) (.cons (tl hd 1 157) (.cons (tl hd 15 171) .nil)) rfl).post (fun _ => Imp.refl)) <| dS 18 (fun γ ρ B hb hd => op_not lb (tl hd 16 172) hv_v_76) ?_
      exact DSteps.nil)
             (by decide +kernel) (fun _ => rfl) rfl (fun _ => rfl) (fun _ => rfl) rfl (by decide) (by decide) (by decide +kernel) (fun _ d h => by cases h)
             (ρ' := fun γ => [(1, ov (PTR gb_2 0)), (3, ov (CLO 23 [])), (149, ov (S (rL r_api_Item) t_1.Items)), (150, ov (S (rI .i64) (List.length t_1.Items : Int))), (151, ov (S (rI .i64) x_65)), (173, ov (S rB v_76))])
             (X' := fun γ => [cvar gb_2 r_api_Frame t_1, cvar gb_68 r_api_Item v_67])
             (fun γ ρ hb hd => (.cons (hb 1 _ rfl (by decide)) (.cons (hb 3 _ rfl (by decide)) (.cons (hb 149 _ rfl (by decide)) (.cons (hb 150 _ rfl (by decide)) (.cons (hb 151 _ rfl (by decide)) (.cons (hdq hd 17 173 rfl) .nil))))))) (fun _ => rfl) (fun γ => ?_)
         refine JQ.at ⟨[(1, ov (PTR gb_2 0)), (3, ov (CLO 23 [])), (149, ov (S (rL r_api_Item) t_1.Items)), (150, ov (S (rI .i64) (List.length t_1.Items : Int))), (151, ov (S (rI .i64) x_65)), (173, ov (S rB v_76))], [cvar gb_2 r_api_Frame t_1, cvar gb_68 r_api_Item v_67], []⟩ ?_
         replace hx67 := Option.some.inj hx67
         first | subst hx67 | clear hx67
         exact JQ.join () (Imp.norm (js := [0]) rfl (.cons rfl (.cons rfl (.cons rfl (.cons rfl (.cons rfl (.cons rfl .nil)))))))
       refine JC.condF (.tmp rfl) hc66 ?_
       refine JC.exit ?_
       refine JQ.outX ?_
       replace hx := Option.some.inj hx
       first | subst hx | clear hx
       have ht := hr _ rfl
       clear hr
       first | subst ht | clear ht
       dsimp only at hq65
       refine JQ.outX ?_
       refine JQ.here ?_
       replace hq65 := Option.some.inj hq65
       first | subst hq65 | clear hq65
       exact JQ.joinK () () rfl (Imp.norm (js := [0]) rfl (.cons rfl .nil))
     refine jr <| jc (op_fieldAddr (off := 92) lb tf50_11 (.tmp rfl)) <| jc (op_loadS (j := 0) lb tS48 (.tmp rfl) rfl (cT (comp_api_Frame_Buckets t_1) rfl) rfl rfl) <| jc (op_lenL lb tu48 (.tmp rfl)) <| jc (op_move lb .cI) ?_
     refine jn <| JC.block ?_
     replace hx47 := bnd_inv hx47
     obtain ⟨tv48, hL48, hq48⟩ := hx47
     refine JC.pre ?_ (JC.loop (γ := Unit) (stf := fun s q => ⟨[(1, ov (PTR gb_2 0)), (3, ov (CLO 23 [])), (116, ov (S (rL (rI .i64)) t_1.Buckets)), (117, ov (S (rI .i64) (List.length t_1.Buckets : Int))), (118, ov (S (rI .i64) s))], [cvar gb_2 r_api_Frame t_1], []⟩) (q := ()) hL48 ?_)
     · exact (Imp.norm (js := [0]) rfl (.cons rfl (.cons rfl (.cons rfl (.cons rfl (.cons rfl .nil))))))
     intro x_49 q x hx hr
     obtain _ := q
     change frame_May.b2 k t_1 x_49 = some x at hx
     unfold frame_May.b2 at hx
     refine JC.at ⟨[(1, ov (PTR gb_2 0)), (3, ov (CLO 23 [])), (116, ov (S (rL (rI .i64)) t_1.Buckets)), (117, ov (S (rI .i64) (List.length t_1.Buckets : Int))), (118, ov (S (rI .i64) x_49))], [cvar gb_2 r_api_Frame t_1], []⟩ ?_
     refine jr ?_
     replace hx := lt1_inv hx
     obtain ⟨v_50, hv_v_50, hx⟩ := hx
     refine jc (op_cmpI lb (.tmp rfl) (.tmp rfl) (congrArg some hv_v_50)) <| jn <| JC.seq ?_
     replace hx := iteB_inv hx
     rcases hx with ⟨hc49, hx⟩ | ⟨hc49, hx⟩
     · refine JC.condT (.tmp rfl) hc49 ?_
       refine JC.skip ?_
       refine JQ.then <| JC.seq <| JC.block <| jr <| jmv rfl rfl ?_
       replace hx := bnd_inv hx
       obtain ⟨v_51, hv_v_51, hx⟩ := hx
       refine jc (op_indexAddrLg lb tu48 tz3 (.tmp rfl) (.tmp rfl) hv_v_51) <| jc (op_loadPSg lb tS3 rfl (.tmp rfl) rfl) <| jc (op_assign lb (.tmp rfl)) <| jc (op_assign lb (.tmp rfl)) <| jn ?_
       replace hx := bnd_inv hx
       obtain ⟨x_63, hx50, hq50⟩ := hx
       refine JC.seqJ (γ := Unit) (stj := fun _ => ⟨[(1, ov (PTR gb_2 0)), (3, ov (CLO 23 [])), (116, ov (S (rL (rI .i64)) t_1.Buckets)), (117, ov (S (rI .i64) (List.length t_1.Buckets : Int))), (118, ov (S (rI .i64) x_49)), (146, ov (S rB x_63))], [cvar gb_2 r_api_Frame t_1], []⟩) (fun _ => ?_) ?_
       · replace hq50 := iteB_inv hq50
         rcases hq50 with ⟨hc63, hq50⟩ | ⟨hc63, hq50⟩
         · refine JC.condT (.tmp rfl) hc63 ?_
           refine jr <| jc (op_assign lb .cB) <| jn ?_
           refine JC.ret ?_
           refine JQ.outRB ?_
           refine JQ.outR ?_
           replace hq50 := Option.some.inj hq50
           first | subst hq50 | clear hq50
           have ht := hr _ rfl
           clear hr
           first | subst ht | clear ht
           dsimp only at hq48
           refine JQ.outR ?_
           refine JQ.outRB ?_
           replace hq48 := Option.some.inj hq48
           first | subst hq48 | clear hq48
           dsimp only at hq47
           refine JQ.outR ?_
           refine JQ.outRB ?_
           replace hq47 := Option.some.inj hq47
           first | subst hq47 | clear hq47
           dsimp only at hq17
           refine JQ.outR ?_
           replace hq17 := Option.some.inj hq17
           subst hq17
           exact JQ.done (js := []) (ss := [.val (S rB false)]) () (.inl rfl) (.nil rfl) rfl (.cons (.tmp rfl) .nil) rfl rfl rfl
         refine JC.condF (.tmp rfl) hc63 ?_
         refine JC.skip ?_
         refine JQ.outNB ?_
         refine JQ.then <| JC.region ?_
         replace hq50 := lt1_inv hq50
         obtain ⟨v_64, hv_v_64, hq50⟩ := hq50
         refine jc (op_arI lb (.tmp rfl) .cI (congrArg some hv_v_64)) <| jmv rfl rfl <| JL.nil ?_
         replace hq50 := Option.some.inj hq50
         first | subst hq50 | clear hq50
         exact JQ.next () rfl (Imp.norm (js := [0]) rfl (.cons rfl (.cons rfl (.cons rfl (.cons rfl (.cons rfl .nil))))))
       refine JC.region <| jmv rfl rfl ?_
       replace hx50 := lt1_inv hx50
       obtain ⟨v_52, hv_v_52, hx50⟩ := hx50
       refine jc (op_cmpI lb (.tmp rfl) .cI (congrArg some hv_v_52)) <| jmv rfl rfl ?_
       refine JL.cnd (sv := ov (S (rI .i64) v_51)) (Guard.isF (ltB rfl) rfl rfl) rfl (ltB rfl) (fun hq_51 => op_move lb (.tmp rfl)) ?_
       replace hx50 := lt1_inv hx50
       obtain ⟨v_53, hv_v_53, hx50⟩ := hx50
       refine JL.cnd (sv := ov (S rB v_53)) (Guard.isF (ltB rfl) rfl rfl) rfl (ltB rfl) (fun hq_52 => op_cmpI lb (HasO.cnd (.tmp rfl) (notT (notF hq_52))) .cI (congrArg some hv_v_53)) ?_
       replace hx50 := lt1_inv hx50
       obtain ⟨v_54, hv_v_54, hx50⟩ := hx50
       refine jc (op_pickCS lb (.tmp rfl) (fun hb53 => .cB) (fun hb53 => (HasO.cnd (.tmp rfl) (notT hb53))) hv_v_54) ?_
       refine JL.sub ⟨[(1, ov (PTR gb_2 0)), (3, ov (CLO 23 [])), (6, ov (S (rI .i64) x_49)), (7, ov (S (rI .i64) v_51)), (116, ov (S (rL (rI .i64)) t_1.Buckets)), (117, ov (S (rI .i64) (List.length t_1.Buckets : Int))), (118, ov (S (rI .i64) x_49)), (128, ov (S rB v_54))], [cvar gb_2 r_api_Frame t_1], []⟩ (.cons rfl (.cons rfl (.cons rfl (.cons rfl (.cons rfl (.cons rfl (.cons rfl (.cons rfl .nil)))))))) rfl rfl ?_
       refine jmv rfl rfl ?_
       refine JL.cnd (sv := ov (CLO 23 [])) (Guard.isF (ltB rfl) rfl rfl) rfl (ltB rfl) (fun hq_54 => op_move lb (.tmp rfl)) ?_
       refine JL.cnd (sv := ov (S (rI .i64) x_49)) (Guard.isF (ltB rfl) rfl rfl) rfl (ltB rfl) (fun hq_55 => op_move lb (.tmp rfl)) ?_
       refine JL.cnd (sv := ov (S (rI .i64) x_49)) (Guard.isF (ltB rfl) rfl rfl) rfl (ltB rfl) (fun hq_56 => op_move lb (.tmp rfl)) ?_
       replace hx50 := lt1_inv hx50
       obtain ⟨v_55, hv_v_55, hx50⟩ := hx50
       refine JL.cnd (sv := ov (S rB v_55)) (Guard.isF (ltB rfl) rfl rfl) rfl (ltB rfl) (fun hq_57 => op_cmpI lb (HasO.cnd (.tmp rfl) (notT (notF hq_57))) .cI (congrArg some hv_v_55)) ?_
       refine JL.cnd (sv := ov (S rB v_55)) (Guard.isF (ltB rfl) rfl rfl) rfl (ltB rfl) (fun hq_58 => op_move lb (HasO.cnd (.tmp rfl) (notT (notF hq_58)))) ?_
       replace hx50 := iteB_inv hx50
       rcases hx50 with ⟨hc60, hx50⟩ | ⟨hc60, hx50⟩
       · refine JL.sk ((Guard.eqB (Guard.cT (q := (!v_54)) (ltB rfl) rfl rfl) (andFL (notF' hc60)))) <| JL.sk ((Guard.eqB (Guard.cT (q := (!v_54)) (ltB rfl) rfl rfl) (andFL (notF' hc60)))) <| JL.sk ((Guard.eqB (Guard.cT (q := (!v_54)) (ltB rfl) rfl rfl) (andFL (notF' hc60)))) <| JL.sk ((Guard.eqB (Guard.cT (q := (!v_54)) (ltB rfl) rfl rfl) (andFL (notF' hc60)))) <| JL.sk ((Guard.eqB (Guard.cT (q := (!v_54)) (ltB rfl) rfl rfl) (andFL (notF' hc60)))) ?_
         refine JL.sk ((Guard.eqB (Guard.cT (q := (!v_54)) (ltB rfl) rfl rfl) (andFL (notF' hc60)))) <| JL.sk ((Guard.eqB (Guard.cT (q := (!v_54)) (ltB rfl) rfl rfl) (andFL (notF' hc60)))) <| JL.sk ((Guard.eqB (Guard.cT (q := (!v_54)) (ltB rfl) rfl rfl) (andFL (notF' hc60)))) <| JL.sk (.no rfl (ltB rfl) rfl hc60) <| JL.sk (.no rfl (ltB rfl) rfl hc60) ?_
         refine JL.sk (.no rfl (ltB rfl) rfl hc60) <| jc (op_pickT lb (.tmp rfl) hc60 .cB) <| JL.nil ?_
         replace hx50 := Option.some.inj hx50
         first | subst hx50 | clear hx50
         exact JQ.join () (Imp.norm (js := [0]) rfl (.cons rfl (.cons rfl (.cons rfl (.cons rfl (.cons rfl (.cons rfl .nil)))))))
       replace hx50 := iteB_inv hx50
       rcases hx50 with ⟨hc62, hx50⟩ | ⟨hc62, hx50⟩
       · refine JL.run ((Guard.eqB (Guard.cT (q := (!v_54)) (ltB rfl) rfl rfl) (andI (notT hc60) hc62))) (op_fieldAddr (off := 92) lb tf50_11 (.tmp rfl)) ?_
         refine JL.run ((Guard.eqB (Guard.cT (q := (!v_54)) (ltB rfl) rfl rfl) (andI (notT hc60) hc62))) (op_loadS (j := 0) lb tS48 (.tmp rfl) rfl (cT (comp_api_Frame_Buckets t_1) rfl) rfl rfl) ?_
         refine JL.run ((Guard.eqB (Guard.cT (q := (!v_54)) (ltB rfl) rfl rfl) (andI (notT hc60) hc62))) (op_move lb (.tmp rfl)) ?_
         replace hx50 := lt1_inv hx50
         obtain ⟨v_56, hv_v_56, hx50⟩ := hx50
         refine JL.run ((Guard.eqB (Guard.cT (q := (!v_54)) (ltB rfl) rfl rfl) (andI (notT hc60) hc62))) (op_arI lb (.tmp rfl) .cI (congrArg some hv_v_56)) ?_
         replace hx50 := bnd_inv hx50
         obtain ⟨v_57, hv_v_57, hx50⟩ := hx50
         refine JL.run ((Guard.eqB (Guard.cT (q := (!v_54)) (ltB rfl) rfl rfl) (andI (notT hc60) hc62))) (op_indexAddrLg lb tu48 tz3 (.tmp rfl) (.tmp rfl) hv_v_57) ?_
         refine JL.run ((Guard.eqB (Guard.cT (q := (!v_54)) (ltB rfl) rfl rfl) (andI (notT hc60) hc62))) (op_loadPSg lb tS3 rfl (.tmp rfl) rfl) ?_
         refine JL.sub ⟨[(1, ov (PTR gb_2 0)), (3, ov (CLO 23 [])), (7, ov (S (rI .i64) v_51)), (116, ov (S (rL (rI .i64)) t_1.Buckets)), (117, ov (S (rI .i64) (List.length t_1.Buckets : Int))), (118, ov (S (rI .i64) x_49)), (129, ov (S rB v_54)), (130, bif (!v_54) then ov (CLO 23 []) else .one .und), (131, bif (!v_54) then ov (S (rI .i64) x_49) else .one .und), (134, bif (!v_54) then ov (S rB v_55) else .one .und), (140, ov (S (rI .i64) v_57))], [cvar gb_2 r_api_Frame t_1], []⟩ (.cons rfl (.cons rfl (.cons rfl (.cons rfl (.cons rfl (.cons rfl (.cons rfl (.cons rfl (.cons rfl (.cons rfl (.cons rfl .nil))))))))))) rfl rfl ?_
         refine JL.run ((Guard.eqB (Guard.cT (q := (!v_54)) (ltB rfl) rfl rfl) (andI (notT hc60) hc62))) (op_move lb (.tmp rfl)) ?_
         replace hx50 := lt1_inv hx50
         obtain ⟨v_58, hv_v_58, hx50⟩ := hx50
         refine JL.run ((Guard.eqB (Guard.cT (q := (!v_54)) (ltB rfl) rfl rfl) (andI (notT hc60) hc62))) (op_cmpI lb (.tmp rfl) (.tmp rfl) (congrArg some hv_v_58)) ?_
         refine JL.run (.yes rfl (ltB rfl) rfl hc60) (op_pickT lb (HasO.cnd (.tmp rfl) (notT hc60)) hc62 (.tmp rfl)) ?_
         replace hx50 := bnd_inv hx50
         obtain ⟨v_59, hv_v_59, hx50⟩ := hx50
         refine JL.runX (.yes rfl (ltB rfl) rfl hc60) (op_call (js := []) ld cl23 (sim_frame_May_1 k x_49 v_58 v_59 hv_v_59) (HasO.cnd (.tmp rfl) (notT hc60)) (.cons (HasO.cnd (.tmp rfl) (notT hc60)) (.cons (.tmp rfl) .nil)) rfl) (fun _ => ?_)
         replace hx50 := lt1_inv hx50
         obtain ⟨v_60, hv_v_60, hx50⟩ := hx50
         refine JL.run (.yes rfl (ltB rfl) rfl hc60) (op_not lb (.tmp rfl) hv_v_60) ?_
         refine jc (op_pickF lb (.tmp rfl) hc60 (.tmp rfl)) <| JL.nil ?_
         replace hx50 := Option.some.inj hx50
         first | subst hx50 | clear hx50
         exact JQ.join () (Imp.norm (js := [0]) rfl (.cons rfl (.cons rfl (.cons rfl (.cons rfl (.cons rfl (.cons rfl .nil)))))))
       refine JL.sk ((Guard.eqB (Guard.cT (q := (!v_54)) (ltB rfl) rfl rfl) (andFR hc62))) <| JL.sk ((Guard.eqB (Guard.cT (q := (!v_54)) (ltB rfl) rfl rfl) (andFR hc62))) <| JL.sk ((Guard.eqB (Guard.cT (q := (!v_54)) (ltB rfl) rfl rfl) (andFR hc62))) <| JL.sk ((Guard.eqB (Guard.cT (q := (!v_54)) (ltB rfl) rfl rfl) (andFR hc62))) <| JL.sk ((Guard.eqB (Guard.cT (q := (!v_54)) (ltB rfl) rfl rfl) (andFR hc62))) ?_
       refine JL.sk ((Guard.eqB (Guard.cT (q := (!v_54)) (ltB rfl) rfl rfl) (andFR hc62))) <| JL.sk ((Guard.eqB (Guard.cT (q := (!v_54)) (ltB rfl) rfl rfl) (andFR hc62))) <| JL.sk ((Guard.eqB (Guard.cT (q := (!v_54)) (ltB rfl) rfl rfl) (andFR hc62))) ?_
       refine JL.run (.yes rfl (ltB rfl) rfl hc60) (op_pickF lb (HasO.cnd (.tmp rfl) (notT hc60)) hc62 .cB) ?_
       replace hx50 := bnd_inv hx50
       obtain ⟨v_61, hv_v_61, hx50⟩ := hx50
       refine JL.runX (.yes rfl (ltB rfl) rfl hc60) (op_call (js := []) ld cl23 (sim_frame_May_1 k x_49 false v_61 hv_v_61) (HasO.cnd (.tmp rfl) (notT hc60)) (.cons (HasO.cnd (.tmp rfl) (notT hc60)) (.cons (.tmp rfl) .nil)) rfl) (fun _ => ?_)
       replace hx50 := lt1_inv hx50
       obtain ⟨v_62, hv_v_62, hx50⟩ := hx50
       refine JL.run (.yes rfl (ltB rfl) rfl hc60) (op_not lb (.tmp rfl) hv_v_62) ?_
       refine jc (op_pickF lb (.tmp rfl) hc60 (.tmp rfl)) <| JL.nil ?_
       replace hx50 := Option.some.inj hx50
       first | subst hx50 | clear hx50
       exact JQ.join () (Imp.norm (js := [0]) rfl (.cons rfl (.cons rfl (.cons rfl (.cons rfl (.cons rfl (.cons rfl .nil)))))))
     refine JC.condF (.tmp rfl) hc49 ?_
     refine JC.exit ?_
     refine JQ.outX ?_
     replace hx := Option.some.inj hx
     first | subst hx | clear hx
     have ht := hr _ rfl
     clear hr
     first | subst ht | clear ht
     dsimp only at hq48
     refine JQ.outX ?_
     refine JQ.here ?_
     replace hq48 := Option.some.inj hq48
     first | subst hq48 | clear hq48
     exact JQ.joinK () () rfl (Imp.norm (js := [0]) rfl (.cons rfl (.cons rfl .nil)))
   refine JC.condF (.tmp rfl) hc46 ?_
   refine JC.skip ?_
   refine JQ.outNB ?_
   replace hx17 := Option.some.inj hx17
   first | subst hx17 | clear hx17
   exact JQ.joinK () () rfl (Imp.norm (js := []) rfl .nil)
 replace hx1 := lt1_inv hx1
 obtain ⟨v_3, hv_v_3, hx1⟩ := hx1
 replace hx1 := iteB_inv hx1
 rcases hx1 with ⟨hc3, hx1⟩ | ⟨hc3, hx1⟩
 · refine JC.anyE (kl := []) (kk := 0) (base := [(1, ov (PTR gb_2 0))])
       (fs := fun γ => [⟨some 10, ov (PTR gb_2 (0 + 1))⟩, ⟨some 11, ov (S (rI .i64) t_1.From)⟩, ⟨some 12, ov (S rB v_3)⟩, ⟨some 13, ov (S rB v_3)⟩, ⟨some 14, .one .und⟩, ⟨some 15, .one .und⟩, ⟨some 16, .one .und⟩, ⟨some 17, ov (S rB true)⟩, ⟨some 18, ov (S rB true)⟩, ⟨some 19, .one .und⟩, ⟨some 20, .one .und⟩, ⟨some 21, .one .und⟩, ⟨some 22, ov (S rB true)⟩, ⟨some 23, ov (S rB true)⟩, ⟨some 24, .one .und⟩, ⟨some 25, .one .und⟩, ⟨some 26, .one .und⟩, ⟨some 27, ov (S rB true)⟩, ⟨some 28, ov (S rB true)⟩, ⟨some 29, .one .und⟩, ⟨some 30, .one .und⟩, ⟨some 31, .one .und⟩, ⟨some 32, .one .und⟩, ⟨some 33, .one .und⟩, ⟨some 34, ov (S rB true)⟩, ⟨some 35, ov (S rB true)⟩, ⟨some 36, .one .und⟩, ⟨some 37, .one .und⟩, ⟨some 38, .one .und⟩, ⟨some 39, .one .und⟩, ⟨some 40, .one .und⟩, ⟨some 41, ov (S rB true)⟩])
       (rs := fun γ => [⟨cvar gb_2 r_api_Frame t_1, none, none, [1]⟩])
       (ds := [10, 11, 12, 13, 14, 15, 16, 17, 18, 19, 20, 21, 22, 23, 24, 25, 26, 27, 28, 29, 30, 31, 32, 33, 34, 35, 36, 37, 38, 39, 40, 41]) (bs := [1]) (afts := [[], [], [], [], [], [], [], [], [], [], [], [], [], [], [], [], [], [], [], [], [], [], [], [], [], [], [], [], [], [], [], []]) (js := [0]) mixed (.cons rfl .nil) (fun _ => rfl)
       (by
      refine dS 1 (fun γ ρ B hb hd => op_fieldAddr (off := 1) lb tf50_1 (.tmp (hb 1 _ rfl))) <| dR 2 (fun γ ρ B hb hd => OpStep.lk ⟨ρ, (cvar gb_2 r_api_Frame t_1) :: B, _⟩ (op_loadS (j := 0) lb tS3 (tl hd 0 10) rfl (cT (comp_api_Frame_From t_1) rfl) rfl rfl)) <| dS 3 (fun γ ρ B hb hd => op_cmpI lb (tl hd 1 11) .cI (congrArg some hv_v_3)) <| dS 4 (fun γ ρ B hb hd => op_move lb (tl hd 2 12)) <| dK 5 (fun γ ρ B hb hd => .no rfl (ltB rfl) (hl hd 3 13 rfl) hc3) ?_
      refine dK 6 (fun γ ρ B hb hd => .no rfl (ltB rfl) (hl hd 3 13 rfl) hc3) <| dK 7 (fun γ ρ B hb hd => .no rfl (ltB rfl) (hl hd 3 13 rfl) hc3) <| dS 8 (fun γ ρ B hb hd => op_pickT lb (tl hd 3 13) hc3 .cB) <| dS 9 (fun γ ρ B hb hd => op_move lb (tl hd 7 17)) <| dK 10 (fun γ ρ B hb hd => .no rfl (ltB rfl) (hl hd 8 18 rfl) rfl) ?_
      refine dK 11 (fun γ ρ B hb hd => .no rfl (ltB rfl) (hl hd 8 18 rfl) rfl) <| dK 12 (fun γ ρ B hb hd => .no rfl (ltB rfl) (hl hd 8 18 rfl) rfl) <| dS 13 (fun γ ρ B hb hd => op_pickT lb (tl hd 8 18) rfl .cB) <| dS 14 (fun γ ρ B hb hd => op_move lb (tl hd 12 22)) <| dK 15 (fun γ ρ B hb hd => .no rfl (ltB rfl) (hl hd 13 23 rfl) rfl) ?_
      refine dK 16 (fun γ ρ B hb hd => .no rfl (ltB rfl) (hl hd 13 23 rfl) rfl) <| dK 17 (fun γ ρ B hb hd => .no rfl (ltB rfl) (hl hd 13 23 rfl) rfl) <| dS 18 (fun γ ρ B hb hd => op_pickT lb (tl hd 13 23) rfl .cB) <| dS 19 (fun γ ρ B hb hd => op_move lb (tl hd 17 27)) <| dK 20 (fun γ ρ B hb hd => .no rfl (ltB rfl) (hl hd 18 28 rfl) rfl) ?_
      refine dK 21 (fun γ ρ B hb hd => .no rfl (ltB rfl) (hl hd 18 28 rfl) rfl) <| dK 22 (fun γ ρ B hb hd => .no rfl (ltB rfl) (hl hd 18 28 rfl) rfl) <| dK 23 (fun γ ρ B hb hd => .no rfl (ltB rfl) (hl hd 18 28 rfl) rfl) <| dK 24 (fun γ ρ B hb hd => .no rfl (ltB rfl) (hl hd 18 28 rfl) rfl) <| dS 25 (fun γ ρ B hb hd => op_pickT lb (tl hd 18 28) rfl .cB) ?_
      refine dS 26 (fun γ ρ B hb hd => op_move lb (tl hd 24 34)) <| dK 27 (fun γ ρ B hb hd => .no rfl (ltB rfl) (hl hd 25 35 rfl) rfl) <| dK 28 (fun γ ρ B hb hd => .no rfl (ltB rfl) (hl hd 25 35 rfl) rfl) <| dK 29 (fun γ ρ B hb hd => .no rfl (ltB rfl) (hl hd 25 35 rfl) rfl) <| dK 30 (fun γ ρ B hb hd => .no rfl (ltB rfl) (hl hd 25 35 rfl) rfl) ?_
      refine dK 31 (fun γ ρ B hb hd => .no rfl (ltB rfl) (hl hd 25 35 rfl) rfl) <| dS 32 (fun γ ρ B hb hd => op_pickT lb (tl hd 25 35) rfl .cB) ?_
      exact DSteps.nil)
       (by decide +kernel) (fun _ => rfl) rfl (fun _ => rfl) (fun _ => rfl) rfl (by decide) (by decide) (by decide +kernel) (fun _ d h => by cases h)
       (ρ' := fun γ => [(1, ov (PTR gb_2 0)), (41, ov (S rB true))])
       (X' := fun γ => [cvar gb_2 r_api_Frame t_1])
       (fun γ ρ hb hd => (.cons (hb 1 _ rfl (by decide)) (.cons (hdq hd 31 41 rfl) .nil))) (fun _ => rfl) (fun γ => ?_)
   refine JQ.at ⟨[(1, ov (PTR gb_2 0)), (41, ov (S rB true))], [cvar gb_2 r_api_Frame t_1], []⟩ ?_
   replace hx1 := Option.some.inj hx1
   first | subst hx1 | clear hx1
   exact JQ.join () (Imp.norm (js := [0]) rfl (.cons rfl (.cons rfl .nil)))
 replace hx1 := lt1_inv hx1
 obtain ⟨v_4, hv_v_4, hx1⟩ := hx1
 replace hx1 := iteB_inv hx1
 rcases hx1 with ⟨hc5, hx1⟩ | ⟨hc5, hx1⟩
 · refine JC.anyE (kl := []) (kk := 0) (base := [(1, ov (PTR gb_2 0))])
       (fs := fun γ => [⟨some 10, ov (PTR gb_2 (0 + 1))⟩, ⟨some 11, ov (S (rI .i64) t_1.From)⟩, ⟨some 12, ov (S rB v_3)⟩, ⟨some 13, ov (S rB v_3)⟩, ⟨some 14, ov (PTR gb_2 (0 + 1))⟩, ⟨some 15, ov (S (rI .i64) t_1.From)⟩, ⟨some 16, ov (S rB v_4)⟩, ⟨some 17, ov (S rB v_4)⟩, ⟨some 18, ov (S rB v_4)⟩, ⟨some 19, .one .und⟩, ⟨some 20, .one .und⟩, ⟨some 21, .one .und⟩, ⟨some 22, ov (S rB true)⟩, ⟨some 23, ov (S rB true)⟩, ⟨some 24, .one .und⟩, ⟨some 25, .one .und⟩, ⟨some 26, .one .und⟩, ⟨some 27, ov (S rB true)⟩, ⟨some 28, ov (S rB true)⟩, ⟨some 29, .one .und⟩, ⟨some 30, .one .und⟩, ⟨some 31, .one .und⟩, ⟨some 32, .one .und⟩, ⟨some 33, .one .und⟩, ⟨some 34, ov (S rB true)⟩, ⟨some 35, ov (S rB true)⟩, ⟨some 36, .one .und⟩, ⟨some 37, .one .und⟩, ⟨some 38, .one .und⟩, ⟨some 39, .one .und⟩, ⟨some 40, .one .und⟩, ⟨some 41, ov (S rB true)⟩])
       (rs := fun γ => [⟨cvar gb_2 r_api_Frame t_1, none, none, [1, 5]⟩])
       (ds := [10, 11, 12, 13, 14, 15, 16, 17, 18, 19, 20, 21, 22, 23, 24, 25, 26, 27, 28, 29, 30, 31, 32, 33, 34, 35, 36, 37, 38, 39, 40, 41]) (bs := [1]) (afts := [[], [], [], [], [], [], [], [], [], [], [], [], [], [], [], [], [], [], [], [], [], [], [], [], [], [], [], [], [], [], [], []]) (js := [0]) mixed (.cons rfl .nil) (fun _ => rfl)
       (by
      refine dS 1 (fun γ ρ B hb hd => op_fieldAddr (off := 1) lb tf50_1 (.tmp (hb 1 _ rfl))) <| dR 2 (fun γ ρ B hb hd => OpStep.lk ⟨ρ, (cvar gb_2 r_api_Frame t_1) :: B, _⟩ (op_loadS (j := 0) lb tS3 (tl hd 0 10) rfl (cT (comp_api_Frame_From t_1) rfl) rfl rfl)) <| dS 3 (fun γ ρ B hb hd => op_cmpI lb (tl hd 1 11) .cI (congrArg some hv_v_3)) <| dS 4 (fun γ ρ B hb hd => op_move lb (tl hd 2 12)) <| dY 5 (fun γ ρ B hb hd => ⟨.yes rfl (ltB rfl) (hl hd 3 13 rfl) hc3, lkB (op_fieldAddr (off := 1) lb tf50_1 (.tmp (hb 1 _ rfl)))⟩) ?_
      refine dY 6 (fun γ ρ B hb hd => ⟨.yes rfl (ltB rfl) (hl hd 3 13 rfl) hc3, OpStep.lk ⟨ρ, (cvar gb_2 r_api_Frame t_1) :: B, _⟩ (op_loadS (j := 0) lb tS3 (tl hd 4 14) rfl (cT (comp_api_Frame_From t_1) rfl) rfl rfl)⟩) <| dY 7 (fun γ ρ B hb hd => ⟨.yes rfl (ltB rfl) (hl hd 3 13 rfl) hc3, lkB (op_cmpI lb (tl hd 5 15) .cI (congrArg some hv_v_4))⟩) <| dS 8 (fun γ ρ B hb hd => op_pickF lb (tl hd 3 13) hc3 (tl hd 6 16)) <| dS 9 (fun γ ρ B hb hd => op_move lb (tl hd 7 17)) <| dK 10 (fun γ ρ B hb hd => .no rfl (ltB rfl) (hl hd 8 18 rfl) hc5) ?_
      refine dK 11 (fun γ ρ B hb hd => .no rfl (ltB rfl) (hl hd 8 18 rfl) hc5) <| dK 12 (fun γ ρ B hb hd => .no rfl (ltB rfl) (hl hd 8 18 rfl) hc5) <| dS 13 (fun γ ρ B hb hd => op_pickT lb (tl hd 8 18) hc5 .cB) <| dS 14 (fun γ ρ B hb hd => op_move lb (tl hd 12 22)) <| dK 15 (fun γ ρ B hb hd => .no rfl (ltB rfl) (hl hd 13 23 rfl) rfl) ?_
      refine dK 16 (fun γ ρ B hb hd => .no rfl (ltB rfl) (hl hd 13 23 rfl) rfl) <| dK 17 (fun γ ρ B hb hd => .no rfl (ltB rfl) (hl hd 13 23 rfl) rfl) <| dS 18 (fun γ ρ B hb hd => op_pickT lb (tl hd 13 23) rfl .cB) <| dS 19 (fun γ ρ B hb hd => op_move lb (tl hd 17 27)) <| dK 20 (fun γ ρ B hb hd => .no rfl (ltB rfl) (hl hd 18 28 rfl) rfl) ?_
      refine dK 21 (fun γ ρ B hb hd => .no rfl (ltB rfl) (hl hd 18 28 rfl) rfl) <| dK 22 (fun γ ρ B hb hd => .no rfl (ltB rfl) (hl hd 18 28 rfl) rfl) <| dK 23 (fun γ ρ B hb hd => .no rfl (ltB rfl) (hl hd 18 28 rfl) rfl) <| dK 24 (fun γ ρ B hb hd => .no rfl (ltB rfl) (hl hd 18 28 rfl) rfl) <| dS 25 (fun γ ρ B hb hd => op_pickT lb (tl hd 18 28) rfl .cB) ?_
      refine dS 26 (fun γ ρ B hb hd => op_move lb (tl hd 24 34)) <| dK 27 (fun γ ρ B hb hd => .no rfl (ltB rfl) (hl hd 25 35 rfl) rfl) <| dK 28 (fun γ ρ B hb hd => .no rfl (ltB rfl) (hl hd 25 35 rfl) rfl) <| dK 29 (fun γ ρ B hb hd => .no rfl (ltB rfl) (hl hd 25 35 rfl) rfl) <| dK 30 (fun γ ρ B hb hd => .no rfl (ltB rfl) (hl hd 25 35 rfl) rfl) ?_
      refine dK 31 (fun γ ρ B hb hd => .no rfl (ltB rfl) (hl hd 25 35 rfl) rfl) <| dS 32 (fun γ ρ B hb hd => op_pickT lb (tl hd 25 35) rfl .cB) ?_
      exact DSteps.nil)
       (by decide +kernel) (fun _ => rfl) rfl (fun _ => rfl) (fun _ => rfl) rfl (by decide) (by decide) (by decide +kernel) (fun _ d h => by cases h)
       (ρ' := fun γ => [(1, ov (PTR gb_2 0)), (41, ov (S rB true))])
       (X' := fun γ => [cvar gb_2 r_api_Frame t_1])
       (fun γ ρ hb hd => (.cons (hb 1 _ rfl (by decide)) (.cons (hdq hd 31 41 rfl) .nil))) (fun _ => rfl) (fun γ => ?_)
   refine JQ.at ⟨[(1, ov (PTR gb_2 0)), (41, ov (S rB true))], [cvar gb_2 r_api_Frame t_1], []⟩ ?_
   replace hx1 := Option.some.inj hx1
   first | subst hx1 | clear hx1
   exact JQ.join () (Imp.norm (js := [0]) rfl (.cons rfl (.cons rfl .nil)))
 replace hx1 := lt1_inv hx1
 obtain ⟨v_5, hv_v_5, hx1⟩ := hx1
 replace hx1 := iteB_inv hx1
 rcases hx1 with ⟨hc7, hx1⟩ | ⟨hc7, hx1⟩
 · refine JC.anyE (kl := []) (kk := 0) (base := [(1, ov (PTR gb_2 0))])
       (fs := fun γ => [⟨some 10, ov (PTR gb_2 (0 + 1))⟩, ⟨some 11, ov (S (rI .i64) t_1.From)⟩, ⟨some 12, ov (S rB v_3)⟩, ⟨some 13, ov (S rB v_3)⟩, ⟨some 14, ov (PTR gb_2 (0 + 1))⟩, ⟨some 15, ov (S (rI .i64) t_1.From)⟩, ⟨some 16, ov (S rB v_4)⟩, ⟨some 17, ov (S rB v_4)⟩, ⟨some 18, ov (S rB v_4)⟩, ⟨some 19, ov (PTR gb_2 (0 + 2))⟩, ⟨some 20, ov (S (rI .i64) t_1.To)⟩, ⟨some 21, ov (S rB v_5)⟩, ⟨some 22, ov (S rB v_5)⟩, ⟨some 23, ov (S rB v_5)⟩, ⟨some 24, .one .und⟩, ⟨some 25, .one .und⟩, ⟨some 26, .one .und⟩, ⟨some 27, ov (S rB true)⟩, ⟨some 28, ov (S rB true)⟩, ⟨some 29, .one .und⟩, ⟨some 30, .one .und⟩, ⟨some 31, .one .und⟩, ⟨some 32, .one .und⟩, ⟨some 33, .one .und⟩, ⟨some 34, ov (S rB true)⟩, ⟨some 35, ov (S rB true)⟩, ⟨some 36, .one .und⟩, ⟨some 37, .one .und⟩, ⟨some 38, .one .und⟩, ⟨some 39, .one .und⟩, ⟨some 40, .one .und⟩, ⟨some 41, ov (S rB true)⟩])
       (rs := fun γ => [⟨cvar gb_2 r_api_Frame t_1, none, none, [1, 5, 10]⟩])
       (ds := [10, 11, 12, 13, 14, 15, 16, 17, 18, 19, 20, 21, 22, 23, 24, 25, 26, 27, 28, 29, 30, 31, 32, 33, 34, 35, 36, 37, 38, 39, 40, 41]) (bs := [1]) (afts := [[], [], [], [], [], [], [], [], [], [], [], [], [], [], [], [], [], [], [], [], [], [], [], [], [], [], [], [], [], [], [], []]) (js := [0]) mixed (.cons rfl .nil) (fun _ => rfl)
       (by
      refine dS 1 (fun γ ρ B hb hd => op_fieldAddr (off := 1) lb tf50_1 (.tmp (hb 1 _ rfl))) <| dR 2 (fun γ ρ B hb hd => OpStep.lk ⟨ρ, (cvar gb_2 r_api_Frame t_1) :: B, _⟩ (op_loadS (j := 0) lb tS3 (tl hd 0 10) rfl (cT (comp_api_Frame_From t_1) rfl) rfl rfl)) <| dS 3 (fun γ ρ B hb hd => op_cmpI lb (tl hd 1 11) .cI (congrArg some hv_v_3)) <| dS 4 (fun γ ρ B hb hd => op_move lb (tl hd 2 12)) <| dY 5 (fun γ ρ B hb hd => ⟨.yes rfl (ltB rfl) (hl hd 3 13 rfl) hc3, lkB (op_fieldAddr (off := 1) lb tf50_1 (.tmp (hb 1 _ rfl)))⟩) ?_
      refine dY 6 (fun γ ρ B hb hd => ⟨.yes rfl (ltB rfl) (hl hd 3 13 rfl) hc3, OpStep.lk ⟨ρ, (cvar gb_2 r_api_Frame t_1) :: B, _⟩ (op_loadS (j := 0) lb tS3 (tl hd 4 14) rfl (cT (comp_api_Frame_From t_1) rfl) rfl rfl)⟩) <| dY 7 (fun γ ρ B hb hd => ⟨.yes rfl (ltB rfl) (hl hd 3 13 rfl) hc3, lkB (op_cmpI lb (tl hd 5 15) .cI (congrArg some hv_v_4))⟩) <| dS 8 (fun γ ρ B hb hd => op_pickF lb (tl hd 3 13) hc3 (tl hd 6 16)) <| dS 9 (fun γ ρ B hb hd => op_move lb (tl hd 7 17)) <| dY 10 (fun γ ρ B hb hd => ⟨.yes rfl (ltB rfl) (hl hd 8 18 rfl) hc5, lkB (op_fieldAddr (off := 2) lb tf50_2 (.tmp (hb 1 _ rfl)))⟩) ?_
      refine dY 11 (fun γ ρ B hb hd => ⟨.yes rfl (ltB rfl) (hl hd 8 18 rfl) hc5, OpStep.lk ⟨ρ, (cvar gb_2 r_api_Frame t_1) :: B, _⟩ (op_loadS (j := 0) lb tS3 (tl hd 9 19) rfl (cT (comp_api_Frame_To t_1) rfl) rfl rfl)⟩) <| dY 12 (fun γ ρ B hb hd => ⟨.yes rfl (ltB rfl) (hl hd 8 18 rfl) hc5, lkB (op_cmpI lb (tl hd 10 20) .cI (congrArg some hv_v_5))⟩) <| dS 13 (fun γ ρ B hb hd => op_pickF lb (tl hd 8 18) hc5 (tl hd 11 21)) <| dS 14 (fun γ ρ B hb hd => op_move lb (tl hd 12 22)) <| dK 15 (fun γ ρ B hb hd => .no rfl (ltB rfl) (hl hd 13 23 rfl) hc7) ?_
      refine dK 16 (fun γ ρ B hb hd => .no rfl (ltB rfl) (hl hd 13 23 rfl) hc7) <| dK 17 (fun γ ρ B hb hd => .no rfl (ltB rfl) (hl hd 13 23 rfl) hc7) <| dS 18 (fun γ ρ B hb hd => op_pickT lb (tl hd 13 23) hc7 .cB) <| dS 19 (fun γ ρ B hb hd => op_move lb (tl hd 17 27)) <| dK 20 (fun γ ρ B hb hd => .no rfl (ltB rfl) (hl hd 18 28 rfl) rfl) ?_
      refine dK 21 (fun γ ρ B hb hd => .no rfl (ltB rfl) (hl hd 18 28 rfl) rfl) <| dK 22 (fun γ ρ B hb hd => .no rfl (ltB rfl) (hl hd 18 28 rfl) rfl) <| dK 23 (fun γ ρ B hb hd => .no rfl (ltB rfl) (hl hd 18 28 rfl) rfl) <| dK 24 (fun γ ρ B hb hd => .no rfl (ltB rfl) (hl hd 18 28 rfl) rfl) <| dS 25 (fun γ ρ B hb hd => op_pickT lb (tl hd 18 28) rfl .cB) ?_
      refine dS 26 (fun γ ρ B hb hd => op_move lb (tl hd 24 34)) <| dK 27 (fun γ ρ B hb hd => .no rfl (ltB rfl) (hl hd 25 35 rfl) rfl) <| dK 28 (fun γ ρ B hb hd => .no rfl (ltB rfl) (hl hd 25 35 rfl) rfl) <| dK 29 (fun γ ρ B hb hd => .no rfl (ltB rfl) (hl hd 25 35 rfl) rfl) <| dK 30 (fun γ ρ B hb hd => .no rfl (ltB rfl) (hl hd 25 35 rfl) rfl) ?_
      refine dK 31 (fun γ ρ B hb hd => .no rfl (ltB rfl) (hl hd 25 35 rfl) rfl) <| dS 32 (fun γ ρ B hb hd => op_pickT lb (tl hd 25 35) rfl .cB) ?_
      exact DSteps.nil)
       (by decide +kernel) (fun _ => rfl) rfl (fun _ => rfl) (fun _ => rfl) rfl (by decide) (by decide) (by decide +kernel) (fun _ d h => by cases h)
       (ρ' := fun γ => [(1, ov (PTR gb_2 0)), (41, ov (S rB true))])
       (X' := fun γ => [cvar gb_2 r_api_Frame t_1])
       (fun γ ρ hb hd => (.cons (hb 1 _ rfl (by decide)) (.cons (hdq hd 31 41 rfl) .nil))) (fun _ => rfl) (fun γ => ?_)
   refine JQ.at ⟨[(1, ov (PTR gb_2 0)), (41, ov (S rB true))], [cvar gb_2 r_api_Frame t_1], []⟩ ?_
   replace hx1 := Option.some.inj hx1
   first | subst hx1 | clear hx1
   exact JQ.join () (Imp.norm (js := [0]) rfl (.cons rfl (.cons rfl .nil)))
 replace hx1 := lt1_inv hx1
 obtain ⟨v_6, hv_v_6, hx1⟩ := hx1
 replace hx1 := iteB_inv hx1
 rcases hx1 with ⟨hc9, hx1⟩ | ⟨hc9, hx1⟩
 · refine JC.anyE (kl := []) (kk := 0) (base := [(1, ov (PTR gb_2 0))])
       (fs := fun γ => [⟨some 10, ov (PTR gb_2 (0 + 1))⟩, ⟨some 11, ov (S (rI .i64) t_1.From)⟩, ⟨some 12, ov (S rB v_3)⟩, ⟨some 13, ov (S rB v_3)⟩, ⟨some 14, ov (PTR gb_2 (0 + 1))⟩, ⟨some 15, ov (S (rI .i64) t_1.From)⟩, ⟨some 16, ov (S rB v_4)⟩, ⟨some 17, ov (S rB v_4)⟩, ⟨some 18, ov (S rB v_4)⟩, ⟨some 19, ov (PTR gb_2 (0 + 2))⟩, ⟨some 20, ov (S (rI .i64) t_1.To)⟩, ⟨some 21, ov (S rB v_5)⟩, ⟨some 22, ov (S rB v_5)⟩, ⟨some 23, ov (S rB v_5)⟩, ⟨some 24, ov (PTR gb_2 (0 + 2))⟩, ⟨some 25, ov (S (rI .i64) t_1.To)⟩, ⟨some 26, ov (S rB v_6)⟩, ⟨some 27, ov (S rB v_6)⟩, ⟨some 28, ov (S rB v_6)⟩, ⟨some 29, .one .und⟩, ⟨some 30, .one .und⟩, ⟨some 31, .one .und⟩, ⟨some 32, .one .und⟩, ⟨some 33, .one .und⟩, ⟨some 34, ov (S rB true)⟩, ⟨some 35, ov (S rB true)⟩, ⟨some 36, .one .und⟩, ⟨some 37, .one .und⟩, ⟨some 38, .one .und⟩, ⟨some 39, .one .und⟩, ⟨some 40, .one .und⟩, ⟨some 41, ov (S rB true)⟩])
       (rs := fun γ => [⟨cvar gb_2 r_api_Frame t_1, none, none, [1, 5, 10, 15]⟩])
       (ds := [10, 11, 12, 13, 14, 15, 16, 17, 18, 19, 20, 21, 22, 23, 24, 25, 26, 27, 28, 29, 30, 31, 32, 33, 34, 35, 36, 37, 38, 39, 40, 41]) (bs := [1]) (afts := [[], [], [], [], [], [], [], [], [], [], [], [], [], [], [], [], [], [], [], [], [], [], [], [], [], [], [], [], [], [], [], []]) (js := [0]) mixed (.cons rfl .nil) (fun _ => rfl)
       (by
      refine dS 1 (fun γ ρ B hb hd => op_fieldAddr (off := 1) lb tf50_1 (.tmp (hb 1 _ rfl))) <| dR 2 (fun γ ρ B hb hd => OpStep.lk ⟨ρ, (cvar gb_2 r_api_Frame t_1) :: B, _⟩ (op_loadS (j := 0) lb tS3 (tl hd 0 10) rfl (cT (comp_api_Frame_From t_1) rfl) rfl rfl)) <| dS 3 (fun γ ρ B hb hd => op_cmpI lb (tl hd 1 11) .cI (congrArg some hv_v_3)) <| dS 4 (fun γ ρ B hb hd => op_move lb (tl hd 2 12)) <| dY 5 (fun γ ρ B hb hd => ⟨.yes rfl (ltB rfl) (hl hd 3 13 rfl) hc3, lkB (op_fieldAddr (off := 1) lb tf50_1 (.tmp (hb 1 _ rfl)))⟩) ?_
      refine dY 6 (fun γ ρ B hb hd => ⟨.yes rfl (ltB rfl) (hl hd 3 13 rfl) hc3, OpStep.lk ⟨ρ, (cvar gb_2 r_api_Frame t_1) :: B, _⟩ (op_loadS (j := 0) lb tS3 (tl hd 4 14) rfl (cT (comp_api_Frame_From t_1) rfl) rfl rfl)⟩) <| dY 7 (fun γ ρ B hb hd => ⟨.yes rfl (ltB rfl) (hl hd 3 13 rfl) hc3, lkB (op_cmpI lb (tl hd 5 15) .cI (congrArg some hv_v_4))⟩) <| dS 8 (fun γ ρ B hb hd => op_pickF lb (tl hd 3 13) hc3 (tl hd 6 16)) <| dS 9 (fun γ ρ B hb hd => op_move lb (tl hd 7 17)) <| dY 10 (fun γ ρ B hb hd => ⟨.yes rfl (ltB rfl) (hl hd 8 18 rfl) hc5, lkB (op_fieldAddr (off := 2) lb tf50_2 (.tmp (hb 1 _ rfl)))⟩) ?_
      refine dY 11 (fun γ ρ B hb hd => ⟨.yes rfl (ltB rfl) (hl hd 8 18 rfl) hc5, OpStep.lk ⟨ρ, (cvar gb_2 r_api_Frame t_1) :: B, _⟩ (op_loadS (j := 0) lb tS3 (tl hd 9 19) rfl (cT (comp_api_Frame_To t_1) rfl) rfl rfl)⟩) <| dY 12 (fun γ ρ B hb hd => ⟨.yes rfl (ltB rfl) (hl hd 8 18 rfl) hc5, lkB (op_cmpI lb (tl hd 10 20) .cI (congrArg some hv_v_5))⟩) <| dS 13 (fun γ ρ B hb hd => op_pickF lb (tl hd 8 18) hc5 (tl hd 11 21)) <| dS 14 (fun γ ρ B hb hd => op_move lb (tl hd 12 22)) <| dY 15 (fun γ ρ B hb hd => ⟨.yes rfl (ltB rfl) (hl hd 13 23 rfl) hc7, lkB (op_fieldAddr (off := 2) lb tf50_2 (.tmp (hb 1 _ rfl)))⟩) ?_
      refine dY 16 (fun γ ρ B hb hd => ⟨.yes rfl (ltB rfl) (hl hd 13 23 rfl) hc7, OpStep.lk ⟨ρ, (cvar gb_2 r_api_Frame t_1) :: B, _⟩ (op_loadS (j := 0) lb tS3 (tl hd 14 24) rfl (cT (comp_api_Frame_To t_1) rfl) rfl rfl)⟩) <| dY 17 (fun γ ρ B hb hd => ⟨.yes rfl (ltB rfl) (hl hd 13 23 rfl) hc7, lkB (op_cmpI lb (tl hd 15 25) .cI (congrArg some hv_v_6))⟩) <| dS 18 (fun γ ρ B hb hd => op_pickF lb (tl hd 13 23) hc7 (tl hd 16 26)) <| dS 19 (fun γ ρ B hb hd => op_move lb (tl hd 17 27)) <| dK 20 (fun γ ρ B hb hd => .no rfl (ltB rfl) (hl hd 18 28 rfl) hc9) ?_
      refine dK 21 (fun γ ρ B hb hd => .no rfl (ltB rfl) (hl hd 18 28 rfl) hc9) <| dK 22 (fun γ ρ B hb hd => .no rfl (ltB rfl) (hl hd 18 28 rfl) hc9) <| dK 23 (fun γ ρ B hb hd => .no rfl (ltB rfl) (hl hd 18 28 rfl) hc9) <| dK 24 (fun γ ρ B hb hd => .no rfl (ltB rfl) (hl hd 18 28 rfl) hc9) <| dS 25 (fun γ ρ B hb hd => op_pickT lb (tl hd 18 28) hc9 .cB) ?_
      refine dS 26 (fun γ ρ B hb hd => op_move lb (tl hd 24 34)) <| dK 27 (fun γ ρ B hb hd => .no rfl (ltB rfl) (hl hd 25 35 rfl) rfl) <| dK 28 (fun γ ρ B hb hd => .no rfl (ltB rfl) (hl hd 25 35 rfl) rfl) <| dK 29 (fun γ ρ B hb hd => .no rfl (ltB rfl) (hl hd 25 35 rfl) rfl) <| dK 30 (fun γ ρ B hb hd => .no rfl (ltB rfl) (hl hd 25 35 rfl) rfl) ?_
      refine dK 31 (fun γ ρ B hb hd => .no rfl (ltB rfl) (hl hd 25 35 rfl) rfl) <| dS 32 (fun γ ρ B hb hd => op_pickT lb (tl hd 25 35) rfl .cB) ?_
      exact DSteps.nil)
       (by decide +kernel) (fun _ => rfl) rfl (fun _ => rfl) (fun _ => rfl) rfl (by decide) (by decide) (by decide +kernel) (fun _ d h => by cases h)
       (ρ' := fun γ => [(1, ov (PTR gb_2 0)), (41, ov (S rB true))])
       (X' := fun γ => [cvar gb_2 r_api_Frame t_1])
       (fun γ ρ hb hd => (.cons (hb 1 _ rfl (by decide)) (.cons (hdq hd 31 41 rfl) .nil))) (fun _ => rfl) (fun γ => ?_)
   refine JQ.at ⟨[(1, ov (PTR gb_2 0)), (41, ov (S rB true))], [cvar gb_2 r_api_Frame t_1], []⟩ ?_
   replace hx1 := Option.some.inj hx1
   first | subst hx1 | clear hx1
   exact JQ.join () (Imp.norm (js := [0]) rfl (.cons rfl (.cons rfl .nil)))
 replace hx1 := lt1_inv hx1
 obtain ⟨v_7, hv_v_7, hx1⟩ := hx1
 replace hx1 := bnd_inv hx1
 obtain ⟨v_8, hv_v_8, hx1⟩ := hx1
 replace hx1 := bnd_inv hx1
 obtain ⟨v_9, hv_v_9, hx1⟩ := hx1
 replace hx1 := lt1_inv hx1
 obtain ⟨v_10, hv_v_10, hx1⟩ := hx1
 replace hx1 := lt1_inv hx1
 obtain ⟨v_11, hv_v_11, hx1⟩ := hx1
 refine JC.anyE (kl := []) (kk := 0) (base := [(1, ov (PTR gb_2 0))])
     (fs := fun γ => [⟨some 10, ov (PTR gb_2 (0 + 1))⟩, ⟨some 11, ov (S (rI .i64) t_1.From)⟩, ⟨some 12, ov (S rB v_3)⟩, ⟨some 13, ov (S rB v_3)⟩, ⟨some 14, ov (PTR gb_2 (0 + 1))⟩, ⟨some 15, ov (S (rI .i64) t_1.From)⟩, ⟨some 16, ov (S rB v_4)⟩, ⟨some 17, ov (S rB v_4)⟩, ⟨some 18, ov (S rB v_4)⟩, ⟨some 19, ov (PTR gb_2 (0 + 2))⟩, ⟨some 20, ov (S (rI .i64) t_1.To)⟩, ⟨some 21, ov (S rB v_5)⟩, ⟨some 22, ov (S rB v_5)⟩, ⟨some 23, ov (S rB v_5)⟩, ⟨some 24, ov (PTR gb_2 (0 + 2))⟩, ⟨some 25, ov (S (rI .i64) t_1.To)⟩, ⟨some 26, ov (S rB v_6)⟩, ⟨some 27, ov (S rB v_6)⟩, ⟨some 28, ov (S rB v_6)⟩, ⟨some 29, ov (PTR gb_2 (0 + 1))⟩, ⟨some 30, ov (S (rI .i64) t_1.From)⟩, ⟨some 31, ov (PTR gb_2 (0 + 2))⟩, ⟨some 32, ov (S (rI .i64) t_1.To)⟩, ⟨some 33, ov (S rB v_7)⟩, ⟨some 34, ov (S rB v_7)⟩, ⟨some 35, ov (S rB v_7)⟩, ⟨some 36, bif (!v_7) then ov (A r_api_Frame t_1) else .one .und⟩, ⟨some 37, bif (!v_7) then ov (A r_api_Frame t_1) else .one .und⟩, ⟨some 38, bif (!v_7) then ov (A r_api_Frame v_8) else .one .und⟩, ⟨some 39, bif (!v_7) then ov (S rB v_9) else .one .und⟩, ⟨some 40, bif (!v_7) then ov (S rB v_10) else .one .und⟩, ⟨some 41, ov (S rB v_11)⟩])
     (rs := fun γ => [⟨cvar gb_2 r_api_Frame t_1, none, none, [1, 5, 10, 15, 20, 22, 26, 27]⟩])
     (ds := [10, 11, 12, 13, 14, 15, 16, 17, 18, 19, 20, 21, 22, 23, 24, 25, 26, 27, 28, 29, 30, 31, 32, 33, 34, 35, 36, 37, 38, 39, 40, 41]) (bs := [1]) (afts := [[], [], [], [], [], [], [], [], [], [], [], [], [], [], [], [], [], [], [], [], [], [], [], [], [], [], [], [], [], [], [], []]) (js := [0]) mixed (.cons rfl .nil) (fun _ => rfl)
     (by
      refine dS 1 (fun γ ρ B hb hd => op_fieldAddr (off := 1) lb tf50_1 (.tmp (hb 1 _ rfl))) <| dR 2 (fun γ ρ B hb hd => OpStep.lk ⟨ρ, (cvar gb_2 r_api_Frame t_1) :: B, _⟩ (op_loadS (j := 0) lb tS3 (tl hd 0 10) rfl (cT (comp_api_Frame_From t_1) rfl) rfl rfl)) <| dS 3 (fun γ ρ B hb hd => op_cmpI lb (tl hd 1 11) .cI (congrArg some hv_v_3)) <| dS 4 (fun γ ρ B hb hd => op_move lb (tl hd 2 12)) <| dY 5 (fun γ ρ B hb hd => ⟨.yes rfl (ltB rfl) (hl hd 3 13 rfl) hc3, lkB (op_fieldAddr (off := 1) lb tf50_1 (.tmp (hb 1 _ rfl)))⟩) ?_
      refine dY 6 (fun γ ρ B hb hd => ⟨.yes rfl (ltB rfl) (hl hd 3 13 rfl) hc3, OpStep.lk ⟨ρ, (cvar gb_2 r_api_Frame t_1) :: B, _⟩ (op_loadS (j := 0) lb tS3 (tl hd 4 14) rfl (cT (comp_api_Frame_From t_1) rfl) rfl rfl)⟩) <| dY 7 (fun γ ρ B hb hd => ⟨.yes rfl (ltB rfl) (hl hd 3 13 rfl) hc3, lkB (op_cmpI lb (tl hd 5 15) .cI (congrArg some hv_v_4))⟩) <| dS 8 (fun γ ρ B hb hd => op_pickF lb (tl hd 3 13) hc3 (tl hd 6 16)) <| dS 9 (fun γ ρ B hb hd => op_move lb (tl hd 7 17)) <| dY 10 (fun γ ρ B hb hd => ⟨.yes rfl (ltB rfl) (hl hd 8 18 rfl) hc5, lkB (op_fieldAddr (off := 2) lb tf50_2 (.tmp (hb 1 _ rfl)))⟩) ?_
      refine dY 11 (fun γ ρ B hb hd => ⟨.yes rfl (ltB rfl) (hl hd 8 18 rfl) hc5, OpStep.lk ⟨ρ, (cvar gb_2 r_api_Frame t_1) :: B, _⟩ (op_loadS (j := 0) lb tS3 (tl hd 9 19) rfl (cT (comp_api_Frame_To t_1) rfl) rfl rfl)⟩) <| dY 12 (fun γ ρ B hb hd => ⟨.yes rfl (ltB rfl) (hl hd 8 18 rfl) hc5, lkB (op_cmpI lb (tl hd 10 20) .cI (congrArg some hv_v_5))⟩) <| dS 13 (fun γ ρ B hb hd => op_pickF lb (tl hd 8 18) hc5 (tl hd 11 21)) <| dS 14 (fun γ ρ B hb hd => op_move lb (tl hd 12 22)) <| dY 15 (fun γ ρ B hb hd => ⟨.yes rfl (ltB rfl) (hl hd 13 23 rfl) hc7, lkB (op_fieldAddr (off := 2) lb tf50_2 (.tmp (hb 1 _ rfl)))⟩) ?_
      refine dY 16 (fun γ ρ B hb hd => ⟨.yes rfl (ltB rfl) (hl hd 13 23 rfl) hc7, OpStep.lk ⟨ρ, (cvar gb_2 r_api_Frame t_1) :: B, _⟩ (op_loadS (j := 0) lb tS3 (tl hd 14 24) rfl (cT (comp_api_Frame_To t_1) rfl) rfl rfl)⟩) <| dY 17 (fun γ ρ B hb hd => ⟨.yes rfl (ltB rfl) (hl hd 13 23 rfl) hc7, lkB (op_cmpI lb (tl hd 15 25) .cI (congrArg some hv_v_6))⟩) <| dS 18 (fun γ ρ B hb hd => op_pickF lb (tl hd 13 23) hc7 (tl hd 16 26)) <| dS 19 (fun γ ρ B hb hd => op_move lb (tl hd 17 27)) <| dY 20 (fun γ ρ B hb hd => ⟨.yes rfl (ltB rfl) (hl hd 18 28 rfl) hc9, lkB (op_fieldAddr (off := 1) lb tf50_1 (.tmp (hb 1 _ rfl)))⟩) ?_
      refine dY 21 (fun γ ρ B hb hd => ⟨.yes rfl (ltB rfl) (hl hd 18 28 rfl) hc9, OpStep.lk ⟨ρ, (cvar gb_2 r_api_Frame t_1) :: B, _⟩ (op_loadS (j := 0) lb tS3 (tl hd 19 29) rfl (cT (comp_api_Frame_From t_1) rfl) rfl rfl)⟩) <| dY 22 (fun γ ρ B hb hd => ⟨.yes rfl (ltB rfl) (hl hd 18 28 rfl) hc9, lkB (op_fieldAddr (off := 2) lb tf50_2 (.tmp (hb 1 _ rfl)))⟩) <| dY 23 (fun γ ρ B hb hd => ⟨.yes rfl (ltB rfl) (hl hd 18 28 rfl) hc9, OpStep.lk ⟨ρ, (cvar gb_2 r_api_Frame t_1) :: B, _⟩ (op_loadS (j := 0) lb tS3 (tl hd 21 31) rfl (cT (comp_api_Frame_To t_1) rfl) rfl rfl)⟩) <| dY 24 (fun γ ρ B hb hd => ⟨.yes rfl (ltB rfl) (hl hd 18 28 rfl) hc9, lkB (op_cmpI lb (tl hd 20 30) (tl hd 22 32) (congrArg some hv_v_7))⟩) <| dS 25 (fun γ ρ B hb hd => op_pickF lb (tl hd 18 28) hc9 (tl hd 23 33)) ?_
      refine dS 26 (fun γ ρ B hb hd => op_move lb (tl hd 24 34)) ?_
      refine DSteps.cons (j := 27) rfl (fun _ => rfl) (.cnd (q := (!v_7)) (sv := fun γ => ov (A r_api_Frame t_1)) (fun _ => rfl) (fun _ => rfl) (fun d h => by cases h; exact ltB rfl) (fun _ => rfl) (fun γ ρ B hb hd => ⟨(Guard.isF (ltB rfl) rfl (hl hd 25 35 rfl)), fun hq_10 => OpStep.lk ⟨ρ, (cvar gb_2 r_api_Frame t_1) :: B, _⟩ (op_loadA (j := 0) lb tA50 (.tmp (hb 1 _ rfl)) rfl (Comp.self r_api_Frame t_1) rfl)⟩)) ?_
      refine DSteps.cons (j := 28) rfl (fun _ => rfl) (.cnd (q := (!v_7)) (sv := fun γ => ov (A r_api_Frame t_1)) (fun _ => rfl) (fun _ => rfl) (fun d h => by cases h; exact ltB rfl) (fun _ => rfl) (fun γ ρ B hb hd => ⟨(Guard.isF (ltB rfl) rfl (hl hd 25 35 rfl)), fun hq_11 => OpStep.lk ⟨ρ, (cvar gb_2 r_api_Frame t_1) :: B, _⟩ (op_loadA (j := 0) lb tA50 (.tmp (hb 1 _ rfl)) rfl (Comp.self r_api_Frame t_1) rfl)⟩)) ?_
      refine dC 29 (!v_7) (fun γ => ov (A r_api_Frame v_8)) (fun γ ρ B hb hd => ⟨(Guard.isF (ltB rfl) rfl (hl hd 25 35 rfl)), fun hq_12 => (op_call (js := []) ld cl22 (sim_frame_bare k t_1 v_8 (ifT hv_v_8 hq_12)) .func (.cons (HasO.cnd (tl hd 27 37) (notT (notF hq_12))) .nil) rfl).post (fun _ => Imp.refl)⟩) ?_
      refine dC 30 (!v_7) (fun γ => ov (S rB v_9)) (fun γ ρ B hb hd => ⟨(Guard.isF (ltB rfl) rfl (hl hd 25 35 rfl)), fun hq_13 => (op_call (js := []) ld cl21 (sim_frame_Same k t_1 v_8 v_9 (ifT hv_v_9 hq_13)) .func (.cons (HasO.cnd (tl hd 26 36) (notT (notF hq_13))) (.cons (HasO.cnd (tl hd 28 38) (notT (notF hq_13))) .nil)) rfl).post (fun _ => Imp.refl)⟩) ?_
      refine dC 31 (!v_7) (fun γ => ov (S rB v_10)) (fun γ ρ B hb hd => ⟨(Guard.isF (ltB rfl) rfl (hl hd 25 35 rfl)), fun hq_14 => op_not lb (HasO.cnd (tl hd 29 39) (notT (notF hq_14))) hv_v_10⟩) ?_
      refine dS 32 (fun γ ρ B hb hd => op_pickCS lb (tl hd 25 35) (fun hb15 => .cB) (fun hb15 => (HasO.cnd (tl hd 30 40) (notT hb15))) hv_v_11) ?_
      exact DSteps.nil)
     (by decide +kernel) (fun _ => rfl) rfl (fun _ => rfl) (fun _ => rfl) rfl (by decide) (by decide) (by decide +kernel) (fun _ d h => by cases h)
     (ρ' := fun γ => [(1, ov (PTR gb_2 0)), (41, ov (S rB v_11))])
     (X' := fun γ => [cvar gb_2 r_api_Frame t_1])
     (fun γ ρ hb hd => (.cons (hb 1 _ rfl (by decide)) (.cons (hdq hd 31 41 rfl) .nil))) (fun _ => rfl) (fun γ => ?_)
 refine JQ.at ⟨[(1, ov (PTR gb_2 0)), (41, ov (S rB v_11))], [cvar gb_2 r_api_Frame t_1], []⟩ ?_
 replace hx1 := Option.some.inj hx1
 first | subst hx1 | clear hx1
 exact JQ.join () (Imp.norm (js := [0]) rfl (.cons rfl (.cons rfl .nil)))

end Go.Proofs.Ytklnihlchhhhlaa
