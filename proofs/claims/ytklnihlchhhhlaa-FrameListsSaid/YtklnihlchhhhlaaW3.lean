/- Walks. -/
import Derived.Test.YtklnihlchhhhlaaT
import Derived.Test.YtklnihlchhhhlaaW2
namespace Go.Proofs.Ytklnihlchhhhlaa
open Go Fw
set_option linter.unusedVariables false
set_option maxRecDepth 100000
set_option maxHeartbeats 4000000

theorem sim_event_May (k : Nat) (t_1 : api_Event) (r : Bool) (hm : event_May k t_1 = some r) : Sim Try.prog 25 [A r_api_Event t_1] [] (γ := Unit) (fun q => []) (fun q => .one (.val (S rB r))) := by
 unfold event_May at hm
 refine Sim.of Try.func25 rfl rfl (lE rfl) (fun e0 w0 => ?_)
 refine JC.at ⟨[(0, ov (A r_api_Event t_1))], [], []⟩ ?_
 refine jr ?_
 refine jx (op_boxA lb (.tmp rfl)) (fun q => ?_)
 obtain ⟨gb_2, hqq⟩ : ∃ z, z = q := ⟨_, rfl⟩
 subst hqq
 refine jc (op_assign lb .cB) <| jn ?_
 refine JC.scope ?_
 refine JC.seq ?_
 replace hm := bnd_inv hm
 obtain ⟨x_12, hx1, hq1⟩ := hm
 refine JC.seqJ (γ := Unit) (stj := fun _ => ⟨[(1, ov (PTR gb_2 0)), (29, ov (S rB x_12))], [cvar gb_2 r_api_Event t_1], []⟩) (fun _ => ?_) ?_
 · replace hq1 := iteB_inv hq1
   rcases hq1 with ⟨hc6, hq1⟩ | ⟨hc6, hq1⟩
   · refine JC.condT (.tmp rfl) hc6 ?_
     refine jr <| jc (op_assign lb .cB) <| jn ?_
     refine JC.ret ?_
     refine JQ.outR ?_
     refine JQ.scR ?_
     replace hq1 := Option.some.inj hq1
     subst hq1
     exact JQ.done (js := []) (ss := [.val (S rB false)]) () (.inl rfl) (.nil rfl) rfl (.cons (.tmp rfl) .nil) rfl rfl rfl
   refine JC.condF (.tmp rfl) hc6 ?_
   refine JC.skip ?_
   refine JQ.then <| JC.seq ?_
   replace hq1 := bnd_inv hq1
   obtain ⟨x_17, hx7, hq7⟩ := hq1
   refine JC.seqJ (γ := Unit) (stj := fun _ => ⟨[(1, ov (PTR gb_2 0)), (45, ov (S rB x_17))], [cvar gb_2 r_api_Event t_1], []⟩) (fun _ => ?_) ?_
   · replace hq7 := iteB_inv hq7
     rcases hq7 with ⟨hc12, hq7⟩ | ⟨hc12, hq7⟩
     · refine JC.condT (.tmp rfl) hc12 ?_
       refine jr <| jc (op_assign lb .cB) <| jn ?_
       refine JC.ret ?_
       refine JQ.outR ?_
       refine JQ.scR ?_
       replace hq7 := Option.some.inj hq7
       subst hq7
       exact JQ.done (js := []) (ss := [.val (S rB false)]) () (.inl rfl) (.nil rfl) rfl (.cons (.tmp rfl) .nil) rfl rfl rfl
     refine JC.condF (.tmp rfl) hc12 ?_
     refine JC.skip ?_
     refine JQ.then <| jr <| jc (op_assign lb .cB) <| jn <| JC.seq ?_
     refine JC.label ?_
     refine JQ.then ?_
     replace hq7 := bnd_inv hq7
     obtain ⟨x_32, hx13, hq13⟩ := hq7
     refine JC.seqJ (γ := Unit) (stj := fun _ => ⟨[(3, ov (S rB x_32))], [], []⟩) (fun _ => ?_) ?_
     · refine jr <| jmv rfl rfl <| jc (op_assign lb (.tmp rfl)) <| jn ?_
       refine JC.ret ?_
       refine JQ.scR ?_
       replace hq13 := Option.some.inj hq13
       subst hq13
       exact JQ.done (js := []) (ss := [.val (S rB x_32)]) () (.inl rfl) (.nil rfl) rfl (.cons (.tmp rfl) .nil) rfl rfl rfl
     refine jr <| jc (op_fieldAddr (off := 20) lb tf43_4 (.tmp rfl)) <| jc (op_loadS (j := 0) lb tS41 (.tmp rfl) rfl (cT (comp_api_Event_To t_1) rfl) rfl rfl) <| jc (op_lenL lb tu41 (.tmp rfl)) <| jc (op_move lb .cI) ?_
     refine jn <| JC.block ?_
     refine JC.pre ?_ (JC.loop (γ := Unit) (stf := fun s q => ⟨[(1, ov (PTR gb_2 0)), (3, ov (S rB s.1)), (47, ov (S (rL r_api_Dest) t_1.To)), (48, ov (S (rI .i64) (List.length t_1.To : Int))), (49, ov (S (rI .i64) s.2))], [cvar gb_2 r_api_Event t_1], []⟩) (q := ()) hx13 ?_)
     · exact (Imp.norm (js := [0]) rfl (.cons rfl (.cons rfl (.cons rfl (.cons rfl (.cons rfl .nil))))))
     intro s q x hx hr
     obtain ⟨x_18, x_19⟩ := s
     obtain _ := q
     change event_May.b1 k t_1 x_18 x_19 = some x at hx
     unfold event_May.b1 at hx
     refine JC.at ⟨[(1, ov (PTR gb_2 0)), (3, ov (S rB x_18)), (47, ov (S (rL r_api_Dest) t_1.To)), (48, ov (S (rI .i64) (List.length t_1.To : Int))), (49, ov (S (rI .i64) x_19))], [cvar gb_2 r_api_Event t_1], []⟩ ?_
     refine jr ?_
     replace hx := lt1_inv hx
     obtain ⟨v_20, hv_v_20, hx⟩ := hx
     refine jc (op_cmpI lb (.tmp rfl) (.tmp rfl) (congrArg some hv_v_20)) <| jn <| JC.seq ?_
     replace hx := iteB_inv hx
     rcases hx with ⟨hc15, hx⟩ | ⟨hc15, hx⟩
     · refine JC.condT (.tmp rfl) hc15 ?_
       refine JC.skip ?_
       refine JQ.then <| JC.seq <| JC.block <| jr <| jmv rfl rfl ?_
       replace hx := bnd_inv hx
       obtain ⟨v_21, hv_v_21, hx⟩ := hx
       refine jc (op_indexAddrLg lb tu41 tz110 (.tmp rfl) (.tmp rfl) hv_v_21) <| jc (op_loadPAg lb tA110 (.tmp rfl) rfl) ?_
       refine jx (op_alloc lb tZ110 zr110) (fun q => ?_)
       obtain ⟨gb_22, hqq⟩ : ∃ z, z = q := ⟨_, rfl⟩
       subst hqq
       refine jc (op_assign lb (.tmp rfl)) <| jc (op_storeA (j := 1) tA110 (.tmp rfl) (.tmp rfl) rfl (UpdR.self (by rfl)) rfl) <| jn ?_
       replace hx := bnd_inv hx
       obtain ⟨x_29, hx16, hq16⟩ := hx
       refine JC.seqJ (γ := Unit) (stj := fun _ => ⟨[(1, ov (PTR gb_2 0)), (3, ov (S rB x_29)), (47, ov (S (rL r_api_Dest) t_1.To)), (48, ov (S (rI .i64) (List.length t_1.To : Int))), (49, ov (S (rI .i64) x_19))], [cvar gb_2 r_api_Event t_1], []⟩) (fun _ => ?_) ?_
       · refine jr <| jmv rfl rfl ?_
         replace hq16 := lt1_inv hq16
         obtain ⟨v_30, hv_v_30, hq16⟩ := hq16
         refine jc (op_not lb (.tmp rfl) hv_v_30) <| jn ?_
         replace hq16 := iteB_inv hq16
         rcases hq16 with ⟨hc26, hq16⟩ | ⟨hc26, hq16⟩
         · refine JC.condT (.tmp rfl) hc26 ?_
           refine JC.exit ?_
           refine JQ.outE (by decide) ?_
           refine JQ.outX ?_
           replace hq16 := Option.some.inj hq16
           first | subst hq16 | clear hq16
           have ht := hr _ rfl
           have hq14 := congrArg some ht
           clear hr ht
           refine JQ.outX ?_
           refine JQ.here ?_
           replace hq14 := Option.some.inj hq14
           first | subst hq14 | clear hq14
           exact JQ.join () (Imp.norm (js := []) rfl (.cons rfl .nil))
         refine JC.condF (.tmp rfl) hc26 ?_
         refine JC.skip ?_
         refine JQ.outNB ?_
         refine JQ.then <| JC.region ?_
         replace hq16 := lt1_inv hq16
         obtain ⟨v_31, hv_v_31, hq16⟩ := hq16
         refine jc (op_arI lb (.tmp rfl) .cI (congrArg some hv_v_31)) <| jmv rfl rfl <| JL.nil ?_
         replace hq16 := Option.some.inj hq16
         first | subst hq16 | clear hq16
         exact JQ.next () rfl (Imp.norm (js := [0]) rfl (.cons rfl (.cons rfl (.cons rfl (.cons rfl (.cons rfl .nil))))))
       replace hx16 := bnd_inv hx16
       obtain ⟨v_23, hv_v_23, hx16⟩ := hx16
       replace hx16 := iteB_inv hx16
       rcases hx16 with ⟨hc18, hx16⟩ | ⟨hc18, hx16⟩
       · replace hx16 := bnd_inv hx16
         obtain ⟨v_24, hv_v_24, hx16⟩ := hx16
         replace hx16 := lt1_inv hx16
         obtain ⟨v_25, hv_v_25, hx16⟩ := hx16
         replace hx16 := iteB_inv hx16
         rcases hx16 with ⟨hc23, hx16⟩ | ⟨hc23, hx16⟩
         · replace hx16 := iteB_inv hx16
           rcases hx16 with ⟨hc25, hx16⟩ | ⟨hc25, hx16⟩
           · refine JC.anyE (kl := []) (kk := 0) (base := [(1, ov (PTR gb_2 0)), (4, ov (S (rI .i64) x_19)), (5, ov (PTR gb_22 0)), (47, ov (S (rL r_api_Dest) t_1.To)), (48, ov (S (rI .i64) (List.length t_1.To : Int))), (49, ov (S (rI .i64) x_19))])
                 (fs := fun γ => [⟨some 54, ov (PTR gb_22 (0 + 0))⟩, ⟨some 55, ov (A r_api_Dot v_21.Dot)⟩, ⟨some 56, ov (S rB v_23)⟩, ⟨some 57, ov (S rB v_23)⟩, ⟨some 58, ov (PTR gb_22 (0 + 2))⟩, ⟨some 59, ov (S rS v_21.Device)⟩, ⟨some 60, ov (S rB v_24)⟩, ⟨some 61, ov (S rB v_24)⟩, ⟨some 62, ov (S rB v_24)⟩, ⟨some 63, bif v_24 then ov (S (rI .i64) x_19) else .one .und⟩, ⟨some 64, bif v_24 then ov (S rB v_25) else .one .und⟩, ⟨some 65, bif v_24 then ov (S rB v_25) else .one .und⟩, ⟨some 66, .one .und⟩, ⟨some 67, .one .und⟩, ⟨some 68, .one .und⟩, ⟨some 69, .one .und⟩, ⟨some 70, .one .und⟩, ⟨some 71, .one .und⟩, ⟨some 72, .one .und⟩, ⟨some 73, .one .und⟩, ⟨some 74, .one .und⟩, ⟨some 75, .one .und⟩, ⟨some 76, ov (S rB true)⟩, ⟨some 77, ov (S rB true)⟩, ⟨some 3, ov (S rB true)⟩])
                 (rs := fun γ => [⟨cvar gb_2 r_api_Event t_1, none, none, []⟩, ⟨cvar gb_22 r_api_Dest v_21, none, none, [1, 5]⟩])
                 (ds := [54, 55, 56, 57, 58, 59, 60, 61, 62, 63, 64, 65, 66, 67, 68, 69, 70, 71, 72, 73, 74, 75, 76, 77, 3]) (bs := [1, 4, 5, 47, 48, 49]) (afts := [[], [], [], [], [], [], [], [], [], [], [], [], [], [], [], [], [], [], [], [], [], [], [], [], []]) (js := [0, 0]) mixed (.cons rfl (.cons rfl (.cons rfl (.cons rfl (.cons rfl (.cons rfl .nil)))))) (fun _ => rfl)
                 (by
      refine dS 1 (fun γ ρ B hb hd => op_fieldAddr (off := 0) lb tf110_0 (.tmp (hb 5 _ rfl))) <| dR 2 (fun γ ρ B hb hd => OpStep.lk ⟨ρ, (cvar gb_22 r_api_Dest v_21) :: B, _⟩ (op_loadA (j := 0) lb tA29 (tl hd 0 54) rfl (cT (comp_api_Dest_Dot v_21) rfl) rfl)) <| dS 3 (fun γ ρ B hb hd => (op_call (js := []) ld cl62 (sim_event_MayDot k v_21.Dot v_23 hv_v_23) .func (.cons (tl hd 1 55) .nil) rfl).post (fun _ => Imp.refl)) <| dS 4 (fun γ ρ B hb hd => op_move lb (tl hd 2 56)) <| dY 5 (fun γ ρ B hb hd => ⟨.yes rfl (ltB rfl) (hl hd 3 57 rfl) hc18, lkB (op_fieldAddr (off := 2) lb tf110_1 (.tmp (hb 5 _ rfl)))⟩) ?_
      refine dY 6 (fun γ ρ B hb hd => ⟨.yes rfl (ltB rfl) (hl hd 3 57 rfl) hc18, OpStep.lk ⟨ρ, (cvar gb_22 r_api_Dest v_21) :: B, _⟩ (op_loadS (j := 0) lb tS9 (tl hd 4 58) rfl (cT (comp_api_Dest_Device v_21) rfl) rfl rfl)⟩) <| dY 7 (fun γ ρ B hb hd => ⟨.yes rfl (ltB rfl) (hl hd 3 57 rfl) hc18, lkB ((op_call (js := []) ld cl32 (sim_event_MayName k v_21.Device v_24 hv_v_24) .func (.cons (tl hd 5 59) .nil) rfl).post (fun _ => Imp.refl))⟩) <| dS 8 (fun γ ρ B hb hd => op_pickT lb (tl hd 3 57) hc18 (tl hd 6 60)) <| dS 9 (fun γ ρ B hb hd => op_move lb (tl hd 7 61)) ?_
      refine dC 10 v_24 (fun γ => ov (S (rI .i64) x_19)) (fun γ ρ B hb hd => ⟨(Guard.isT (ltB rfl) rfl (hl hd 8 62 rfl)), fun hq_19 => op_move lb (.tmp (hb 4 _ rfl))⟩) ?_
      refine dC 11 v_24 (fun γ => ov (S rB v_25)) (fun γ ρ B hb hd => ⟨(Guard.isT (ltB rfl) rfl (hl hd 8 62 rfl)), fun hq_20 => op_cmpI lb (HasO.cnd (tl hd 9 63) hq_20) .cI (congrArg some hv_v_25)⟩) ?_
      refine dC 12 v_24 (fun γ => ov (S rB v_25)) (fun γ ρ B hb hd => ⟨(Guard.isT (ltB rfl) rfl (hl hd 8 62 rfl)), fun hq_21 => op_move lb (HasO.cnd (tl hd 10 64) hq_21)⟩) ?_
      refine dK 13 (fun γ ρ B hb hd => (Guard.eqB (Guard.cF (q := v_24) (ltB rfl) rfl (hl hd 11 65 rfl)) (andFR (notF' hc25)))) <| dK 14 (fun γ ρ B hb hd => (Guard.eqB (Guard.cF (q := v_24) (ltB rfl) rfl (hl hd 11 65 rfl)) (andFR (notF' hc25)))) <| dK 15 (fun γ ρ B hb hd => (Guard.eqB (Guard.cF (q := v_24) (ltB rfl) rfl (hl hd 11 65 rfl)) (andFR (notF' hc25)))) <| dK 16 (fun γ ρ B hb hd => (Guard.eqB (Guard.cF (q := v_24) (ltB rfl) rfl (hl hd 11 65 rfl)) (andFR (notF' hc25)))) <| dK 17 (fun γ ρ B hb hd => (Guard.eqB (Guard.cF (q := v_24) (ltB rfl) rfl (hl hd 11 65 rfl)) (andFR (notF' hc25)))) ?_
      refine dK 18 (fun γ ρ B hb hd => (Guard.eqB (Guard.cF (q := v_24) (ltB rfl) rfl (hl hd 11 65 rfl)) (andFR (notF' hc25)))) <| dK 19 (fun γ ρ B hb hd => (Guard.eqB (Guard.cF (q := v_24) (ltB rfl) rfl (hl hd 11 65 rfl)) (andFR (notF' hc25)))) <| dK 20 (fun γ ρ B hb hd => (Guard.eqB (Guard.cF (q := v_24) (ltB rfl) rfl (hl hd 11 65 rfl)) (andFR (notF' hc25)))) <| dK 21 (fun γ ρ B hb hd => (Guard.eqB (Guard.cF (q := v_24) (ltB rfl) rfl (hl hd 11 65 rfl)) (andFR (notF' hc25)))) <| dK 22 (fun γ ρ B hb hd => (Guard.eqB (Guard.cF (q := v_24) (ltB rfl) rfl (hl hd 11 65 rfl)) (andFR (notF' hc25)))) ?_
      refine dY 23 (fun γ ρ B hb hd => ⟨.yes rfl (ltB rfl) (hl hd 8 62 rfl) hc23, lkB (op_pickT lb (HasO.cnd (tl hd 11 65) hc23) hc25 .cB)⟩) <| dS 24 (fun γ ρ B hb hd => op_pickT lb (tl hd 8 62) hc23 (tl hd 22 76)) <| dS 25 (fun γ ρ B hb hd => op_assign lb (tl hd 23 77)) ?_
      exact DSteps.nil)
                 (by decide +kernel) (fun _ => rfl) rfl (fun _ => rfl) (fun _ => rfl) rfl (by decide) (by decide) (by decide +kernel) (fun _ d h => by cases h)
                 (ρ' := fun γ => [(1, ov (PTR gb_2 0)), (3, ov (S rB true)), (47, ov (S (rL r_api_Dest) t_1.To)), (48, ov (S (rI .i64) (List.length t_1.To : Int))), (49, ov (S (rI .i64) x_19))])
                 (X' := fun γ => [cvar gb_2 r_api_Event t_1, cvar gb_22 r_api_Dest v_21])
                 (fun γ ρ hb hd => (.cons (hb 1 _ rfl (by decide)) (.cons (hdq hd 24 3 rfl) (.cons (hb 47 _ rfl (by decide)) (.cons (hb 48 _ rfl (by decide)) (.cons (hb 49 _ rfl (by decide)) .nil)))))) (fun _ => rfl) (fun γ => ?_)
             refine JQ.at ⟨[(1, ov (PTR gb_2 0)), (3, ov (S rB true)), (47, ov (S (rL r_api_Dest) t_1.To)), (48, ov (S (rI .i64) (List.length t_1.To : Int))), (49, ov (S (rI .i64) x_19))], [cvar gb_2 r_api_Event t_1, cvar gb_22 r_api_Dest v_21], []⟩ ?_
             replace hx16 := Option.some.inj hx16
             first | subst hx16 | clear hx16
             exact JQ.join () (Imp.norm (js := [0]) rfl (.cons rfl (.cons rfl (.cons rfl (.cons rfl (.cons rfl .nil))))))
           replace hx16 := lt1_inv hx16
           obtain ⟨v_26, hv_v_26, hx16⟩ := hx16
           replace hx16 := bnd_inv hx16
           obtain ⟨v_27, hv_v_27, hx16⟩ := hx16
           replace hx16 := bnd_inv hx16
           obtain ⟨v_28, hv_v_28, hx16⟩ := hx16
           refine JC.anyE (kl := []) (kk := 0) (base := [(1, ov (PTR gb_2 0)), (4, ov (S (rI .i64) x_19)), (5, ov (PTR gb_22 0)), (47, ov (S (rL r_api_Dest) t_1.To)), (48, ov (S (rI .i64) (List.length t_1.To : Int))), (49, ov (S (rI .i64) x_19))])
               (fs := fun γ => [⟨some 54, ov (PTR gb_22 (0 + 0))⟩, ⟨some 55, ov (A r_api_Dot v_21.Dot)⟩, ⟨some 56, ov (S rB v_23)⟩, ⟨some 57, ov (S rB v_23)⟩, ⟨some 58, ov (PTR gb_22 (0 + 2))⟩, ⟨some 59, ov (S rS v_21.Device)⟩, ⟨some 60, ov (S rB v_24)⟩, ⟨some 61, ov (S rB v_24)⟩, ⟨some 62, ov (S rB v_24)⟩, ⟨some 63, bif v_24 then ov (S (rI .i64) x_19) else .one .und⟩, ⟨some 64, bif v_24 then ov (S rB v_25) else .one .und⟩, ⟨some 65, bif v_24 then ov (S rB v_25) else .one .und⟩, ⟨some 66, ov (PTR gb_2 (0 + 20))⟩, ⟨some 67, ov (S (rL r_api_Dest) t_1.To)⟩, ⟨some 68, ov (S (rI .i64) x_19)⟩, ⟨some 69, ov (S (rI .i64) v_26)⟩, ⟨some 70, ov (PT r_api_Dest v_27)⟩, ⟨some 71, ov (PT r_api_Dot v_27.Dot)⟩, ⟨some 72, ov (A r_api_Dot v_27.Dot)⟩, ⟨some 73, ov (PTR gb_22 (0 + 0))⟩, ⟨some 74, ov (A r_api_Dot v_21.Dot)⟩, ⟨some 75, ov (S rB v_28)⟩, ⟨some 76, ov (S rB v_28)⟩, ⟨some 77, ov (S rB v_28)⟩, ⟨some 3, ov (S rB v_28)⟩])
               (rs := fun γ => [⟨cvar gb_2 r_api_Event t_1, none, none, [13]⟩, ⟨cvar gb_22 r_api_Dest v_21, none, none, [1, 5, 20]⟩])
               (ds := [54, 55, 56, 57, 58, 59, 60, 61, 62, 63, 64, 65, 66, 67, 68, 69, 70, 71, 72, 73, 74, 75, 76, 77, 3]) (bs := [1, 4, 5, 47, 48, 49]) (afts := [[], [], [], [], [], [], [], [], [], [], [], [], [], [], [], [], [], [], [], [], [], [], [], [], []]) (js := [0, 0]) mixed (.cons rfl (.cons rfl (.cons rfl (.cons rfl (.cons rfl (.cons rfl .nil)))))) (fun _ => rfl)
               (by
      refine dS 1 (fun γ ρ B hb hd => op_fieldAddr (off := 0) lb tf110_0 (.tmp (hb 5 _ rfl))) <| dR 2 (fun γ ρ B hb hd => OpStep.lk ⟨ρ, (cvar gb_22 r_api_Dest v_21) :: B, _⟩ (op_loadA (j := 0) lb tA29 (tl hd 0 54) rfl (cT (comp_api_Dest_Dot v_21) rfl) rfl)) <| dS 3 (fun γ ρ B hb hd => (op_call (js := []) ld cl62 (sim_event_MayDot k v_21.Dot v_23 hv_v_23) .func (.cons (tl hd 1 55) .nil) rfl).post (fun _ => Imp.refl)) <| dS 4 (fun γ ρ B hb hd => op_move lb (tl hd 2 56)) <| dY 5 (fun γ ρ B hb hd => ⟨.yes rfl (ltB rfl) (hl hd 3 57 rfl) hc18, lkB (op_fieldAddr (off := 2) lb tf110_1 (.tmp (hb 5 _ rfl)))⟩) ?_
      refine dY 6 (fun γ ρ B hb hd => ⟨.yes rfl (ltB rfl) (hl hd 3 57 rfl) hc18, OpStep.lk ⟨ρ, (cvar gb_22 r_api_Dest v_21) :: B, _⟩ (op_loadS (j := 0) lb tS9 (tl hd 4 58) rfl (cT (comp_api_Dest_Device v_21) rfl) rfl rfl)⟩) <| dY 7 (fun γ ρ B hb hd => ⟨.yes rfl (ltB rfl) (hl hd 3 57 rfl) hc18, lkB ((op_call (js := []) ld cl32 (sim_event_MayName k v_21.Device v_24 hv_v_24) .func (.cons (tl hd 5 59) .nil) rfl).post (fun _ => Imp.refl))⟩) <| dS 8 (fun γ ρ B hb hd => op_pickT lb (tl hd 3 57) hc18 (tl hd 6 60)) <| dS 9 (fun γ ρ B hb hd => op_move lb (tl hd 7 61)) ?_
      refine dC 10 v_24 (fun γ => ov (S (rI .i64) x_19)) (fun γ ρ B hb hd => ⟨(Guard.isT (ltB rfl) rfl (hl hd 8 62 rfl)), fun hq_19 => op_move lb (.tmp (hb 4 _ rfl))⟩) ?_
      refine dC 11 v_24 (fun γ => ov (S rB v_25)) (fun γ ρ B hb hd => ⟨(Guard.isT (ltB rfl) rfl (hl hd 8 62 rfl)), fun hq_20 => op_cmpI lb (HasO.cnd (tl hd 9 63) hq_20) .cI (congrArg some hv_v_25)⟩) ?_
      refine dC 12 v_24 (fun γ => ov (S rB v_25)) (fun γ ρ B hb hd => ⟨(Guard.isT (ltB rfl) rfl (hl hd 8 62 rfl)), fun hq_21 => op_move lb (HasO.cnd (tl hd 10 64) hq_21)⟩) ?_
      refine DSteps.cons (j := 13) rfl (fun _ => rfl) (.run (fun γ ρ B hb hd => ⟨(Guard.eqB (Guard.cF (q := v_24) (ltB rfl) rfl (hl hd 11 65 rfl)) (andI hc23 (notT hc25))), lkB (op_fieldAddr (off := 20) lb tf43_4 (.tmp (hb 1 _ rfl)))⟩)) ?_
      refine DSteps.cons (j := 14) rfl (fun _ => rfl) (.run (fun γ ρ B hb hd => ⟨(Guard.eqB (Guard.cF (q := v_24) (ltB rfl) rfl (hl hd 11 65 rfl)) (andI hc23 (notT hc25))), OpStep.lk ⟨ρ, (cvar gb_2 r_api_Event t_1) :: B, _⟩ (op_loadS (j := 0) lb tS41 (tl hd 12 66) rfl (cT (comp_api_Event_To t_1) rfl) rfl rfl)⟩)) ?_
      refine DSteps.cons (j := 15) rfl (fun _ => rfl) (.run (fun γ ρ B hb hd => ⟨(Guard.eqB (Guard.cF (q := v_24) (ltB rfl) rfl (hl hd 11 65 rfl)) (andI hc23 (notT hc25))), lkB (op_move lb (.tmp (hb 4 _ rfl)))⟩)) ?_
      refine DSteps.cons (j := 16) rfl (fun _ => rfl) (.run (fun γ ρ B hb hd => ⟨(Guard.eqB (Guard.cF (q := v_24) (ltB rfl) rfl (hl hd 11 65 rfl)) (andI hc23 (notT hc25))), lkB (op_arI lb (tl hd 14 68) .cI (congrArg some hv_v_26))⟩)) ?_
      refine DSteps.cons (j := 17) rfl (fun _ => rfl) (.run (fun γ ρ B hb hd => ⟨(Guard.eqB (Guard.cF (q := v_24) (ltB rfl) rfl (hl hd 11 65 rfl)) (andI hc23 (notT hc25))), lkB (op_indexAddrLg lb tu41 tz110 (tl hd 13 67) (tl hd 15 69) hv_v_27)⟩)) ?_
      refine DSteps.cons (j := 18) rfl (fun _ => rfl) (.run (fun γ ρ B hb hd => ⟨(Guard.eqB (Guard.cF (q := v_24) (ltB rfl) rfl (hl hd 11 65 rfl)) (andI hc23 (notT hc25))), lkB (op_fieldAddrP lb tf110_0 (tl hd 16 70) (comp_api_Dest_Dot v_27))⟩)) ?_
      refine DSteps.cons (j := 19) rfl (fun _ => rfl) (.run (fun γ ρ B hb hd => ⟨(Guard.eqB (Guard.cF (q := v_24) (ltB rfl) rfl (hl hd 11 65 rfl)) (andI hc23 (notT hc25))), lkB (op_loadPAg lb tA29 (tl hd 17 71) rfl)⟩)) ?_
      refine DSteps.cons (j := 20) rfl (fun _ => rfl) (.run (fun γ ρ B hb hd => ⟨(Guard.eqB (Guard.cF (q := v_24) (ltB rfl) rfl (hl hd 11 65 rfl)) (andI hc23 (notT hc25))), lkB (op_fieldAddr (off := 0) lb tf110_0 (.tmp (hb 5 _ rfl)))⟩)) ?_
      refine DSteps.cons (j := 21) rfl (fun _ => rfl) (.run (fun γ ρ B hb hd => ⟨(Guard.eqB (Guard.cF (q := v_24) (ltB rfl) rfl (hl hd 11 65 rfl)) (andI hc23 (notT hc25))), OpStep.lk ⟨ρ, (cvar gb_22 r_api_Dest v_21) :: B, _⟩ (op_loadA (j := 0) lb tA29 (tl hd 19 73) rfl (cT (comp_api_Dest_Dot v_21) rfl) rfl)⟩)) ?_
      refine DSteps.cons (j := 22) rfl (fun _ => rfl) (.run (fun γ ρ B hb hd => ⟨(Guard.eqB (Guard.cF (q := v_24) (ltB rfl) rfl (hl hd 11 65 rfl)) (andI hc23 (notT hc25))), lkB ((op_call (js := []) ld cl64 (sim_event_Less k v_27.Dot v_21.Dot v_28 hv_v_28) .func (.cons (tl hd 18 72) (.cons (tl hd 20 74) .nil)) rfl).post (fun _ => Imp.refl))⟩)) ?_
      refine dY 23 (fun γ ρ B hb hd => ⟨.yes rfl (ltB rfl) (hl hd 8 62 rfl) hc23, lkB (op_pickF lb (HasO.cnd (tl hd 11 65) hc23) hc25 (tl hd 21 75))⟩) <| dS 24 (fun γ ρ B hb hd => op_pickT lb (tl hd 8 62) hc23 (tl hd 22 76)) <| dS 25 (fun γ ρ B hb hd => op_assign lb (tl hd 23 77)) ?_
      exact DSteps.nil)
               (by decide +kernel) (fun _ => rfl) rfl (fun _ => rfl) (fun _ => rfl) rfl (by decide) (by decide) (by decide +kernel) (fun _ d h => by cases h)
               (ρ' := fun γ => [(1, ov (PTR gb_2 0)), (3, ov (S rB v_28)), (47, ov (S (rL r_api_Dest) t_1.To)), (48, ov (S (rI .i64) (List.length t_1.To : Int))), (49, ov (S (rI .i64) x_19))])
               (X' := fun γ => [cvar gb_2 r_api_Event t_1, cvar gb_22 r_api_Dest v_21])
               (fun γ ρ hb hd => (.cons (hb 1 _ rfl (by decide)) (.cons (hdq hd 24 3 rfl) (.cons (hb 47 _ rfl (by decide)) (.cons (hb 48 _ rfl (by decide)) (.cons (hb 49 _ rfl (by decide)) .nil)))))) (fun _ => rfl) (fun γ => ?_)
           refine JQ.at ⟨[(1, ov (PTR gb_2 0)), (3, ov (S rB v_28)), (47, ov (S (rL r_api_Dest) t_1.To)), (48, ov (S (rI .i64) (List.length t_1.To : Int))), (49, ov (S (rI .i64) x_19))], [cvar gb_2 r_api_Event t_1, cvar gb_22 r_api_Dest v_21], []⟩ ?_
           replace hx16 := Option.some.inj hx16
           first | subst hx16 | clear hx16
           exact JQ.join () (Imp.norm (js := [0]) rfl (.cons rfl (.cons rfl (.cons rfl (.cons rfl (.cons rfl .nil))))))
         refine JC.anyE (kl := []) (kk := 0) (base := [(1, ov (PTR gb_2 0)), (4, ov (S (rI .i64) x_19)), (5, ov (PTR gb_22 0)), (47, ov (S (rL r_api_Dest) t_1.To)), (48, ov (S (rI .i64) (List.length t_1.To : Int))), (49, ov (S (rI .i64) x_19))])
             (fs := fun γ => [⟨some 54, ov (PTR gb_22 (0 + 0))⟩, ⟨some 55, ov (A r_api_Dot v_21.Dot)⟩, ⟨some 56, ov (S rB v_23)⟩, ⟨some 57, ov (S rB v_23)⟩, ⟨some 58, ov (PTR gb_22 (0 + 2))⟩, ⟨some 59, ov (S rS v_21.Device)⟩, ⟨some 60, ov (S rB v_24)⟩, ⟨some 61, ov (S rB v_24)⟩, ⟨some 62, ov (S rB v_24)⟩, ⟨some 63, bif v_24 then ov (S (rI .i64) x_19) else .one .und⟩, ⟨some 64, bif v_24 then ov (S rB v_25) else .one .und⟩, ⟨some 65, bif v_24 then ov (S rB v_25) else .one .und⟩, ⟨some 66, .one .und⟩, ⟨some 67, .one .und⟩, ⟨some 68, .one .und⟩, ⟨some 69, .one .und⟩, ⟨some 70, .one .und⟩, ⟨some 71, .one .und⟩, ⟨some 72, .one .und⟩, ⟨some 73, .one .und⟩, ⟨some 74, .one .und⟩, ⟨some 75, .one .und⟩, ⟨some 76, .one .und⟩, ⟨some 77, ov (S rB false)⟩, ⟨some 3, ov (S rB false)⟩])
             (rs := fun γ => [⟨cvar gb_2 r_api_Event t_1, none, none, []⟩, ⟨cvar gb_22 r_api_Dest v_21, none, none, [1, 5]⟩])
             (ds := [54, 55, 56, 57, 58, 59, 60, 61, 62, 63, 64, 65, 66, 67, 68, 69, 70, 71, 72, 73, 74, 75, 76, 77, 3]) (bs := [1, 4, 5, 47, 48, 49]) (afts := [[], [], [], [], [], [], [], [], [], [], [], [], [], [], [], [], [], [], [], [], [], [], [], [], []]) (js := [0, 0]) mixed (.cons rfl (.cons rfl (.cons rfl (.cons rfl (.cons rfl (.cons rfl .nil)))))) (fun _ => rfl)
             (by
      refine dS 1 (fun γ ρ B hb hd => op_fieldAddr (off := 0) lb tf110_0 (.tmp (hb 5 _ rfl))) <| dR 2 (fun γ ρ B hb hd => OpStep.lk ⟨ρ, (cvar gb_22 r_api_Dest v_21) :: B, _⟩ (op_loadA (j := 0) lb tA29 (tl hd 0 54) rfl (cT (comp_api_Dest_Dot v_21) rfl) rfl)) <| dS 3 (fun γ ρ B hb hd => (op_call (js := []) ld cl62 (sim_event_MayDot k v_21.Dot v_23 hv_v_23) .func (.cons (tl hd 1 55) .nil) rfl).post (fun _ => Imp.refl)) <| dS 4 (fun γ ρ B hb hd => op_move lb (tl hd 2 56)) <| dY 5 (fun γ ρ B hb hd => ⟨.yes rfl (ltB rfl) (hl hd 3 57 rfl) hc18, lkB (op_fieldAddr (off := 2) lb tf110_1 (.tmp (hb 5 _ rfl)))⟩) ?_
      refine dY 6 (fun γ ρ B hb hd => ⟨.yes rfl (ltB rfl) (hl hd 3 57 rfl) hc18, OpStep.lk ⟨ρ, (cvar gb_22 r_api_Dest v_21) :: B, _⟩ (op_loadS (j := 0) lb tS9 (tl hd 4 58) rfl (cT (comp_api_Dest_Device v_21) rfl) rfl rfl)⟩) <| dY 7 (fun γ ρ B hb hd => ⟨.yes rfl (ltB rfl) (hl hd 3 57 rfl) hc18, lkB ((op_call (js := []) ld cl32 (sim_event_MayName k v_21.Device v_24 hv_v_24) .func (.cons (tl hd 5 59) .nil) rfl).post (fun _ => Imp.refl))⟩) <| dS 8 (fun γ ρ B hb hd => op_pickT lb (tl hd 3 57) hc18 (tl hd 6 60)) <| dS 9 (fun γ ρ B hb hd => op_move lb (tl hd 7 61)) ?_
      refine dC 10 v_24 (fun γ => ov (S (rI .i64) x_19)) (fun γ ρ B hb hd => ⟨(Guard.isT (ltB rfl) rfl (hl hd 8 62 rfl)), fun hq_19 => op_move lb (.tmp (hb 4 _ rfl))⟩) ?_
      refine dC 11 v_24 (fun γ => ov (S rB v_25)) (fun γ ρ B hb hd => ⟨(Guard.isT (ltB rfl) rfl (hl hd 8 62 rfl)), fun hq_20 => op_cmpI lb (HasO.cnd (tl hd 9 63) hq_20) .cI (congrArg some hv_v_25)⟩) ?_
      refine dC 12 v_24 (fun γ => ov (S rB v_25)) (fun γ ρ B hb hd => ⟨(Guard.isT (ltB rfl) rfl (hl hd 8 62 rfl)), fun hq_21 => op_move lb (HasO.cnd (tl hd 10 64) hq_21)⟩) ?_
      refine dK 13 (fun γ ρ B hb hd => (Guard.eqB (Guard.cF (q := v_24) (ltB rfl) rfl (hl hd 11 65 rfl)) (andFL hc23))) <| dK 14 (fun γ ρ B hb hd => (Guard.eqB (Guard.cF (q := v_24) (ltB rfl) rfl (hl hd 11 65 rfl)) (andFL hc23))) <| dK 15 (fun γ ρ B hb hd => (Guard.eqB (Guard.cF (q := v_24) (ltB rfl) rfl (hl hd 11 65 rfl)) (andFL hc23))) <| dK 16 (fun γ ρ B hb hd => (Guard.eqB (Guard.cF (q := v_24) (ltB rfl) rfl (hl hd 11 65 rfl)) (andFL hc23))) <| dK 17 (fun γ ρ B hb hd => (Guard.eqB (Guard.cF (q := v_24) (ltB rfl) rfl (hl hd 11 65 rfl)) (andFL hc23))) ?_
      refine dK 18 (fun γ ρ B hb hd => (Guard.eqB (Guard.cF (q := v_24) (ltB rfl) rfl (hl hd 11 65 rfl)) (andFL hc23))) <| dK 19 (fun γ ρ B hb hd => (Guard.eqB (Guard.cF (q := v_24) (ltB rfl) rfl (hl hd 11 65 rfl)) (andFL hc23))) <| dK 20 (fun γ ρ B hb hd => (Guard.eqB (Guard.cF (q := v_24) (ltB rfl) rfl (hl hd 11 65 rfl)) (andFL hc23))) <| dK 21 (fun γ ρ B hb hd => (Guard.eqB (Guard.cF (q := v_24) (ltB rfl) rfl (hl hd 11 65 rfl)) (andFL hc23))) <| dK 22 (fun γ ρ B hb hd => (Guard.eqB (Guard.cF (q := v_24) (ltB rfl) rfl (hl hd 11 65 rfl)) (andFL hc23))) ?_
      refine dK 23 (fun γ ρ B hb hd => .no rfl (ltB rfl) (hl hd 8 62 rfl) hc23) <| dS 24 (fun γ ρ B hb hd => op_pickF lb (tl hd 8 62) hc23 .cB) <| dS 25 (fun γ ρ B hb hd => op_assign lb (tl hd 23 77)) ?_
      exact DSteps.nil)
             (by decide +kernel) (fun _ => rfl) rfl (fun _ => rfl) (fun _ => rfl) rfl (by decide) (by decide) (by decide +kernel) (fun _ d h => by cases h)
             (ρ' := fun γ => [(1, ov (PTR gb_2 0)), (3, ov (S rB false)), (47, ov (S (rL r_api_Dest) t_1.To)), (48, ov (S (rI .i64) (List.length t_1.To : Int))), (49, ov (S (rI .i64) x_19))])
             (X' := fun γ => [cvar gb_2 r_api_Event t_1, cvar gb_22 r_api_Dest v_21])
             (fun γ ρ hb hd => (.cons (hb 1 _ rfl (by decide)) (.cons (hdq hd 24 3 rfl) (.cons (hb 47 _ rfl (by decide)) (.cons (hb 48 _ rfl (by decide)) (.cons (hb 49 _ rfl (by decide)) .nil)))))) (fun _ => rfl) (fun γ => ?_)
         refine JQ.at ⟨[(1, ov (PTR gb_2 0)), (3, ov (S rB false)), (47, ov (S (rL r_api_Dest) t_1.To)), (48, ov (S (rI .i64) (List.length t_1.To : Int))), (49, ov (S (rI .i64) x_19))], [cvar gb_2 r_api_Event t_1, cvar gb_22 r_api_Dest v_21], []⟩ ?_
         replace hx16 := Option.some.inj hx16
         first | subst hx16 | clear hx16
         exact JQ.join () (Imp.norm (js := [0]) rfl (.cons rfl (.cons rfl (.cons rfl (.cons rfl (.cons rfl .nil))))))
       refine JC.anyE (kl := []) (kk := 0) (base := [(1, ov (PTR gb_2 0)), (5, ov (PTR gb_22 0)), (47, ov (S (rL r_api_Dest) t_1.To)), (48, ov (S (rI .i64) (List.length t_1.To : Int))), (49, ov (S (rI .i64) x_19))])
           (fs := fun γ => [⟨some 54, ov (PTR gb_22 (0 + 0))⟩, ⟨some 55, ov (A r_api_Dot v_21.Dot)⟩, ⟨some 56, ov (S rB v_23)⟩, ⟨some 57, ov (S rB v_23)⟩, ⟨some 58, .one .und⟩, ⟨some 59, .one .und⟩, ⟨some 60, .one .und⟩, ⟨some 61, ov (S rB false)⟩, ⟨some 62, ov (S rB false)⟩, ⟨some 63, .one .und⟩, ⟨some 64, .one .und⟩, ⟨some 65, .one .und⟩, ⟨some 66, .one .und⟩, ⟨some 67, .one .und⟩, ⟨some 68, .one .und⟩, ⟨some 69, .one .und⟩, ⟨some 70, .one .und⟩, ⟨some 71, .one .und⟩, ⟨some 72, .one .und⟩, ⟨some 73, .one .und⟩, ⟨some 74, .one .und⟩, ⟨some 75, .one .und⟩, ⟨some 76, .one .und⟩, ⟨some 77, ov (S rB false)⟩, ⟨some 3, ov (S rB false)⟩])
           (rs := fun γ => [⟨cvar gb_2 r_api_Event t_1, none, none, []⟩, ⟨cvar gb_22 r_api_Dest v_21, none, none, [1]⟩])
           (ds := [54, 55, 56, 57, 58, 59, 60, 61, 62, 63, 64, 65, 66, 67, 68, 69, 70, 71, 72, 73, 74, 75, 76, 77, 3]) (bs := [1, 5, 47, 48, 49]) (afts := [[], [], [], [], [], [], [], [], [], [], [], [], [], [], [], [], [], [], [], [], [], [], [], [], []]) (js := [0, 0]) mixed (.cons rfl (.cons rfl (.cons rfl (.cons rfl (.cons rfl .nil))))) (fun _ => rfl)
           (by
      refine dS 1 (fun γ ρ B hb hd => op_fieldAddr (off := 0) lb tf110_0 (.tmp (hb 5 _ rfl))) <| dR 2 (fun γ ρ B hb hd => OpStep.lk ⟨ρ, (cvar gb_22 r_api_Dest v_21) :: B, _⟩ (op_loadA (j := 0) lb tA29 (tl hd 0 54) rfl (cT (comp_api_Dest_Dot v_21) rfl) rfl)) <| dS 3 (fun γ ρ B hb hd => (op_call (js := []) ld cl62 (sim_event_MayDot k v_21.Dot v_23 hv_v_23) .func (.cons (tl hd 1 55) .nil) rfl).post (fun _ => Imp.refl)) <| dS 4 (fun γ ρ B hb hd => op_move lb (tl hd 2 56)) <| dK 5 (fun γ ρ B hb hd => .no rfl (ltB rfl) (hl hd 3 57 rfl) hc18) ?_
      refine dK 6 (fun γ ρ B hb hd => .no rfl (ltB rfl) (hl hd 3 57 rfl) hc18) <| dK 7 (fun γ ρ B hb hd => .no rfl (ltB rfl) (hl hd 3 57 rfl) hc18) <| dS 8 (fun γ ρ B hb hd => op_pickF lb (tl hd 3 57) hc18 .cB) <| dS 9 (fun γ ρ B hb hd => op_move lb (tl hd 7 61)) <| dK 10 (fun γ ρ B hb hd => .no rfl (ltB rfl) (hl hd 8 62 rfl) rfl) ?_
      refine dK 11 (fun γ ρ B hb hd => .no rfl (ltB rfl) (hl hd 8 62 rfl) rfl) <| dK 12 (fun γ ρ B hb hd => .no rfl (ltB rfl) (hl hd 8 62 rfl) rfl) <| dK 13 (fun γ ρ B hb hd => .und rfl (ltB rfl) (hl hd 11 65 rfl)) <| dK 14 (fun γ ρ B hb hd => .und rfl (ltB rfl) (hl hd 11 65 rfl)) <| dK 15 (fun γ ρ B hb hd => .und rfl (ltB rfl) (hl hd 11 65 rfl)) ?_
      refine dK 16 (fun γ ρ B hb hd => .und rfl (ltB rfl) (hl hd 11 65 rfl)) <| dK 17 (fun γ ρ B hb hd => .und rfl (ltB rfl) (hl hd 11 65 rfl)) <| dK 18 (fun γ ρ B hb hd => .und rfl (ltB rfl) (hl hd 11 65 rfl)) <| dK 19 (fun γ ρ B hb hd => .und rfl (ltB rfl) (hl hd 11 65 rfl)) <| dK 20 (fun γ ρ B hb hd => .und rfl (ltB rfl) (hl hd 11 65 rfl)) ?_
      refine dK 21 (fun γ ρ B hb hd => .und rfl (ltB rfl) (hl hd 11 65 rfl)) <| dK 22 (fun γ ρ B hb hd => .und rfl (ltB rfl) (hl hd 11 65 rfl)) <| dK 23 (fun γ ρ B hb hd => .no rfl (ltB rfl) (hl hd 8 62 rfl) rfl) <| dS 24 (fun γ ρ B hb hd => op_pickF lb (tl hd 8 62) rfl .cB) <| dS 25 (fun γ ρ B hb hd => op_assign lb (tl hd 23 77)) ?_
      exact DSteps.nil)
           (by decide +kernel) (fun _ => rfl) rfl (fun _ => rfl) (fun _ => rfl) rfl (by decide) (by decide) (by decide +kernel) (fun _ d h => by cases h)
           (ρ' := fun γ => [(1, ov (PTR gb_2 0)), (3, ov (S rB false)), (47, ov (S (rL r_api_Dest) t_1.To)), (48, ov (S (rI .i64) (List.length t_1.To : Int))), (49, ov (S (rI .i64) x_19))])
           (X' := fun γ => [cvar gb_2 r_api_Event t_1, cvar gb_22 r_api_Dest v_21])
           (fun γ ρ hb hd => (.cons (hb 1 _ rfl (by decide)) (.cons (hdq hd 24 3 rfl) (.cons (hb 47 _ rfl (by decide)) (.cons (hb 48 _ rfl (by decide)) (.cons (hb 49 _ rfl (by decide)) .nil)))))) (fun _ => rfl) (fun γ => ?_)
       refine JQ.at ⟨[(1, ov (PTR gb_2 0)), (3, ov (S rB false)), (47, ov (S (rL r_api_Dest) t_1.To)), (48, ov (S (rI .i64) (List.length t_1.To : Int))), (49, ov (S (rI .i64) x_19))], [cvar gb_2 r_api_Event t_1, cvar gb_22 r_api_Dest v_21], []⟩ ?_
       replace hx16 := Option.some.inj hx16
       first | subst hx16 | clear hx16
       exact JQ.join () (Imp.norm (js := [0]) rfl (.cons rfl (.cons rfl (.cons rfl (.cons rfl (.cons rfl .nil))))))
     refine JC.condF (.tmp rfl) hc15 ?_
     refine JC.exit ?_
     refine JQ.outX ?_
     replace hx := Option.some.inj hx
     first | subst hx | clear hx
     have ht := hr _ rfl
     have hq14 := congrArg some ht
     clear hr ht
     refine JQ.outX ?_
     refine JQ.here ?_
     replace hq14 := Option.some.inj hq14
     first | subst hq14 | clear hq14
     exact JQ.join () (Imp.norm (js := []) rfl (.cons rfl .nil))
   refine JC.region <| jc (op_fieldAddr (off := 2) lb tf43_1 (.tmp rfl)) <| jc (op_loadS (j := 0) lb tS9 (.tmp rfl) rfl (cT (comp_api_Event_Topic t_1) rfl) rfl rfl) ?_
   replace hx7 := bnd_inv hx7
   obtain ⟨v_13, hv_v_13, hx7⟩ := hx7
   refine jx (op_call (js := []) ld cl32 (sim_event_MayName k t_1.Topic v_13 hv_v_13) .func (.cons (.tmp rfl) .nil) rfl) (fun _ => ?_)
   replace hx7 := lt1_inv hx7
   obtain ⟨v_14, hv_v_14, hx7⟩ := hx7
   refine jc (op_not lb (.tmp rfl) hv_v_14) <| jmv rfl rfl ?_
   replace hx7 := iteB_inv hx7
   rcases hx7 with ⟨hc9, hx7⟩ | ⟨hc9, hx7⟩
   · refine JL.sk (.no rfl (ltB rfl) rfl hc9) <| JL.sk (.no rfl (ltB rfl) rfl hc9) <| JL.sk (.no rfl (ltB rfl) rfl hc9) <| JL.sk (.no rfl (ltB rfl) rfl hc9) <| jc (op_pickT lb (.tmp rfl) hc9 .cB) ?_
     refine jmv rfl rfl <| JL.sk (.no rfl (ltB rfl) rfl rfl) <| JL.sk (.no rfl (ltB rfl) rfl rfl) <| JL.sk (.no rfl (ltB rfl) rfl rfl) <| JL.sk (.no rfl (ltB rfl) rfl rfl) ?_
     refine jc (op_pickT lb (.tmp rfl) rfl .cB) <| JL.nil ?_
     replace hx7 := Option.some.inj hx7
     first | subst hx7 | clear hx7
     exact JQ.join () (Imp.norm (js := [0]) rfl (.cons rfl (.cons rfl .nil)))
   refine JL.run (.yes rfl (ltB rfl) rfl hc9) (op_fieldAddr (off := 3) lb tf43_2 (.tmp rfl)) ?_
   refine JL.run (.yes rfl (ltB rfl) rfl hc9) (op_loadS (j := 0) lb tS25 (.tmp rfl) rfl (cT (comp_api_Event_Payload t_1) rfl) rfl rfl) ?_
   refine JL.run (.yes rfl (ltB rfl) rfl hc9) (op_lenL lb tu25 (.tmp rfl)) ?_
   replace hx7 := lt1_inv hx7
   obtain ⟨v_15, hv_v_15, hx7⟩ := hx7
   refine JL.run (.yes rfl (ltB rfl) rfl hc9) (op_cmpI lb (.tmp rfl) .cI (congrArg some hv_v_15)) ?_
   refine jc (op_pickF lb (.tmp rfl) hc9 (.tmp rfl)) <| jmv rfl rfl ?_
   replace hx7 := iteB_inv hx7
   rcases hx7 with ⟨hc11, hx7⟩ | ⟨hc11, hx7⟩
   · refine JL.sk (.no rfl (ltB rfl) rfl hc11) <| JL.sk (.no rfl (ltB rfl) rfl hc11) <| JL.sk (.no rfl (ltB rfl) rfl hc11) <| JL.sk (.no rfl (ltB rfl) rfl hc11) <| jc (op_pickT lb (.tmp rfl) hc11 .cB) ?_
     refine JL.sub ⟨[(1, ov (PTR gb_2 0)), (45, ov (S rB true))], [cvar gb_2 r_api_Event t_1], []⟩ (.cons rfl (.cons rfl .nil)) rfl rfl ?_
     refine JL.nil ?_
     replace hx7 := Option.some.inj hx7
     first | subst hx7 | clear hx7
     exact JQ.join () (Imp.norm (js := [0]) rfl (.cons rfl (.cons rfl .nil)))
   refine JL.run (.yes rfl (ltB rfl) rfl hc11) (op_fieldAddr (off := 20) lb tf43_4 (.tmp rfl)) ?_
   refine JL.sub ⟨[(1, ov (PTR gb_2 0)), (40, ov (S rB v_15)), (41, ov (PTR gb_2 (0 + 20)))], [cvar gb_2 r_api_Event t_1], []⟩ (.cons rfl (.cons rfl (.cons rfl .nil))) rfl rfl ?_
   refine JL.run (.yes rfl (ltB rfl) rfl hc11) (op_loadS (j := 0) lb tS41 (.tmp rfl) rfl (cT (comp_api_Event_To t_1) rfl) rfl rfl) ?_
   refine JL.run (.yes rfl (ltB rfl) rfl hc11) (op_lenL lb tu41 (.tmp rfl)) ?_
   replace hx7 := lt1_inv hx7
   obtain ⟨v_16, hv_v_16, hx7⟩ := hx7
   refine JL.run (.yes rfl (ltB rfl) rfl hc11) (op_cmpI lb (.tmp rfl) .cI (congrArg some hv_v_16)) ?_
   refine jc (op_pickF lb (.tmp rfl) hc11 (.tmp rfl)) <| JL.nil ?_
   replace hx7 := Option.some.inj hx7
   first | subst hx7 | clear hx7
   exact JQ.join () (Imp.norm (js := [0]) rfl (.cons rfl (.cons rfl .nil)))
 replace hx1 := bnd_inv hx1
 obtain ⟨v_3, hv_v_3, hx1⟩ := hx1
 replace hx1 := lt1_inv hx1
 obtain ⟨v_4, hv_v_4, hx1⟩ := hx1
 replace hx1 := iteB_inv hx1
 rcases hx1 with ⟨hc3, hx1⟩ | ⟨hc3, hx1⟩
 · refine JC.anyE (kl := []) (kk := 0) (base := [(1, ov (PTR gb_2 0))])
       (fs := fun γ => [⟨some 6, ov (PTR gb_2 (0 + 0))⟩, ⟨some 7, ov (A r_api_Dot t_1.ID)⟩, ⟨some 8, ov (S rB v_3)⟩, ⟨some 9, ov (S rB v_4)⟩, ⟨some 10, ov (S rB v_4)⟩, ⟨some 11, .one .und⟩, ⟨some 12, .one .und⟩, ⟨some 13, .one .und⟩, ⟨some 14, .one .und⟩, ⟨some 15, ov (S rB true)⟩, ⟨some 16, ov (S rB true)⟩, ⟨some 17, .one .und⟩, ⟨some 18, .one .und⟩, ⟨some 19, .one .und⟩, ⟨some 20, .one .und⟩, ⟨some 21, .one .und⟩, ⟨some 22, .one .und⟩, ⟨some 23, .one .und⟩, ⟨some 24, .one .und⟩, ⟨some 25, .one .und⟩, ⟨some 26, .one .und⟩, ⟨some 27, .one .und⟩, ⟨some 28, .one .und⟩, ⟨some 29, ov (S rB true)⟩])
       (rs := fun γ => [⟨cvar gb_2 r_api_Event t_1, none, none, [1]⟩])
       (ds := [6, 7, 8, 9, 10, 11, 12, 13, 14, 15, 16, 17, 18, 19, 20, 21, 22, 23, 24, 25, 26, 27, 28, 29]) (bs := [1]) (afts := [[], [], [], [], [], [], [], [], [], [], [], [], [], [], [], [], [], [], [], [], [], [], [], []]) (js := [0]) mixed (.cons rfl .nil) (fun _ => rfl)
       (by
      refine dS 1 (fun γ ρ B hb hd => op_fieldAddr (off := 0) lb tf43_0 (.tmp (hb 1 _ rfl))) <| dR 2 (fun γ ρ B hb hd => OpStep.lk ⟨ρ, (cvar gb_2 r_api_Event t_1) :: B, _⟩ (op_loadA (j := 0) lb tA29 (tl hd 0 6) rfl (cT (comp_api_Event_ID t_1) rfl) rfl)) <| dS 3 (fun γ ρ B hb hd => (op_call (js := []) ld cl62 (sim_event_MayDot k t_1.ID v_3 hv_v_3) .func (.cons (tl hd 1 7) .nil) rfl).post (fun _ => Imp.refl)) <| dS 4 (fun γ ρ B hb hd => op_not lb (tl hd 2 8) hv_v_4) <| dS 5 (fun γ ρ B hb hd => op_move lb (tl hd 3 9)) ?_
      refine dK 6 (fun γ ρ B hb hd => .no rfl (ltB rfl) (hl hd 4 10 rfl) hc3) <| dK 7 (fun γ ρ B hb hd => .no rfl (ltB rfl) (hl hd 4 10 rfl) hc3) <| dK 8 (fun γ ρ B hb hd => .no rfl (ltB rfl) (hl hd 4 10 rfl) hc3) <| dK 9 (fun γ ρ B hb hd => .no rfl (ltB rfl) (hl hd 4 10 rfl) hc3) <| dS 10 (fun γ ρ B hb hd => op_pickT lb (tl hd 4 10) hc3 .cB) ?_
      refine dS 11 (fun γ ρ B hb hd => op_move lb (tl hd 9 15)) <| dK 12 (fun γ ρ B hb hd => .no rfl (ltB rfl) (hl hd 10 16 rfl) rfl) <| dK 13 (fun γ ρ B hb hd => .no rfl (ltB rfl) (hl hd 10 16 rfl) rfl) <| dK 14 (fun γ ρ B hb hd => .no rfl (ltB rfl) (hl hd 10 16 rfl) rfl) <| dK 15 (fun γ ρ B hb hd => .no rfl (ltB rfl) (hl hd 10 16 rfl) rfl) ?_
      refine dK 16 (fun γ ρ B hb hd => .no rfl (ltB rfl) (hl hd 10 16 rfl) rfl) <| dK 17 (fun γ ρ B hb hd => .no rfl (ltB rfl) (hl hd 10 16 rfl) rfl) <| dK 18 (fun γ ρ B hb hd => .no rfl (ltB rfl) (hl hd 10 16 rfl) rfl) <| dK 19 (fun γ ρ B hb hd => .no rfl (ltB rfl) (hl hd 10 16 rfl) rfl) <| dK 20 (fun γ ρ B hb hd => .no rfl (ltB rfl) (hl hd 10 16 rfl) rfl) ?_
      refine dK 21 (fun γ ρ B hb hd => .no rfl (ltB rfl) (hl hd 10 16 rfl) rfl) <| dK 22 (fun γ ρ B hb hd => .no rfl (ltB rfl) (hl hd 10 16 rfl) rfl) <| dK 23 (fun γ ρ B hb hd => .no rfl (ltB rfl) (hl hd 10 16 rfl) rfl) <| dS 24 (fun γ ρ B hb hd => op_pickT lb (tl hd 10 16) rfl .cB) ?_
      exact DSteps.nil)
       (by decide +kernel) (fun _ => rfl) rfl (fun _ => rfl) (fun _ => rfl) rfl (by decide) (by decide) (by decide +kernel) (fun _ d h => by cases h)
       (ρ' := fun γ => [(1, ov (PTR gb_2 0)), (29, ov (S rB true))])
       (X' := fun γ => [cvar gb_2 r_api_Event t_1])
       (fun γ ρ hb hd => (.cons (hb 1 _ rfl (by decide)) (.cons (hdq hd 23 29 rfl) .nil))) (fun _ => rfl) (fun γ => ?_)
   refine JQ.at ⟨[(1, ov (PTR gb_2 0)), (29, ov (S rB true))], [cvar gb_2 r_api_Event t_1], []⟩ ?_
   replace hx1 := Option.some.inj hx1
   first | subst hx1 | clear hx1
   exact JQ.join () (Imp.norm (js := [0]) rfl (.cons rfl (.cons rfl .nil)))
 replace hx1 := bnd_inv hx1
 obtain ⟨v_5, hv_v_5, hx1⟩ := hx1
 replace hx1 := lt1_inv hx1
 obtain ⟨v_6, hv_v_6, hx1⟩ := hx1
 replace hx1 := iteB_inv hx1
 rcases hx1 with ⟨hc5, hx1⟩ | ⟨hc5, hx1⟩
 · refine JC.anyE (kl := []) (kk := 0) (base := [(1, ov (PTR gb_2 0))])
       (fs := fun γ => [⟨some 6, ov (PTR gb_2 (0 + 0))⟩, ⟨some 7, ov (A r_api_Dot t_1.ID)⟩, ⟨some 8, ov (S rB v_3)⟩, ⟨some 9, ov (S rB v_4)⟩, ⟨some 10, ov (S rB v_4)⟩, ⟨some 11, ov (PTR gb_2 (0 + 4))⟩, ⟨some 12, ov (A (rV 16 (rU UInt64)) t_1.Past)⟩, ⟨some 13, ov (S rB v_5)⟩, ⟨some 14, ov (S rB v_6)⟩, ⟨some 15, ov (S rB v_6)⟩, ⟨some 16, ov (S rB v_6)⟩, ⟨some 17, .one .und⟩, ⟨some 18, .one .und⟩, ⟨some 19, .one .und⟩, ⟨some 20, .one .und⟩, ⟨some 21, .one .und⟩, ⟨some 22, .one .und⟩, ⟨some 23, .one .und⟩, ⟨some 24, .one .und⟩, ⟨some 25, .one .und⟩, ⟨some 26, .one .und⟩, ⟨some 27, .one .und⟩, ⟨some 28, .one .und⟩, ⟨some 29, ov (S rB true)⟩])
       (rs := fun γ => [⟨cvar gb_2 r_api_Event t_1, none, none, [1, 6]⟩])
       (ds := [6, 7, 8, 9, 10, 11, 12, 13, 14, 15, 16, 17, 18, 19, 20, 21, 22, 23, 24, 25, 26, 27, 28, 29]) (bs := [1]) (afts := [[], [], [], [], [], [], [], [], [], [], [], [], [], [], [], [], [], [], [], [], [], [], [], []]) (js := [0]) mixed (.cons rfl .nil) (fun _ => rfl)
       (by
      refine dS 1 (fun γ ρ B hb hd => op_fieldAddr (off := 0) lb tf43_0 (.tmp (hb 1 _ rfl))) <| dR 2 (fun γ ρ B hb hd => OpStep.lk ⟨ρ, (cvar gb_2 r_api_Event t_1) :: B, _⟩ (op_loadA (j := 0) lb tA29 (tl hd 0 6) rfl (cT (comp_api_Event_ID t_1) rfl) rfl)) <| dS 3 (fun γ ρ B hb hd => (op_call (js := []) ld cl62 (sim_event_MayDot k t_1.ID v_3 hv_v_3) .func (.cons (tl hd 1 7) .nil) rfl).post (fun _ => Imp.refl)) <| dS 4 (fun γ ρ B hb hd => op_not lb (tl hd 2 8) hv_v_4) <| dS 5 (fun γ ρ B hb hd => op_move lb (tl hd 3 9)) ?_
      refine dY 6 (fun γ ρ B hb hd => ⟨.yes rfl (ltB rfl) (hl hd 4 10 rfl) hc3, lkB (op_fieldAddr (off := 4) lb tf43_3 (.tmp (hb 1 _ rfl)))⟩) <| dY 7 (fun γ ρ B hb hd => ⟨.yes rfl (ltB rfl) (hl hd 4 10 rfl) hc3, OpStep.lk ⟨ρ, (cvar gb_2 r_api_Event t_1) :: B, _⟩ (op_loadA (j := 0) lb tA40 (tl hd 5 11) rfl (cT (comp_api_Event_Past t_1) rfl) rfl)⟩) <| dY 8 (fun γ ρ B hb hd => ⟨.yes rfl (ltB rfl) (hl hd 4 10 rfl) hc3, lkB ((op_call (js := []) ld cl63 (sim_event_mayVector k t_1.Past v_5 hv_v_5) .func (.cons (tl hd 6 12) .nil) rfl).post (fun _ => Imp.refl))⟩) <| dY 9 (fun γ ρ B hb hd => ⟨.yes rfl (ltB rfl) (hl hd 4 10 rfl) hc3, lkB (op_not lb (tl hd 7 13) hv_v_6)⟩) <| dS 10 (fun γ ρ B hb hd => op_pickF lb (tl hd 4 10) hc3 (tl hd 8 14)) ?_
      refine dS 11 (fun γ ρ B hb hd => op_move lb (tl hd 9 15)) <| dK 12 (fun γ ρ B hb hd => .no rfl (ltB rfl) (hl hd 10 16 rfl) hc5) <| dK 13 (fun γ ρ B hb hd => .no rfl (ltB rfl) (hl hd 10 16 rfl) hc5) <| dK 14 (fun γ ρ B hb hd => .no rfl (ltB rfl) (hl hd 10 16 rfl) hc5) <| dK 15 (fun γ ρ B hb hd => .no rfl (ltB rfl) (hl hd 10 16 rfl) hc5) ?_
      refine dK 16 (fun γ ρ B hb hd => .no rfl (ltB rfl) (hl hd 10 16 rfl) hc5) <| dK 17 (fun γ ρ B hb hd => .no rfl (ltB rfl) (hl hd 10 16 rfl) hc5) <| dK 18 (fun γ ρ B hb hd => .no rfl (ltB rfl) (hl hd 10 16 rfl) hc5) <| dK 19 (fun γ ρ B hb hd => .no rfl (ltB rfl) (hl hd 10 16 rfl) hc5) <| dK 20 (fun γ ρ B hb hd => .no rfl (ltB rfl) (hl hd 10 16 rfl) hc5) ?_
      refine dK 21 (fun γ ρ B hb hd => .no rfl (ltB rfl) (hl hd 10 16 rfl) hc5) <| dK 22 (fun γ ρ B hb hd => .no rfl (ltB rfl) (hl hd 10 16 rfl) hc5) <| dK 23 (fun γ ρ B hb hd => .no rfl (ltB rfl) (hl hd 10 16 rfl) hc5) <| dS 24 (fun γ ρ B hb hd => op_pickT lb (tl hd 10 16) hc5 .cB) ?_
      exact DSteps.nil)
       (by decide +kernel) (fun _ => rfl) rfl (fun _ => rfl) (fun _ => rfl) rfl (by decide) (by decide) (by decide +kernel) (fun _ d h => by cases h)
       (ρ' := fun γ => [(1, ov (PTR gb_2 0)), (29, ov (S rB true))])
       (X' := fun γ => [cvar gb_2 r_api_Event t_1])
       (fun γ ρ hb hd => (.cons (hb 1 _ rfl (by decide)) (.cons (hdq hd 23 29 rfl) .nil))) (fun _ => rfl) (fun γ => ?_)
   refine JQ.at ⟨[(1, ov (PTR gb_2 0)), (29, ov (S rB true))], [cvar gb_2 r_api_Event t_1], []⟩ ?_
   replace hx1 := Option.some.inj hx1
   first | subst hx1 | clear hx1
   exact JQ.join () (Imp.norm (js := [0]) rfl (.cons rfl (.cons rfl .nil)))
 replace hx1 := lt1_inv hx1
 obtain ⟨v_7, hv_v_7, hx1⟩ := hx1
 replace hx1 := bnd_inv hx1
 obtain ⟨i_8, hv_i_8, hx1⟩ := hx1
 replace hx1 := lt1_inv hx1
 obtain ⟨v_9, hv_v_9, hx1⟩ := hx1
 replace hx1 := lt1_inv hx1
 obtain ⟨v_10, hv_v_10, hx1⟩ := hx1
 replace hx1 := lt1_inv hx1
 obtain ⟨v_11, hv_v_11, hx1⟩ := hx1
 refine JC.anyE (kl := []) (kk := 0) (base := [(1, ov (PTR gb_2 0))])
     (fs := fun γ => [⟨some 6, ov (PTR gb_2 (0 + 0))⟩, ⟨some 7, ov (A r_api_Dot t_1.ID)⟩, ⟨some 8, ov (S rB v_3)⟩, ⟨some 9, ov (S rB v_4)⟩, ⟨some 10, ov (S rB v_4)⟩, ⟨some 11, ov (PTR gb_2 (0 + 4))⟩, ⟨some 12, ov (A (rV 16 (rU UInt64)) t_1.Past)⟩, ⟨some 13, ov (S rB v_5)⟩, ⟨some 14, ov (S rB v_6)⟩, ⟨some 15, ov (S rB v_6)⟩, ⟨some 16, ov (S rB v_6)⟩, ⟨some 17, ov (PTR gb_2 (0 + 0))⟩, ⟨some 18, ov (PTR gb_2 ((0 + 0) + 0))⟩, ⟨some 19, ov (S (rI .i64) t_1.ID.Region)⟩, ⟨some 20, ov (S (rI .i64) v_7)⟩, ⟨some 21, ov (PTR gb_2 (0 + 4))⟩, ⟨some 22, ov (PTR gb_2 ((0 + 4) + i_8.1 * 1))⟩, ⟨some 23, ov (S (rU UInt64) v_9)⟩, ⟨some 24, ov (PTR gb_2 (0 + 0))⟩, ⟨some 25, ov (PTR gb_2 ((0 + 0) + 1))⟩, ⟨some 26, ov (S (rU UInt64) t_1.ID.Count)⟩, ⟨some 27, ov (S (rU UInt64) v_10)⟩, ⟨some 28, ov (S rB v_11)⟩, ⟨some 29, ov (S rB v_11)⟩])
     (rs := fun γ => [⟨cvar gb_2 r_api_Event t_1, none, none, [1, 6, 13, 17, 20]⟩])
     (ds := [6, 7, 8, 9, 10, 11, 12, 13, 14, 15, 16, 17, 18, 19, 20, 21, 22, 23, 24, 25, 26, 27, 28, 29]) (bs := [1]) (afts := [[], [], [], [], [], [], [], [], [], [], [], [], [], [], [], [], [], [], [], [], [], [], [], []]) (js := [0]) mixed (.cons rfl .nil) (fun _ => rfl)
     (by
      refine dS 1 (fun γ ρ B hb hd => op_fieldAddr (off := 0) lb tf43_0 (.tmp (hb 1 _ rfl))) <| dR 2 (fun γ ρ B hb hd => OpStep.lk ⟨ρ, (cvar gb_2 r_api_Event t_1) :: B, _⟩ (op_loadA (j := 0) lb tA29 (tl hd 0 6) rfl (cT (comp_api_Event_ID t_1) rfl) rfl)) <| dS 3 (fun γ ρ B hb hd => (op_call (js := []) ld cl62 (sim_event_MayDot k t_1.ID v_3 hv_v_3) .func (.cons (tl hd 1 7) .nil) rfl).post (fun _ => Imp.refl)) <| dS 4 (fun γ ρ B hb hd => op_not lb (tl hd 2 8) hv_v_4) <| dS 5 (fun γ ρ B hb hd => op_move lb (tl hd 3 9)) ?_
      refine dY 6 (fun γ ρ B hb hd => ⟨.yes rfl (ltB rfl) (hl hd 4 10 rfl) hc3, lkB (op_fieldAddr (off := 4) lb tf43_3 (.tmp (hb 1 _ rfl)))⟩) <| dY 7 (fun γ ρ B hb hd => ⟨.yes rfl (ltB rfl) (hl hd 4 10 rfl) hc3, OpStep.lk ⟨ρ, (cvar gb_2 r_api_Event t_1) :: B, _⟩ (op_loadA (j := 0) lb tA40 (tl hd 5 11) rfl (cT (comp_api_Event_Past t_1) rfl) rfl)⟩) <| dY 8 (fun γ ρ B hb hd => ⟨.yes rfl (ltB rfl) (hl hd 4 10 rfl) hc3, lkB ((op_call (js := []) ld cl63 (sim_event_mayVector k t_1.Past v_5 hv_v_5) .func (.cons (tl hd 6 12) .nil) rfl).post (fun _ => Imp.refl))⟩) <| dY 9 (fun γ ρ B hb hd => ⟨.yes rfl (ltB rfl) (hl hd 4 10 rfl) hc3, lkB (op_not lb (tl hd 7 13) hv_v_6)⟩) <| dS 10 (fun γ ρ B hb hd => op_pickF lb (tl hd 4 10) hc3 (tl hd 8 14)) ?_
      refine dS 11 (fun γ ρ B hb hd => op_move lb (tl hd 9 15)) <| dY 12 (fun γ ρ B hb hd => ⟨.yes rfl (ltB rfl) (hl hd 10 16 rfl) hc5, lkB (op_fieldAddr (off := 0) lb tf43_0 (.tmp (hb 1 _ rfl)))⟩) <| dY 13 (fun γ ρ B hb hd => ⟨.yes rfl (ltB rfl) (hl hd 10 16 rfl) hc5, lkB (op_fieldAddr (off := 0) lb tf29_0 (tl hd 11 17))⟩) <| dY 14 (fun γ ρ B hb hd => ⟨.yes rfl (ltB rfl) (hl hd 10 16 rfl) hc5, OpStep.lk ⟨ρ, (cvar gb_2 r_api_Event t_1) :: B, _⟩ (op_loadS (j := 0) lb tS3 (tl hd 12 18) rfl (Comp.trans (cT (comp_api_Event_ID t_1) rfl) (comp_api_Dot_Region t_1.ID) (lE rfl)) rfl rfl)⟩) <| dY 15 (fun γ ρ B hb hd => ⟨.yes rfl (ltB rfl) (hl hd 10 16 rfl) hc5, lkB (op_arI lb (tl hd 13 19) .cI (congrArg some hv_v_7))⟩) ?_
      refine dY 16 (fun γ ρ B hb hd => ⟨.yes rfl (ltB rfl) (hl hd 10 16 rfl) hc5, lkB (op_fieldAddr (off := 4) lb tf43_3 (.tmp (hb 1 _ rfl)))⟩) <| dY 17 (fun γ ρ B hb hd => ⟨.yes rfl (ltB rfl) (hl hd 10 16 rfl) hc5, lkB (op_indexAddrIF lb tr40 (tl hd 15 21) (tl hd 14 20) hv_i_8)⟩) <| dY 18 (fun γ ρ B hb hd => ⟨.yes rfl (ltB rfl) (hl hd 10 16 rfl) hc5, OpStep.lk ⟨ρ, (cvar gb_2 r_api_Event t_1) :: B, _⟩ (op_loadS (j := 0) lb tS27 (tl hd 16 22) rfl (Comp.at (cT (comp_api_Event_Past t_1) rfl) i_8.2 rfl) rfl hv_v_9)⟩) <| dY 19 (fun γ ρ B hb hd => ⟨.yes rfl (ltB rfl) (hl hd 10 16 rfl) hc5, lkB (op_fieldAddr (off := 0) lb tf43_0 (.tmp (hb 1 _ rfl)))⟩) <| dY 20 (fun γ ρ B hb hd => ⟨.yes rfl (ltB rfl) (hl hd 10 16 rfl) hc5, lkB (op_fieldAddr (off := 1) lb tf29_1 (tl hd 18 24))⟩) ?_
      refine dY 21 (fun γ ρ B hb hd => ⟨.yes rfl (ltB rfl) (hl hd 10 16 rfl) hc5, OpStep.lk ⟨ρ, (cvar gb_2 r_api_Event t_1) :: B, _⟩ (op_loadS (j := 0) lb tS27 (tl hd 19 25) rfl (Comp.trans (cT (comp_api_Event_ID t_1) rfl) (comp_api_Dot_Count t_1.ID) (lE rfl)) rfl rfl)⟩) <| dY 22 (fun γ ρ B hb hd => ⟨.yes rfl (ltB rfl) (hl hd 10 16 rfl) hc5, lkB (op_arU lb (tl hd 20 26) (HasO.cU (x := (1 : UInt64)) rfl (by decide)) (congrArg some hv_v_10))⟩) <| dY 23 (fun γ ρ B hb hd => ⟨.yes rfl (ltB rfl) (hl hd 10 16 rfl) hc5, lkB (op_cmpU lb (tl hd 17 23) (tl hd 21 27) (congrArg some hv_v_11))⟩) <| dS 24 (fun γ ρ B hb hd => op_pickF lb (tl hd 10 16) hc5 (tl hd 22 28)) ?_
      exact DSteps.nil)
     (by decide +kernel) (fun _ => rfl) rfl (fun _ => rfl) (fun _ => rfl) rfl (by decide) (by decide) (by decide +kernel) (fun _ d h => by cases h)
     (ρ' := fun γ => [(1, ov (PTR gb_2 0)), (29, ov (S rB v_11))])
     (X' := fun γ => [cvar gb_2 r_api_Event t_1])
     (fun γ ρ hb hd => (.cons (hb 1 _ rfl (by decide)) (.cons (hdq hd 23 29 rfl) .nil))) (fun _ => rfl) (fun γ => ?_)
 refine JQ.at ⟨[(1, ov (PTR gb_2 0)), (29, ov (S rB v_11))], [cvar gb_2 r_api_Event t_1], []⟩ ?_
 replace hx1 := Option.some.inj hx1
 first | subst hx1 | clear hx1
 exact JQ.join () (Imp.norm (js := [0]) rfl (.cons rfl (.cons rfl .nil)))

theorem sim_frame_May_2 (k : Nat) (n_1 : UInt64) (r : Bool) (hm : frame_May_2 k n_1 = some r) : Sim Try.prog 27 [S (rU UInt64) n_1] [] (γ := Unit) (fun q => []) (fun q => .one (.val (S rB r))) := by
 unfold frame_May_2 at hm
 refine Sim.of Try.func27 rfl rfl (lE rfl) (fun e0 w0 => ?_)
 refine JC.at ⟨[(0, ov (S (rU UInt64) n_1))], [], []⟩ ?_
 refine jr <| jc (op_assign lb .cB) <| jn <| jr <| jmv rfl rfl ?_
 replace hm := lt1_inv hm
 obtain ⟨v_2, hv_v_2, hm⟩ := hm
 refine jc (op_cmpU lb (.tmp rfl) (HasO.cU (x := (4611686018427387904 : UInt64)) rfl (by decide)) (congrArg some hv_v_2)) <| jc (op_assign lb (.tmp rfl)) <| jn ?_
 refine JC.ret ?_
 replace hm := Option.some.inj hm
 subst hm
 exact JQ.done (js := []) (ss := [.val (S rB v_2)]) () (.inl rfl) (.nil rfl) rfl (.cons (.tmp rfl) .nil) rfl rfl rfl

theorem sim_slices_IndexFuncuint64_uint64'2 (k : Nat) (s_1 : (List UInt64)) (r : Int) (hm : slices_IndexFuncuint64_uint64'2 k s_1 = some r) : Sim Try.prog 65 [S (rL (rU UInt64)) s_1, CLO 27 []] [] (γ := Unit) (fun q => []) (fun q => .one (.val (S (rI .i64) r))) := by
 unfold slices_IndexFuncuint64_uint64'2 at hm
 refine Sim.of Try.func65 rfl rfl (lE rfl) (fun e0 w0 => ?_)
 refine JC.at ⟨[(0, ov (S (rL (rU UInt64)) s_1)), (1, ov (CLO 27 []))], [], []⟩ ?_
 refine jr <| jc (op_assign lb .cI) <| jn ?_
 replace hm := bnd_inv hm
 obtain ⟨tv1, hx1, hq1⟩ := hm
 refine JC.seqK (α := Unit) (γ := Unit) (stj := fun v q => ⟨[], [], []⟩) (p := fun v => tv1 = (.inl v)) (fun v q hv => ?_) ?_
 · subst hv
   skip
   obtain _ := q
   dsimp only at hq1
   refine JC.at ⟨[], [], []⟩ ?_
   refine jr <| jc (op_assign lb .cI) <| jn ?_
   refine JC.ret ?_
   replace hq1 := Option.some.inj hq1
   subst hq1
   exact JQ.done (js := []) (ss := [.val (S (rI .i64) (-1 : Int))]) () (.inl rfl) (.nil rfl) rfl (.cons (.tmp rfl) .nil) rfl rfl rfl
 refine jr <| jmv rfl rfl <| jc (op_lenL lb tu82 (.tmp rfl)) <| jc (op_move lb .cI) <| jn ?_
 refine JC.block ?_
 replace hx1 := bnd_inv hx1
 obtain ⟨tv2, hL2, hq2⟩ := hx1
 refine JC.pre ?_ (JC.loop (γ := Unit) (stf := fun s q => ⟨[(0, ov (S (rL (rU UInt64)) s_1)), (1, ov (CLO 27 [])), (7, ov (S (rI .i64) (List.length s_1 : Int))), (8, ov (S (rI .i64) s))], [], []⟩) (q := ()) hL2 ?_)
 · exact (Imp.norm (js := []) rfl (.cons rfl (.cons rfl (.cons rfl (.cons rfl .nil)))))
 intro x_2 q x hx hr
 obtain _ := q
 change slices_IndexFuncuint64_uint64'2.b1 k s_1 x_2 = some x at hx
 unfold slices_IndexFuncuint64_uint64'2.b1 at hx
 refine JC.at ⟨[(0, ov (S (rL (rU UInt64)) s_1)), (1, ov (CLO 27 [])), (7, ov (S (rI .i64) (List.length s_1 : Int))), (8, ov (S (rI .i64) x_2))], [], []⟩ ?_
 refine jr ?_
 replace hx := lt1_inv hx
 obtain ⟨v_3, hv_v_3, hx⟩ := hx
 refine jc (op_cmpI lb (.tmp rfl) (.tmp rfl) (congrArg some hv_v_3)) <| jn <| JC.seq ?_
 replace hx := iteB_inv hx
 rcases hx with ⟨hc3, hx⟩ | ⟨hc3, hx⟩
 · refine JC.condT (.tmp rfl) hc3 ?_
   refine JC.skip ?_
   refine JQ.then <| JC.seq <| JC.block <| jr <| jmv rfl rfl ?_
   refine jc (op_assign lb (.tmp rfl)) <| jn <| jr <| jmv rfl rfl <| jmv rfl rfl ?_
   refine jmv rfl rfl ?_
   replace hx := bnd_inv hx
   obtain ⟨v_4, hv_v_4, hx⟩ := hx
   refine jc (op_indexAddrLg lb tu82 tz27 (.tmp rfl) (.tmp rfl) hv_v_4) <| jc (op_loadPSg lb tS27 rfl (.tmp rfl) rfl) ?_
   replace hx := bnd_inv hx
   obtain ⟨v_5, hv_v_5, hx⟩ := hx
   refine jx (op_call (js := []) ld cl27 (sim_frame_May_2 k v_4 v_5 hv_v_5) (.tmp rfl) (.cons (.tmp rfl) .nil) rfl) (fun _ => ?_)
   refine jn ?_
   replace hx := iteB_inv hx
   rcases hx with ⟨hc4, hx⟩ | ⟨hc4, hx⟩
   · refine JC.condT (.tmp rfl) hc4 ?_
     refine jr <| jmv rfl rfl <| jc (op_assign lb (.tmp rfl)) <| jn ?_
     refine JC.ret ?_
     refine JQ.outRB ?_
     refine JQ.outR ?_
     replace hx := Option.some.inj hx
     first | subst hx | clear hx
     have ht := hr _ rfl
     clear hr
     first | subst ht | clear ht
     dsimp only at hq2
     refine JQ.outR ?_
     refine JQ.outRB ?_
     replace hq2 := Option.some.inj hq2
     first | subst hq2 | clear hq2
     dsimp only at hq1
     refine JQ.outR ?_
     replace hq1 := Option.some.inj hq1
     subst hq1
     exact JQ.done (js := []) (ss := [.val (S (rI .i64) x_2)]) () (.inl rfl) (.nil rfl) rfl (.cons (.tmp rfl) .nil) rfl rfl rfl
   refine JC.condF (.tmp rfl) hc4 ?_
   refine JC.skip ?_
   refine JQ.outNB ?_
   refine JQ.then <| JC.region ?_
   replace hx := lt1_inv hx
   obtain ⟨v_6, hv_v_6, hx⟩ := hx
   refine jc (op_arI lb (.tmp rfl) .cI (congrArg some hv_v_6)) <| jmv rfl rfl <| JL.nil ?_
   replace hx := Option.some.inj hx
   first | subst hx | clear hx
   exact JQ.next () rfl (Imp.norm (js := []) rfl (.cons rfl (.cons rfl (.cons rfl (.cons rfl .nil)))))
 refine JC.condF (.tmp rfl) hc3 ?_
 refine JC.exit ?_
 refine JQ.outX ?_
 replace hx := Option.some.inj hx
 first | subst hx | clear hx
 have ht := hr _ rfl
 clear hr
 first | subst ht | clear ht
 dsimp only at hq2
 refine JQ.outX ?_
 refine JQ.here ?_
 replace hq2 := Option.some.inj hq2
 first | subst hq2 | clear hq2
 exact JQ.joinK () () rfl (Imp.norm (js := []) rfl .nil)

theorem sim_slices_ContainsFuncuint64_uint64'2 (k : Nat) (s_1 : (List UInt64)) (r : Bool) (hm : slices_ContainsFuncuint64_uint64'2 k s_1 = some r) : Sim Try.prog 26 [S (rL (rU UInt64)) s_1, CLO 27 []] [] (γ := Unit) (fun q => []) (fun q => .one (.val (S rB r))) := by
 unfold slices_ContainsFuncuint64_uint64'2 at hm
 refine Sim.of Try.func26 rfl rfl (lE rfl) (fun e0 w0 => ?_)
 refine JC.at ⟨[(0, ov (S (rL (rU UInt64)) s_1)), (1, ov (CLO 27 []))], [], []⟩ ?_
 refine jr <| jc (op_assign lb .cB) <| jn <| jr <| jmv rfl rfl ?_
 refine jmv rfl rfl ?_
 replace hm := bnd_inv hm
 obtain ⟨v_2, hv_v_2, hm⟩ := hm
 refine jx (op_call (js := []) ld cl65 (sim_slices_IndexFuncuint64_uint64'2 k s_1 v_2 hv_v_2) .func (.cons (.tmp rfl) (.cons (.tmp rfl) .nil)) rfl) (fun _ => ?_)
 replace hm := lt1_inv hm
 obtain ⟨v_3, hv_v_3, hm⟩ := hm
 refine jc (op_cmpI lb (.tmp rfl) .cI (congrArg some hv_v_3)) <| jc (op_assign lb (.tmp rfl)) <| jn ?_
 refine JC.ret ?_
 replace hm := Option.some.inj hm
 subst hm
 exact JQ.done (js := []) (ss := [.val (S rB v_3)]) () (.inl rfl) (.nil rfl) rfl (.cons (.tmp rfl) .nil) rfl rfl rfl

theorem sim_frame_May_1 (k : Nat) (i_1 : Int) (less_2 : Bool) (r : Bool) (hm : frame_May_1 k i_1 less_2 = some r) : Sim Try.prog 23 [S (rI .i64) i_1, S rB less_2] [] (γ := Unit) (fun q => []) (fun q => .one (.val (S rB r))) := by
 unfold frame_May_1 at hm
 refine Sim.of Try.func23 rfl rfl (lE rfl) (fun e0 w0 => ?_)
 refine JC.at ⟨[(0, ov (S (rI .i64) i_1)), (1, ov (S rB less_2))], [], []⟩ ?_
 refine jr <| jc (op_assign lb .cB) <| jn ?_
 replace hm := bnd_inv hm
 obtain ⟨x_5, hx1, hq1⟩ := hm
 refine JC.seqJ (γ := Unit) (stj := fun _ => ⟨[(4, ov (S rB x_5))], [], []⟩) (fun _ => ?_) ?_
 · refine JC.ret ?_
   replace hq1 := Option.some.inj hq1
   subst hq1
   exact JQ.done (js := []) (ss := [.val (S rB x_5)]) () (.inl rfl) (.nil rfl) rfl (.cons (.tmp rfl) .nil) rfl rfl rfl
 refine JC.region <| jmv rfl rfl ?_
 replace hx1 := lt1_inv hx1
 obtain ⟨v_3, hv_v_3, hx1⟩ := hx1
 refine jc (op_cmpI lb (.tmp rfl) .cI (congrArg some hv_v_3)) <| jmv rfl rfl ?_
 refine JL.cnd (sv := ov (S rB less_2)) (Guard.isF (ltB rfl) rfl rfl) rfl (ltB rfl) (fun hq_2 => op_move lb (.tmp rfl)) ?_
 replace hx1 := lt1_inv hx1
 obtain ⟨v_4, hv_v_4, hx1⟩ := hx1
 refine jc (op_pickCS lb (.tmp rfl) (fun hb3 => .cB) (fun hb3 => (HasO.cnd (.tmp rfl) (notT hb3))) hv_v_4) <| jc (op_assign lb (.tmp rfl)) <| JL.nil ?_
 replace hx1 := Option.some.inj hx1
 first | subst hx1 | clear hx1
 exact JQ.join () (Imp.norm (js := []) rfl (.cons rfl .nil))

theorem sim_ctx_order (k : Nat) (a_1 : api_Dot) (b_2 : api_Dot) (r : Int) (hm : ctx_order k a_1 b_2 = some r) : Sim Try.prog 66 [A r_api_Dot a_1, A r_api_Dot b_2] [] (γ := Unit) (fun q => []) (fun q => .one (.val (S (rI .i64) r))) := by
 unfold ctx_order at hm
 refine Sim.of Try.func66 rfl rfl (lE rfl) (fun e0 w0 => ?_)
 refine JC.at ⟨[(0, ov (A r_api_Dot a_1)), (1, ov (A r_api_Dot b_2))], [], []⟩ ?_
 refine jr ?_
 refine jx (op_boxA lb (.tmp rfl)) (fun q => ?_)
 obtain ⟨gb_3, hqq⟩ : ∃ z, z = q := ⟨_, rfl⟩
 subst hqq
 refine jx (op_boxA lb (.tmp rfl)) (fun q => ?_)
 obtain ⟨gb_4, hqq⟩ : ∃ z, z = q := ⟨_, rfl⟩
 subst hqq
 refine jc (op_assign lb .cI) <| jn <| JC.seq ?_
 replace hm := bnd_inv hm
 obtain ⟨v_5, hv_v_5, hm⟩ := hm
 replace hm := bnd_inv hm
 obtain ⟨v_6, hv_v_6, hm⟩ := hm
 replace hm := bnd_inv hm
 obtain ⟨v_7, hv_v_7, hm⟩ := hm
 refine JC.anyE (kl := []) (kk := 0) (base := [(2, ov (PTR gb_3 0)), (3, ov (PTR gb_4 0))])
     (fs := fun γ => [⟨some 5, ov (PTR gb_3 (0 + 0))⟩, ⟨some 6, ov (S (rI .i64) a_1.Region)⟩, ⟨some 7, ov (PTR gb_4 (0 + 0))⟩, ⟨some 8, ov (S (rI .i64) b_2.Region)⟩, ⟨some 9, ov (S (rI .i64) v_5)⟩, ⟨some 10, ov (PTR gb_3 (0 + 1))⟩, ⟨some 11, ov (S (rU UInt64) a_1.Count)⟩, ⟨some 12, ov (PTR gb_4 (0 + 1))⟩, ⟨some 13, ov (S (rU UInt64) b_2.Count)⟩, ⟨some 14, ov (S (rI .i64) v_6)⟩, ⟨some 15, ov (S (rL (rI .i64)) ([v_5, v_6] : (List Int)))⟩, ⟨some 16, ov (S (rI .i64) v_7)⟩, ⟨some 4, ov (S (rI .i64) v_7)⟩])
     (rs := fun γ => [⟨cvar gb_3 r_api_Dot a_1, none, none, [1, 6]⟩, ⟨cvar gb_4 r_api_Dot b_2, none, none, [3, 8]⟩])
     (ds := [5, 6, 7, 8, 9, 10, 11, 12, 13, 14, 15, 16, 4]) (bs := [2, 3]) (afts := [[], [], [], [], [], [], [], [], [], [], [], [], []]) (js := [0, 0]) mixed (.cons rfl (.cons rfl .nil)) (fun _ => rfl)
     (by
      refine dS 1 (fun γ ρ B hb hd => op_fieldAddr (off := 0) lb tf29_0 (.tmp (hb 2 _ rfl))) <| dR 2 (fun γ ρ B hb hd => OpStep.lk ⟨ρ, (cvar gb_3 r_api_Dot a_1) :: B, _⟩ (op_loadS (j := 0) lb tS3 (tl hd 0 5) rfl (cT (comp_api_Dot_Region a_1) rfl) rfl rfl)) <| dS 3 (fun γ ρ B hb hd => op_fieldAddr (off := 0) lb tf29_0 (.tmp (hb 3 _ rfl))) <| dR 4 (fun γ ρ B hb hd => OpStep.lk ⟨ρ, (cvar gb_4 r_api_Dot b_2) :: B, _⟩ (op_loadS (j := 0) lb tS3 (tl hd 2 7) rfl (cT (comp_api_Dot_Region b_2) rfl) rfl rfl)) <| dS 5 (fun γ ρ B hb hd => (op_call (js := []) ld cl90 (sim_cmp_Compareint k a_1.Region b_2.Region v_5 hv_v_5) .func (.cons (tl hd 1 6) (.cons (tl hd 3 8) .nil)) rfl).post (fun _ => Imp.refl)) ?_
      refine dS 6 (fun γ ρ B hb hd => op_fieldAddr (off := 1) lb tf29_1 (.tmp (hb 2 _ rfl))) <| dR 7 (fun γ ρ B hb hd => OpStep.lk ⟨ρ, (cvar gb_3 r_api_Dot a_1) :: B, _⟩ (op_loadS (j := 0) lb tS27 (tl hd 5 10) rfl (cT (comp_api_Dot_Count a_1) rfl) rfl rfl)) <| dS 8 (fun γ ρ B hb hd => op_fieldAddr (off := 1) lb tf29_1 (.tmp (hb 3 _ rfl))) <| dR 9 (fun γ ρ B hb hd => OpStep.lk ⟨ρ, (cvar gb_4 r_api_Dot b_2) :: B, _⟩ (op_loadS (j := 0) lb tS27 (tl hd 7 12) rfl (cT (comp_api_Dot_Count b_2) rfl) rfl rfl)) <| dS 10 (fun γ ρ B hb hd => (op_call (js := []) ld cl91 (sim_cmp_Compareuint64 k a_1.Count b_2.Count v_6 hv_v_6) .func (.cons (tl hd 6 11) (.cons (tl hd 8 13) .nil)) rfl).post (fun _ => Imp.refl)) ?_
      refine dS 11 (fun γ ρ B hb hd => op_buildF (r := (rI .i64)) lb tu48 tz3 tZ3 rfl (lE rfl) (.S rfl (tl hd 4 9) (.S rfl (tl hd 9 14) .nil)) rfl) <| dS 12 (fun γ ρ B hb hd => (op_call (js := []) ld cl89 (sim_cmp_Orint k ([v_5, v_6] : (List Int)) v_7 hv_v_7) .func (.cons (tl hd 10 15) .nil) rfl).post (fun _ => Imp.refl)) <| dS 13 (fun γ ρ B hb hd => op_assign lb (tl hd 11 16)) ?_
      exact DSteps.nil)
     (by decide +kernel) (fun _ => rfl) rfl (fun _ => rfl) (fun _ => rfl) rfl (by decide) (by decide) (by decide +kernel) (fun _ d h => by cases h)
     (ρ' := fun γ => [(4, ov (S (rI .i64) v_7))])
     (X' := fun γ => [cvar gb_3 r_api_Dot a_1, cvar gb_4 r_api_Dot b_2])
     (fun γ ρ hb hd => (.cons (hdq hd 12 4 rfl) .nil)) (fun _ => rfl) (fun γ => ?_)
 refine JQ.at ⟨[(4, ov (S (rI .i64) v_7))], [cvar gb_3 r_api_Dot a_1, cvar gb_4 r_api_Dot b_2], []⟩ ?_
 refine JQ.then ?_
 refine JC.ret ?_
 replace hm := Option.some.inj hm
 subst hm
 exact JQ.done (js := []) (ss := [.val (S (rI .i64) v_7)]) () (.inl rfl) (.nil rfl) rfl (.cons (.tmp rfl) .nil) rfl rfl rfl

end Go.Proofs.Ytklnihlchhhhlaa
