/- Walks. -/
import Derived.Test.YtklnihlchhhhlaaGreatT
import Derived.Test.YtklnihlchhhhlaaGreatW1
namespace Go.Proofs.YtklnihlchhhhlaaGreat
open Go Fw
set_option linter.unusedVariables false
set_option maxRecDepth 100000
set_option maxHeartbeats 4000000

theorem sim_event_May (k : Nat) (t_1 : api_Event) (r : Bool) (hm : event_May k t_1 = some r) : Sim Tryz.prog 31 [A r_api_Event t_1] [] (γ := Unit) (fun q => []) (fun q => .one (.val (S rB r))) := by
 unfold event_May at hm
 refine Sim.of Tryz.func31 rfl rfl (lE rfl) (fun e0 w0 => ?_)
 refine JC.at ⟨[(0, ov (A r_api_Event t_1))], [], []⟩ ?_
 refine jr ?_
 refine jx (op_boxA lb (.tmp rfl)) (fun gb_2 => ?_)
 refine jc (op_assign lb .cB) <| jn ?_
 refine JC.scope ?_
 refine JC.seq ?_
 obtain ⟨x_12, hx1, hq1⟩ := bnd_inv hm
 refine JC.seqJ (γ := Unit) (stj := fun _ => ⟨[(1, ov (PTR gb_2 0)), (29, ov (S rB x_12))], [cvar gb_2 r_api_Event t_1], []⟩) (fun _ => ?_) ?_
 · rcases iteB_inv hq1 with ⟨hc6, hq1⟩ | ⟨hc6, hq1⟩
   · refine JC.condT (.tmp rfl) hc6 ?_
     refine jr <| jc (op_assign lb .cB) <| jn ?_
     refine JC.ret ?_
     refine JQ.outR ?_
     refine JQ.scR ?_
     obtain rfl := so hq1
     exact jd (.val (S rB false)) rfl rfl rfl rfl rfl rfl
   refine JC.condF (.tmp rfl) hc6 ?_
   refine JC.skip ?_
   refine JQ.then <| JC.seq ?_
   obtain ⟨x_17, hx7, hq7⟩ := bnd_inv hq1
   refine JC.seqJ (γ := Unit) (stj := fun _ => ⟨[(1, ov (PTR gb_2 0)), (45, ov (S rB x_17))], [cvar gb_2 r_api_Event t_1], []⟩) (fun _ => ?_) ?_
   · rcases iteB_inv hq7 with ⟨hc12, hq7⟩ | ⟨hc12, hq7⟩
     · refine JC.condT (.tmp rfl) hc12 ?_
       refine jr <| jc (op_assign lb .cB) <| jn ?_
       refine JC.ret ?_
       refine JQ.outR ?_
       refine JQ.scR ?_
       obtain rfl := so hq7
       exact jd (.val (S rB false)) rfl rfl rfl rfl rfl rfl
     refine JC.condF (.tmp rfl) hc12 ?_
     refine JC.skip ?_
     refine JQ.then <| jr <| jc (op_assign lb .cB) <| jn <| JC.seq ?_
     refine JC.label ?_
     refine JQ.then ?_
     obtain ⟨x_32, hx13, hq13⟩ := bnd_inv hq7
     refine JC.seqJ (γ := Unit) (stj := fun _ => ⟨[(3, ov (S rB x_32))], [], []⟩) (fun _ => ?_) ?_
     · refine jr <| jmv rfl rfl <| jc (op_assign lb (.tmp rfl)) <| jn ?_
       refine JC.ret ?_
       refine JQ.scR ?_
       obtain rfl := so hq13
       exact jd (.val (S rB x_32)) rfl rfl rfl rfl rfl rfl
     refine jr <| jc (op_fieldAddr (off := 20) lb tf32_4 (.tmp rfl)) <| jc (op_loadS (j := 0) lb tS30 (.tmp rfl) rfl (cT (comp_api_Event_To t_1) rfl) rfl rfl) <| jc (op_lenL lb tu30 (.tmp rfl)) <| jc (op_move lb .cI) ?_
     refine jn <| JC.block ?_
     refine JC.pre ?_ (JC.loop (γ := Unit) (stf := fun s q => ⟨[(1, ov (PTR gb_2 0)), (3, ov (S rB s.1)), (47, ov (S (rL r_api_Dest) t_1.To)), (48, ov (S (rI .i64) (List.length t_1.To : Int))), (49, ov (S (rI .i64) s.2))], [cvar gb_2 r_api_Event t_1], []⟩) (q := ()) hx13 ?_)
     · exact (Imp.norm (js := [0]) rfl (.cons rfl (.cons rfl (.cons rfl (.cons rfl (.cons rfl .nil))))))
     intro s q x hx hr
     obtain ⟨x_18, x_19⟩ := s
     obtain _ := q
     change event_May.b1 k t_1 x_18 x_19 = some x at hx
     unfold event_May.b1 at hx
     refine JC.at ⟨[(1, ov (PTR gb_2 0)), (3, ov (S rB x_18)), (47, ov (S (rL r_api_Dest) t_1.To)), (48, ov (S (rI .i64) (List.length t_1.To : Int))), (49, ov (S (rI .i64) x_19))], [cvar gb_2 r_api_Event t_1], []⟩ ?_
     refine jr ?_
     obtain ⟨v_20, hv_20, hx⟩ := lt1_inv hx
     refine jc (op_cmpI lb (.tmp rfl) (.tmp rfl) (cs hv_20)) <| jn <| JC.seq ?_
     rcases iteB_inv hx with ⟨hc15, hx⟩ | ⟨hc15, hx⟩
     · refine JC.condT (.tmp rfl) hc15 ?_
       refine JC.skip ?_
       refine JQ.then <| JC.seq <| JC.block <| jr <| jmv rfl rfl ?_
       obtain ⟨v_21, hv_21, hx⟩ := bnd_inv hx
       refine jc (op_indexAddrLg lb tu30 tz125 (.tmp rfl) (.tmp rfl) hv_21) <| jc (op_loadPAg lb tA125 (.tmp rfl) rfl) ?_
       refine jx (op_alloc lb tZ125 zr125) (fun gb_22 => ?_)
       refine jc (op_assign lb (.tmp rfl)) <| jc (op_storeA (j := 1) tA125 (.tmp rfl) (.tmp rfl) rfl (UpdR.self (by rfl)) rfl) <| jn ?_
       obtain ⟨x_29, hx16, hq16⟩ := bnd_inv hx
       refine JC.seqJ (γ := Unit) (stj := fun _ => ⟨[(1, ov (PTR gb_2 0)), (3, ov (S rB x_29)), (47, ov (S (rL r_api_Dest) t_1.To)), (48, ov (S (rI .i64) (List.length t_1.To : Int))), (49, ov (S (rI .i64) x_19))], [cvar gb_2 r_api_Event t_1], []⟩) (fun _ => ?_) ?_
       · refine jr <| jmv rfl rfl ?_
         obtain ⟨v_30, hv_30, hq16⟩ := lt1_inv hq16
         refine jc (op_not lb (.tmp rfl) hv_30) <| jn ?_
         rcases iteB_inv hq16 with ⟨hc26, hq16⟩ | ⟨hc26, hq16⟩
         · refine JC.condT (.tmp rfl) hc26 ?_
           refine JC.exit ?_
           refine JQ.outE (by decide) ?_
           refine JQ.outX ?_
           try obtain rfl := so hq16
           have ht := hr _ rfl
           have hq14 := cs ht
           clear hr ht
           refine JQ.outX ?_
           refine JQ.here ?_
           try obtain rfl := so hq14
           exact jo rfl rfl rfl
         refine JC.condF (.tmp rfl) hc26 ?_
         refine JC.skip ?_
         refine JQ.outNB ?_
         refine JQ.then <| JC.region ?_
         obtain ⟨v_31, hv_31, hq16⟩ := lt1_inv hq16
         refine jc (op_arI lb (.tmp rfl) .cI (cs hv_31)) <| jmv rfl rfl <| JL.nil ?_
         try obtain rfl := so hq16
         exact JQ.next () rfl (Imp.norm (js := [0]) rfl (.cons rfl (.cons rfl (.cons rfl (.cons rfl (.cons rfl .nil))))))
       obtain ⟨v_23, hv_23, hx16⟩ := bnd_inv hx16
       rcases iteB_inv hx16 with ⟨hc18, hx16⟩ | ⟨hc18, hx16⟩
       · obtain ⟨v_24, hv_24, hx16⟩ := bnd_inv hx16
         obtain ⟨v_25, hv_25, hx16⟩ := lt1_inv hx16
         rcases iteB_inv hx16 with ⟨hc23, hx16⟩ | ⟨hc23, hx16⟩
         · rcases iteB_inv hx16 with ⟨hc25, hx16⟩ | ⟨hc25, hx16⟩
           · refine JC.anyF (base := [(1, ov (PTR gb_2 0)), (4, ov (S (rI .i64) x_19)), (5, ov (PTR gb_22 0)), (47, ov (S (rL r_api_Dest) t_1.To)), (48, ov (S (rI .i64) (List.length t_1.To : Int))), (49, ov (S (rI .i64) x_19))])
                 (fs := fun γ => [⟨some 54, ov (PTR gb_22 (0 + 0))⟩, ⟨some 55, ov (A r_api_Dot v_21.Dot)⟩, ⟨some 56, ov (S rB v_23)⟩, ⟨some 57, ov (S rB v_23)⟩, ⟨some 58, ov (PTR gb_22 (0 + 2))⟩, ⟨some 59, ov (S rS v_21.Device)⟩, ⟨some 60, ov (S rB v_24)⟩, ⟨some 61, ov (S rB v_24)⟩, ⟨some 62, ov (S rB v_24)⟩, ⟨some 63, bif v_24 then ov (S (rI .i64) x_19) else .one .und⟩, ⟨some 64, bif v_24 then ov (S rB v_25) else .one .und⟩, ⟨some 65, bif v_24 then ov (S rB v_25) else .one .und⟩, ⟨some 66, .one .und⟩, ⟨some 67, .one .und⟩, ⟨some 68, .one .und⟩, ⟨some 69, .one .und⟩, ⟨some 70, .one .und⟩, ⟨some 71, .one .und⟩, ⟨some 72, .one .und⟩, ⟨some 73, .one .und⟩, ⟨some 74, .one .und⟩, ⟨some 75, .one .und⟩, ⟨some 76, ov (S rB true)⟩, ⟨some 77, ov (S rB true)⟩, ⟨some 3, ov (S rB true)⟩])
                 (rs := fun γ => [⟨cvar gb_2 r_api_Event t_1, none, none, []⟩, ⟨cvar gb_22 r_api_Dest v_21, none, none, [1, 5]⟩])
                 (afts := nn 25) (js := [0, 0]) mixed (.cons rfl (.cons rfl (.cons rfl (.cons rfl (.cons rfl (.cons rfl .nil)))))) (fun _ => rfl)
                 (by
      refine dS 1 (fun γ ρ B hb hd => op_fieldAddr (off := 0) lb tf125_0 (.tmp (hb 5 _ rfl))) <| dR 2 (fun γ ρ B hb hd => OpStep.lk ⟨ρ, (cvar gb_22 r_api_Dest v_21) :: B, _⟩ (op_loadA (j := 0) lb tA26 (tl hd 0 54) rfl (cT (comp_api_Dest_Dot v_21) rfl) rfl)) <| dS 3 (fun γ ρ B hb hd => (op_call (js := []) ld cl82 (sim_event_MayDot k v_21.Dot v_23 hv_23) .func (.cons (tl hd 1 55) .nil) rfl).post (fun _ => Imp.refl)) <| dm 4 2 56 <| dY 5 (fun γ ρ B hb hd => ⟨.yes rfl (ltB rfl) (hl hd 3 57 rfl) hc18, lkB (op_fieldAddr (off := 2) lb tf125_1 (.tmp (hb 5 _ rfl)))⟩) ?_
      refine dY 6 (fun γ ρ B hb hd => ⟨.yes rfl (ltB rfl) (hl hd 3 57 rfl) hc18, OpStep.lk ⟨ρ, (cvar gb_22 r_api_Dest v_21) :: B, _⟩ (op_loadS (j := 0) lb tS9 (tl hd 4 58) rfl (cT (comp_api_Dest_Device v_21) rfl) rfl rfl)⟩) <| dY 7 (fun γ ρ B hb hd => ⟨.yes rfl (ltB rfl) (hl hd 3 57 rfl) hc18, lkB ((op_call (js := []) ld cl71 (sim_event_MayName k v_21.Device v_24 hv_24) .func (.cons (tl hd 5 59) .nil) rfl).post (fun _ => Imp.refl))⟩) <| dS 8 (fun γ ρ B hb hd => op_pickT lb (tl hd 3 57) hc18 (tl hd 6 60)) <| dm 9 7 61 ?_
      refine dC 10 v_24 (fun γ => ov (S (rI .i64) x_19)) (fun γ ρ B hb hd => ⟨(Guard.isT (ltB rfl) rfl (hl hd 8 62 rfl)), fun hq_19 => op_move lb (.tmp (hb 4 _ rfl))⟩) ?_
      refine dC 11 v_24 (fun γ => ov (S rB v_25)) (fun γ ρ B hb hd => ⟨(Guard.isT (ltB rfl) rfl (hl hd 8 62 rfl)), fun hq_20 => op_cmpI lb (HasO.cnd (tl hd 9 63) hq_20) .cI (cs hv_25)⟩) ?_
      refine dC 12 v_24 (fun γ => ov (S rB v_25)) (fun γ ρ B hb hd => ⟨(Guard.isT (ltB rfl) rfl (hl hd 8 62 rfl)), fun hq_21 => op_move lb (HasO.cnd (tl hd 10 64) hq_21)⟩) ?_
      refine dK 13 (fun γ ρ B hb hd => (Guard.eqB (Guard.cF (q := v_24) (ltB rfl) rfl (hl hd 11 65 rfl)) (andFR (notF' hc25)))) <| dK 14 (fun γ ρ B hb hd => (Guard.eqB (Guard.cF (q := v_24) (ltB rfl) rfl (hl hd 11 65 rfl)) (andFR (notF' hc25)))) <| dK 15 (fun γ ρ B hb hd => (Guard.eqB (Guard.cF (q := v_24) (ltB rfl) rfl (hl hd 11 65 rfl)) (andFR (notF' hc25)))) <| dK 16 (fun γ ρ B hb hd => (Guard.eqB (Guard.cF (q := v_24) (ltB rfl) rfl (hl hd 11 65 rfl)) (andFR (notF' hc25)))) <| dK 17 (fun γ ρ B hb hd => (Guard.eqB (Guard.cF (q := v_24) (ltB rfl) rfl (hl hd 11 65 rfl)) (andFR (notF' hc25)))) ?_
      refine dK 18 (fun γ ρ B hb hd => (Guard.eqB (Guard.cF (q := v_24) (ltB rfl) rfl (hl hd 11 65 rfl)) (andFR (notF' hc25)))) <| dK 19 (fun γ ρ B hb hd => (Guard.eqB (Guard.cF (q := v_24) (ltB rfl) rfl (hl hd 11 65 rfl)) (andFR (notF' hc25)))) <| dK 20 (fun γ ρ B hb hd => (Guard.eqB (Guard.cF (q := v_24) (ltB rfl) rfl (hl hd 11 65 rfl)) (andFR (notF' hc25)))) <| dK 21 (fun γ ρ B hb hd => (Guard.eqB (Guard.cF (q := v_24) (ltB rfl) rfl (hl hd 11 65 rfl)) (andFR (notF' hc25)))) <| dK 22 (fun γ ρ B hb hd => (Guard.eqB (Guard.cF (q := v_24) (ltB rfl) rfl (hl hd 11 65 rfl)) (andFR (notF' hc25)))) ?_
      refine dY 23 (fun γ ρ B hb hd => ⟨.yes rfl (ltB rfl) (hl hd 8 62 rfl) hc23, lkB (op_pickT lb (HasO.cnd (tl hd 11 65) hc23) hc25 .cB)⟩) <| dS 24 (fun γ ρ B hb hd => op_pickT lb (tl hd 8 62) hc23 (tl hd 22 76)) <| dS 25 (fun γ ρ B hb hd => op_assign lb (tl hd 23 77)) ?_
      exact DSteps.nil)
                 (by decide +kernel) (fun _ => rfl) (fun _ => rfl) (fun _ => rfl) rfl
                 (ρ' := fun γ => [(1, ov (PTR gb_2 0)), (3, ov (S rB true)), (47, ov (S (rL r_api_Dest) t_1.To)), (48, ov (S (rI .i64) (List.length t_1.To : Int))), (49, ov (S (rI .i64) x_19))])
                 (X' := fun γ => [cvar gb_2 r_api_Event t_1, cvar gb_22 r_api_Dest v_21])
                 (fun γ ρ hb hd => (.cons (hb 1 _ rfl) (.cons (hdq hd 24 3 rfl) (.cons (hb 47 _ rfl) (.cons (hb 48 _ rfl) (.cons (hb 49 _ rfl) .nil)))))) (fun _ => rfl) (fun γ => ?_)
             refine JQ.at ⟨[(1, ov (PTR gb_2 0)), (3, ov (S rB true)), (47, ov (S (rL r_api_Dest) t_1.To)), (48, ov (S (rI .i64) (List.length t_1.To : Int))), (49, ov (S (rI .i64) x_19))], [cvar gb_2 r_api_Event t_1, cvar gb_22 r_api_Dest v_21], []⟩ ?_
             try obtain rfl := so hx16
             exact JQ.join () (Imp.norm (js := [0]) rfl (.cons rfl (.cons rfl (.cons rfl (.cons rfl (.cons rfl .nil))))))
           obtain ⟨v_26, hv_26, hx16⟩ := lt1_inv hx16
           obtain ⟨v_27, hv_27, hx16⟩ := bnd_inv hx16
           obtain ⟨v_28, hv_28, hx16⟩ := bnd_inv hx16
           refine JC.anyF (base := [(1, ov (PTR gb_2 0)), (4, ov (S (rI .i64) x_19)), (5, ov (PTR gb_22 0)), (47, ov (S (rL r_api_Dest) t_1.To)), (48, ov (S (rI .i64) (List.length t_1.To : Int))), (49, ov (S (rI .i64) x_19))])
               (fs := fun γ => [⟨some 54, ov (PTR gb_22 (0 + 0))⟩, ⟨some 55, ov (A r_api_Dot v_21.Dot)⟩, ⟨some 56, ov (S rB v_23)⟩, ⟨some 57, ov (S rB v_23)⟩, ⟨some 58, ov (PTR gb_22 (0 + 2))⟩, ⟨some 59, ov (S rS v_21.Device)⟩, ⟨some 60, ov (S rB v_24)⟩, ⟨some 61, ov (S rB v_24)⟩, ⟨some 62, ov (S rB v_24)⟩, ⟨some 63, bif v_24 then ov (S (rI .i64) x_19) else .one .und⟩, ⟨some 64, bif v_24 then ov (S rB v_25) else .one .und⟩, ⟨some 65, bif v_24 then ov (S rB v_25) else .one .und⟩, ⟨some 66, ov (PTR gb_2 (0 + 20))⟩, ⟨some 67, ov (S (rL r_api_Dest) t_1.To)⟩, ⟨some 68, ov (S (rI .i64) x_19)⟩, ⟨some 69, ov (S (rI .i64) v_26)⟩, ⟨some 70, ov (PT r_api_Dest v_27)⟩, ⟨some 71, ov (PT r_api_Dot v_27.Dot)⟩, ⟨some 72, ov (A r_api_Dot v_27.Dot)⟩, ⟨some 73, ov (PTR gb_22 (0 + 0))⟩, ⟨some 74, ov (A r_api_Dot v_21.Dot)⟩, ⟨some 75, ov (S rB v_28)⟩, ⟨some 76, ov (S rB v_28)⟩, ⟨some 77, ov (S rB v_28)⟩, ⟨some 3, ov (S rB v_28)⟩])
               (rs := fun γ => [⟨cvar gb_2 r_api_Event t_1, none, none, [13]⟩, ⟨cvar gb_22 r_api_Dest v_21, none, none, [1, 5, 20]⟩])
               (afts := nn 25) (js := [0, 0]) mixed (.cons rfl (.cons rfl (.cons rfl (.cons rfl (.cons rfl (.cons rfl .nil)))))) (fun _ => rfl)
               (by
      refine dS 1 (fun γ ρ B hb hd => op_fieldAddr (off := 0) lb tf125_0 (.tmp (hb 5 _ rfl))) <| dR 2 (fun γ ρ B hb hd => OpStep.lk ⟨ρ, (cvar gb_22 r_api_Dest v_21) :: B, _⟩ (op_loadA (j := 0) lb tA26 (tl hd 0 54) rfl (cT (comp_api_Dest_Dot v_21) rfl) rfl)) <| dS 3 (fun γ ρ B hb hd => (op_call (js := []) ld cl82 (sim_event_MayDot k v_21.Dot v_23 hv_23) .func (.cons (tl hd 1 55) .nil) rfl).post (fun _ => Imp.refl)) <| dm 4 2 56 <| dY 5 (fun γ ρ B hb hd => ⟨.yes rfl (ltB rfl) (hl hd 3 57 rfl) hc18, lkB (op_fieldAddr (off := 2) lb tf125_1 (.tmp (hb 5 _ rfl)))⟩) ?_
      refine dY 6 (fun γ ρ B hb hd => ⟨.yes rfl (ltB rfl) (hl hd 3 57 rfl) hc18, OpStep.lk ⟨ρ, (cvar gb_22 r_api_Dest v_21) :: B, _⟩ (op_loadS (j := 0) lb tS9 (tl hd 4 58) rfl (cT (comp_api_Dest_Device v_21) rfl) rfl rfl)⟩) <| dY 7 (fun γ ρ B hb hd => ⟨.yes rfl (ltB rfl) (hl hd 3 57 rfl) hc18, lkB ((op_call (js := []) ld cl71 (sim_event_MayName k v_21.Device v_24 hv_24) .func (.cons (tl hd 5 59) .nil) rfl).post (fun _ => Imp.refl))⟩) <| dS 8 (fun γ ρ B hb hd => op_pickT lb (tl hd 3 57) hc18 (tl hd 6 60)) <| dm 9 7 61 ?_
      refine dC 10 v_24 (fun γ => ov (S (rI .i64) x_19)) (fun γ ρ B hb hd => ⟨(Guard.isT (ltB rfl) rfl (hl hd 8 62 rfl)), fun hq_19 => op_move lb (.tmp (hb 4 _ rfl))⟩) ?_
      refine dC 11 v_24 (fun γ => ov (S rB v_25)) (fun γ ρ B hb hd => ⟨(Guard.isT (ltB rfl) rfl (hl hd 8 62 rfl)), fun hq_20 => op_cmpI lb (HasO.cnd (tl hd 9 63) hq_20) .cI (cs hv_25)⟩) ?_
      refine dC 12 v_24 (fun γ => ov (S rB v_25)) (fun γ ρ B hb hd => ⟨(Guard.isT (ltB rfl) rfl (hl hd 8 62 rfl)), fun hq_21 => op_move lb (HasO.cnd (tl hd 10 64) hq_21)⟩) ?_
      refine DSteps.cons (j := 13) rfl (fun _ => rfl) (.run (fun γ ρ B hb hd => ⟨(Guard.eqB (Guard.cF (q := v_24) (ltB rfl) rfl (hl hd 11 65 rfl)) (andI hc23 (notT hc25))), lkB (op_fieldAddr (off := 20) lb tf32_4 (.tmp (hb 1 _ rfl)))⟩)) ?_
      refine DSteps.cons (j := 14) rfl (fun _ => rfl) (.run (fun γ ρ B hb hd => ⟨(Guard.eqB (Guard.cF (q := v_24) (ltB rfl) rfl (hl hd 11 65 rfl)) (andI hc23 (notT hc25))), OpStep.lk ⟨ρ, (cvar gb_2 r_api_Event t_1) :: B, _⟩ (op_loadS (j := 0) lb tS30 (tl hd 12 66) rfl (cT (comp_api_Event_To t_1) rfl) rfl rfl)⟩)) ?_
      refine DSteps.cons (j := 15) rfl (fun _ => rfl) (.run (fun γ ρ B hb hd => ⟨(Guard.eqB (Guard.cF (q := v_24) (ltB rfl) rfl (hl hd 11 65 rfl)) (andI hc23 (notT hc25))), lkB (op_move lb (.tmp (hb 4 _ rfl)))⟩)) ?_
      refine DSteps.cons (j := 16) rfl (fun _ => rfl) (.run (fun γ ρ B hb hd => ⟨(Guard.eqB (Guard.cF (q := v_24) (ltB rfl) rfl (hl hd 11 65 rfl)) (andI hc23 (notT hc25))), lkB (op_arI lb (tl hd 14 68) .cI (cs hv_26))⟩)) ?_
      refine DSteps.cons (j := 17) rfl (fun _ => rfl) (.run (fun γ ρ B hb hd => ⟨(Guard.eqB (Guard.cF (q := v_24) (ltB rfl) rfl (hl hd 11 65 rfl)) (andI hc23 (notT hc25))), lkB (op_indexAddrLg lb tu30 tz125 (tl hd 13 67) (tl hd 15 69) hv_27)⟩)) ?_
      refine DSteps.cons (j := 18) rfl (fun _ => rfl) (.run (fun γ ρ B hb hd => ⟨(Guard.eqB (Guard.cF (q := v_24) (ltB rfl) rfl (hl hd 11 65 rfl)) (andI hc23 (notT hc25))), lkB (op_fieldAddrP lb tf125_0 (tl hd 16 70) (comp_api_Dest_Dot v_27))⟩)) ?_
      refine DSteps.cons (j := 19) rfl (fun _ => rfl) (.run (fun γ ρ B hb hd => ⟨(Guard.eqB (Guard.cF (q := v_24) (ltB rfl) rfl (hl hd 11 65 rfl)) (andI hc23 (notT hc25))), lkB (op_loadPAg lb tA26 (tl hd 17 71) rfl)⟩)) ?_
      refine DSteps.cons (j := 20) rfl (fun _ => rfl) (.run (fun γ ρ B hb hd => ⟨(Guard.eqB (Guard.cF (q := v_24) (ltB rfl) rfl (hl hd 11 65 rfl)) (andI hc23 (notT hc25))), lkB (op_fieldAddr (off := 0) lb tf125_0 (.tmp (hb 5 _ rfl)))⟩)) ?_
      refine DSteps.cons (j := 21) rfl (fun _ => rfl) (.run (fun γ ρ B hb hd => ⟨(Guard.eqB (Guard.cF (q := v_24) (ltB rfl) rfl (hl hd 11 65 rfl)) (andI hc23 (notT hc25))), OpStep.lk ⟨ρ, (cvar gb_22 r_api_Dest v_21) :: B, _⟩ (op_loadA (j := 0) lb tA26 (tl hd 19 73) rfl (cT (comp_api_Dest_Dot v_21) rfl) rfl)⟩)) ?_
      refine DSteps.cons (j := 22) rfl (fun _ => rfl) (.run (fun γ ρ B hb hd => ⟨(Guard.eqB (Guard.cF (q := v_24) (ltB rfl) rfl (hl hd 11 65 rfl)) (andI hc23 (notT hc25))), lkB ((op_call (js := []) ld cl84 (sim_event_Less k v_27.Dot v_21.Dot v_28 hv_28) .func (.cons (tl hd 18 72) (.cons (tl hd 20 74) .nil)) rfl).post (fun _ => Imp.refl))⟩)) ?_
      refine dY 23 (fun γ ρ B hb hd => ⟨.yes rfl (ltB rfl) (hl hd 8 62 rfl) hc23, lkB (op_pickF lb (HasO.cnd (tl hd 11 65) hc23) hc25 (tl hd 21 75))⟩) <| dS 24 (fun γ ρ B hb hd => op_pickT lb (tl hd 8 62) hc23 (tl hd 22 76)) <| dS 25 (fun γ ρ B hb hd => op_assign lb (tl hd 23 77)) ?_
      exact DSteps.nil)
               (by decide +kernel) (fun _ => rfl) (fun _ => rfl) (fun _ => rfl) rfl
               (ρ' := fun γ => [(1, ov (PTR gb_2 0)), (3, ov (S rB v_28)), (47, ov (S (rL r_api_Dest) t_1.To)), (48, ov (S (rI .i64) (List.length t_1.To : Int))), (49, ov (S (rI .i64) x_19))])
               (X' := fun γ => [cvar gb_2 r_api_Event t_1, cvar gb_22 r_api_Dest v_21])
               (fun γ ρ hb hd => (.cons (hb 1 _ rfl) (.cons (hdq hd 24 3 rfl) (.cons (hb 47 _ rfl) (.cons (hb 48 _ rfl) (.cons (hb 49 _ rfl) .nil)))))) (fun _ => rfl) (fun γ => ?_)
           refine JQ.at ⟨[(1, ov (PTR gb_2 0)), (3, ov (S rB v_28)), (47, ov (S (rL r_api_Dest) t_1.To)), (48, ov (S (rI .i64) (List.length t_1.To : Int))), (49, ov (S (rI .i64) x_19))], [cvar gb_2 r_api_Event t_1, cvar gb_22 r_api_Dest v_21], []⟩ ?_
           try obtain rfl := so hx16
           exact JQ.join () (Imp.norm (js := [0]) rfl (.cons rfl (.cons rfl (.cons rfl (.cons rfl (.cons rfl .nil))))))
         refine JC.anyF (base := [(1, ov (PTR gb_2 0)), (4, ov (S (rI .i64) x_19)), (5, ov (PTR gb_22 0)), (47, ov (S (rL r_api_Dest) t_1.To)), (48, ov (S (rI .i64) (List.length t_1.To : Int))), (49, ov (S (rI .i64) x_19))])
             (fs := fun γ => [⟨some 54, ov (PTR gb_22 (0 + 0))⟩, ⟨some 55, ov (A r_api_Dot v_21.Dot)⟩, ⟨some 56, ov (S rB v_23)⟩, ⟨some 57, ov (S rB v_23)⟩, ⟨some 58, ov (PTR gb_22 (0 + 2))⟩, ⟨some 59, ov (S rS v_21.Device)⟩, ⟨some 60, ov (S rB v_24)⟩, ⟨some 61, ov (S rB v_24)⟩, ⟨some 62, ov (S rB v_24)⟩, ⟨some 63, bif v_24 then ov (S (rI .i64) x_19) else .one .und⟩, ⟨some 64, bif v_24 then ov (S rB v_25) else .one .und⟩, ⟨some 65, bif v_24 then ov (S rB v_25) else .one .und⟩, ⟨some 66, .one .und⟩, ⟨some 67, .one .und⟩, ⟨some 68, .one .und⟩, ⟨some 69, .one .und⟩, ⟨some 70, .one .und⟩, ⟨some 71, .one .und⟩, ⟨some 72, .one .und⟩, ⟨some 73, .one .und⟩, ⟨some 74, .one .und⟩, ⟨some 75, .one .und⟩, ⟨some 76, .one .und⟩, ⟨some 77, ov (S rB false)⟩, ⟨some 3, ov (S rB false)⟩])
             (rs := fun γ => [⟨cvar gb_2 r_api_Event t_1, none, none, []⟩, ⟨cvar gb_22 r_api_Dest v_21, none, none, [1, 5]⟩])
             (afts := nn 25) (js := [0, 0]) mixed (.cons rfl (.cons rfl (.cons rfl (.cons rfl (.cons rfl (.cons rfl .nil)))))) (fun _ => rfl)
             (by
      refine dS 1 (fun γ ρ B hb hd => op_fieldAddr (off := 0) lb tf125_0 (.tmp (hb 5 _ rfl))) <| dR 2 (fun γ ρ B hb hd => OpStep.lk ⟨ρ, (cvar gb_22 r_api_Dest v_21) :: B, _⟩ (op_loadA (j := 0) lb tA26 (tl hd 0 54) rfl (cT (comp_api_Dest_Dot v_21) rfl) rfl)) <| dS 3 (fun γ ρ B hb hd => (op_call (js := []) ld cl82 (sim_event_MayDot k v_21.Dot v_23 hv_23) .func (.cons (tl hd 1 55) .nil) rfl).post (fun _ => Imp.refl)) <| dm 4 2 56 <| dY 5 (fun γ ρ B hb hd => ⟨.yes rfl (ltB rfl) (hl hd 3 57 rfl) hc18, lkB (op_fieldAddr (off := 2) lb tf125_1 (.tmp (hb 5 _ rfl)))⟩) ?_
      refine dY 6 (fun γ ρ B hb hd => ⟨.yes rfl (ltB rfl) (hl hd 3 57 rfl) hc18, OpStep.lk ⟨ρ, (cvar gb_22 r_api_Dest v_21) :: B, _⟩ (op_loadS (j := 0) lb tS9 (tl hd 4 58) rfl (cT (comp_api_Dest_Device v_21) rfl) rfl rfl)⟩) <| dY 7 (fun γ ρ B hb hd => ⟨.yes rfl (ltB rfl) (hl hd 3 57 rfl) hc18, lkB ((op_call (js := []) ld cl71 (sim_event_MayName k v_21.Device v_24 hv_24) .func (.cons (tl hd 5 59) .nil) rfl).post (fun _ => Imp.refl))⟩) <| dS 8 (fun γ ρ B hb hd => op_pickT lb (tl hd 3 57) hc18 (tl hd 6 60)) <| dm 9 7 61 ?_
      refine dC 10 v_24 (fun γ => ov (S (rI .i64) x_19)) (fun γ ρ B hb hd => ⟨(Guard.isT (ltB rfl) rfl (hl hd 8 62 rfl)), fun hq_19 => op_move lb (.tmp (hb 4 _ rfl))⟩) ?_
      refine dC 11 v_24 (fun γ => ov (S rB v_25)) (fun γ ρ B hb hd => ⟨(Guard.isT (ltB rfl) rfl (hl hd 8 62 rfl)), fun hq_20 => op_cmpI lb (HasO.cnd (tl hd 9 63) hq_20) .cI (cs hv_25)⟩) ?_
      refine dC 12 v_24 (fun γ => ov (S rB v_25)) (fun γ ρ B hb hd => ⟨(Guard.isT (ltB rfl) rfl (hl hd 8 62 rfl)), fun hq_21 => op_move lb (HasO.cnd (tl hd 10 64) hq_21)⟩) ?_
      refine dK 13 (fun γ ρ B hb hd => (Guard.eqB (Guard.cF (q := v_24) (ltB rfl) rfl (hl hd 11 65 rfl)) (andFL hc23))) <| dK 14 (fun γ ρ B hb hd => (Guard.eqB (Guard.cF (q := v_24) (ltB rfl) rfl (hl hd 11 65 rfl)) (andFL hc23))) <| dK 15 (fun γ ρ B hb hd => (Guard.eqB (Guard.cF (q := v_24) (ltB rfl) rfl (hl hd 11 65 rfl)) (andFL hc23))) <| dK 16 (fun γ ρ B hb hd => (Guard.eqB (Guard.cF (q := v_24) (ltB rfl) rfl (hl hd 11 65 rfl)) (andFL hc23))) <| dK 17 (fun γ ρ B hb hd => (Guard.eqB (Guard.cF (q := v_24) (ltB rfl) rfl (hl hd 11 65 rfl)) (andFL hc23))) ?_
      refine dK 18 (fun γ ρ B hb hd => (Guard.eqB (Guard.cF (q := v_24) (ltB rfl) rfl (hl hd 11 65 rfl)) (andFL hc23))) <| dK 19 (fun γ ρ B hb hd => (Guard.eqB (Guard.cF (q := v_24) (ltB rfl) rfl (hl hd 11 65 rfl)) (andFL hc23))) <| dK 20 (fun γ ρ B hb hd => (Guard.eqB (Guard.cF (q := v_24) (ltB rfl) rfl (hl hd 11 65 rfl)) (andFL hc23))) <| dK 21 (fun γ ρ B hb hd => (Guard.eqB (Guard.cF (q := v_24) (ltB rfl) rfl (hl hd 11 65 rfl)) (andFL hc23))) <| dK 22 (fun γ ρ B hb hd => (Guard.eqB (Guard.cF (q := v_24) (ltB rfl) rfl (hl hd 11 65 rfl)) (andFL hc23))) ?_
      refine kn 23 8 62 rfl hc23 <| dS 24 (fun γ ρ B hb hd => op_pickF lb (tl hd 8 62) hc23 .cB) <| dS 25 (fun γ ρ B hb hd => op_assign lb (tl hd 23 77)) ?_
      exact DSteps.nil)
             (by decide +kernel) (fun _ => rfl) (fun _ => rfl) (fun _ => rfl) rfl
             (ρ' := fun γ => [(1, ov (PTR gb_2 0)), (3, ov (S rB false)), (47, ov (S (rL r_api_Dest) t_1.To)), (48, ov (S (rI .i64) (List.length t_1.To : Int))), (49, ov (S (rI .i64) x_19))])
             (X' := fun γ => [cvar gb_2 r_api_Event t_1, cvar gb_22 r_api_Dest v_21])
             (fun γ ρ hb hd => (.cons (hb 1 _ rfl) (.cons (hdq hd 24 3 rfl) (.cons (hb 47 _ rfl) (.cons (hb 48 _ rfl) (.cons (hb 49 _ rfl) .nil)))))) (fun _ => rfl) (fun γ => ?_)
         refine JQ.at ⟨[(1, ov (PTR gb_2 0)), (3, ov (S rB false)), (47, ov (S (rL r_api_Dest) t_1.To)), (48, ov (S (rI .i64) (List.length t_1.To : Int))), (49, ov (S (rI .i64) x_19))], [cvar gb_2 r_api_Event t_1, cvar gb_22 r_api_Dest v_21], []⟩ ?_
         try obtain rfl := so hx16
         exact JQ.join () (Imp.norm (js := [0]) rfl (.cons rfl (.cons rfl (.cons rfl (.cons rfl (.cons rfl .nil))))))
       refine JC.anyF (base := [(1, ov (PTR gb_2 0)), (5, ov (PTR gb_22 0)), (47, ov (S (rL r_api_Dest) t_1.To)), (48, ov (S (rI .i64) (List.length t_1.To : Int))), (49, ov (S (rI .i64) x_19))])
           (fs := fun γ => [⟨some 54, ov (PTR gb_22 (0 + 0))⟩, ⟨some 55, ov (A r_api_Dot v_21.Dot)⟩, ⟨some 56, ov (S rB v_23)⟩, ⟨some 57, ov (S rB v_23)⟩, ⟨some 58, .one .und⟩, ⟨some 59, .one .und⟩, ⟨some 60, .one .und⟩, ⟨some 61, ov (S rB false)⟩, ⟨some 62, ov (S rB false)⟩, ⟨some 63, .one .und⟩, ⟨some 64, .one .und⟩, ⟨some 65, .one .und⟩, ⟨some 66, .one .und⟩, ⟨some 67, .one .und⟩, ⟨some 68, .one .und⟩, ⟨some 69, .one .und⟩, ⟨some 70, .one .und⟩, ⟨some 71, .one .und⟩, ⟨some 72, .one .und⟩, ⟨some 73, .one .und⟩, ⟨some 74, .one .und⟩, ⟨some 75, .one .und⟩, ⟨some 76, .one .und⟩, ⟨some 77, ov (S rB false)⟩, ⟨some 3, ov (S rB false)⟩])
           (rs := fun γ => [⟨cvar gb_2 r_api_Event t_1, none, none, []⟩, ⟨cvar gb_22 r_api_Dest v_21, none, none, [1]⟩])
           (afts := nn 25) (js := [0, 0]) mixed (.cons rfl (.cons rfl (.cons rfl (.cons rfl (.cons rfl .nil))))) (fun _ => rfl)
           (by
      refine dS 1 (fun γ ρ B hb hd => op_fieldAddr (off := 0) lb tf125_0 (.tmp (hb 5 _ rfl))) <| dR 2 (fun γ ρ B hb hd => OpStep.lk ⟨ρ, (cvar gb_22 r_api_Dest v_21) :: B, _⟩ (op_loadA (j := 0) lb tA26 (tl hd 0 54) rfl (cT (comp_api_Dest_Dot v_21) rfl) rfl)) <| dS 3 (fun γ ρ B hb hd => (op_call (js := []) ld cl82 (sim_event_MayDot k v_21.Dot v_23 hv_23) .func (.cons (tl hd 1 55) .nil) rfl).post (fun _ => Imp.refl)) <| dm 4 2 56 <| kn 5 3 57 rfl hc18 ?_
      refine kn 6 3 57 rfl hc18 <| kn 7 3 57 rfl hc18 <| dS 8 (fun γ ρ B hb hd => op_pickF lb (tl hd 3 57) hc18 .cB) <| dm 9 7 61 <| kn 10 8 62 rfl rfl ?_
      refine kn 11 8 62 rfl rfl <| kn 12 8 62 rfl rfl <| ku 13 11 65 rfl <| ku 14 11 65 rfl <| ku 15 11 65 rfl ?_
      refine ku 16 11 65 rfl <| ku 17 11 65 rfl <| ku 18 11 65 rfl <| ku 19 11 65 rfl <| ku 20 11 65 rfl ?_
      refine ku 21 11 65 rfl <| ku 22 11 65 rfl <| kn 23 8 62 rfl rfl <| dS 24 (fun γ ρ B hb hd => op_pickF lb (tl hd 8 62) rfl .cB) <| dS 25 (fun γ ρ B hb hd => op_assign lb (tl hd 23 77)) ?_
      exact DSteps.nil)
           (by decide +kernel) (fun _ => rfl) (fun _ => rfl) (fun _ => rfl) rfl
           (ρ' := fun γ => [(1, ov (PTR gb_2 0)), (3, ov (S rB false)), (47, ov (S (rL r_api_Dest) t_1.To)), (48, ov (S (rI .i64) (List.length t_1.To : Int))), (49, ov (S (rI .i64) x_19))])
           (X' := fun γ => [cvar gb_2 r_api_Event t_1, cvar gb_22 r_api_Dest v_21])
           (fun γ ρ hb hd => (.cons (hb 1 _ rfl) (.cons (hdq hd 24 3 rfl) (.cons (hb 47 _ rfl) (.cons (hb 48 _ rfl) (.cons (hb 49 _ rfl) .nil)))))) (fun _ => rfl) (fun γ => ?_)
       refine JQ.at ⟨[(1, ov (PTR gb_2 0)), (3, ov (S rB false)), (47, ov (S (rL r_api_Dest) t_1.To)), (48, ov (S (rI .i64) (List.length t_1.To : Int))), (49, ov (S (rI .i64) x_19))], [cvar gb_2 r_api_Event t_1, cvar gb_22 r_api_Dest v_21], []⟩ ?_
       try obtain rfl := so hx16
       exact JQ.join () (Imp.norm (js := [0]) rfl (.cons rfl (.cons rfl (.cons rfl (.cons rfl (.cons rfl .nil))))))
     refine JC.condF (.tmp rfl) hc15 ?_
     refine JC.exit ?_
     refine JQ.outX ?_
     try obtain rfl := so hx
     have ht := hr _ rfl
     have hq14 := cs ht
     clear hr ht
     refine JQ.outX ?_
     refine JQ.here ?_
     try obtain rfl := so hq14
     exact jo rfl rfl rfl
   refine JC.region <| jc (op_fieldAddr (off := 2) lb tf32_1 (.tmp rfl)) <| jc (op_loadS (j := 0) lb tS9 (.tmp rfl) rfl (cT (comp_api_Event_Topic t_1) rfl) rfl rfl) ?_
   obtain ⟨v_13, hv_13, hx7⟩ := bnd_inv hx7
   refine jx (op_call (js := []) ld cl71 (sim_event_MayName k t_1.Topic v_13 hv_13) .func (.cons (.tmp rfl) .nil) rfl) (fun _ => ?_)
   obtain ⟨v_14, hv_14, hx7⟩ := lt1_inv hx7
   refine jc (op_not lb (.tmp rfl) hv_14) <| jmv rfl rfl ?_
   rcases iteB_inv hx7 with ⟨hc9, hx7⟩ | ⟨hc9, hx7⟩
   · refine jk rfl hc9 <| jk rfl hc9 <| jk rfl hc9 <| jk rfl hc9 <| jc (op_pickT lb (.tmp rfl) hc9 .cB) ?_
     refine jmv rfl rfl <| jk rfl rfl <| jk rfl rfl <| jk rfl rfl <| jk rfl rfl ?_
     refine jc (op_pickT lb (.tmp rfl) rfl .cB) <| JL.nil ?_
     try obtain rfl := so hx7
     exact JQ.join () (Imp.norm (js := [0]) rfl (.cons rfl (.cons rfl .nil)))
   refine JL.run (.yes rfl (ltB rfl) rfl hc9) (op_fieldAddr (off := 3) lb tf32_2 (.tmp rfl)) ?_
   refine JL.run (.yes rfl (ltB rfl) rfl hc9) (op_loadS (j := 0) lb tS27 (.tmp rfl) rfl (cT (comp_api_Event_Payload t_1) rfl) rfl rfl) ?_
   refine JL.run (.yes rfl (ltB rfl) rfl hc9) (op_lenL lb tu27 (.tmp rfl)) ?_
   obtain ⟨v_15, hv_15, hx7⟩ := lt1_inv hx7
   refine JL.run (.yes rfl (ltB rfl) rfl hc9) (op_cmpI lb (.tmp rfl) .cI (cs hv_15)) ?_
   refine jc (op_pickF lb (.tmp rfl) hc9 (.tmp rfl)) <| jmv rfl rfl ?_
   rcases iteB_inv hx7 with ⟨hc11, hx7⟩ | ⟨hc11, hx7⟩
   · refine jk rfl hc11 <| jk rfl hc11 <| jk rfl hc11 <| jk rfl hc11 <| jc (op_pickT lb (.tmp rfl) hc11 .cB) ?_
     refine JL.sub ⟨[(1, ov (PTR gb_2 0)), (45, ov (S rB true))], [cvar gb_2 r_api_Event t_1], []⟩ (.cons rfl (.cons rfl .nil)) rfl rfl ?_
     refine JL.nil ?_
     try obtain rfl := so hx7
     exact JQ.join () (Imp.norm (js := [0]) rfl (.cons rfl (.cons rfl .nil)))
   refine JL.run (.yes rfl (ltB rfl) rfl hc11) (op_fieldAddr (off := 20) lb tf32_4 (.tmp rfl)) ?_
   refine JL.sub ⟨[(1, ov (PTR gb_2 0)), (40, ov (S rB v_15)), (41, ov (PTR gb_2 (0 + 20)))], [cvar gb_2 r_api_Event t_1], []⟩ (.cons rfl (.cons rfl (.cons rfl .nil))) rfl rfl ?_
   refine JL.run (.yes rfl (ltB rfl) rfl hc11) (op_loadS (j := 0) lb tS30 (.tmp rfl) rfl (cT (comp_api_Event_To t_1) rfl) rfl rfl) ?_
   refine JL.run (.yes rfl (ltB rfl) rfl hc11) (op_lenL lb tu30 (.tmp rfl)) ?_
   obtain ⟨v_16, hv_16, hx7⟩ := lt1_inv hx7
   refine JL.run (.yes rfl (ltB rfl) rfl hc11) (op_cmpI lb (.tmp rfl) .cI (cs hv_16)) ?_
   refine jc (op_pickF lb (.tmp rfl) hc11 (.tmp rfl)) <| JL.nil ?_
   try obtain rfl := so hx7
   exact JQ.join () (Imp.norm (js := [0]) rfl (.cons rfl (.cons rfl .nil)))
 obtain ⟨v_3, hv_3, hx1⟩ := bnd_inv hx1
 obtain ⟨v_4, hv_4, hx1⟩ := lt1_inv hx1
 rcases iteB_inv hx1 with ⟨hc3, hx1⟩ | ⟨hc3, hx1⟩
 · refine JC.anyF (base := [(1, ov (PTR gb_2 0))])
       (fs := fun γ => [⟨some 6, ov (PTR gb_2 (0 + 0))⟩, ⟨some 7, ov (A r_api_Dot t_1.ID)⟩, ⟨some 8, ov (S rB v_3)⟩, ⟨some 9, ov (S rB v_4)⟩, ⟨some 10, ov (S rB v_4)⟩, ⟨some 11, .one .und⟩, ⟨some 12, .one .und⟩, ⟨some 13, .one .und⟩, ⟨some 14, .one .und⟩, ⟨some 15, ov (S rB true)⟩, ⟨some 16, ov (S rB true)⟩, ⟨some 17, .one .und⟩, ⟨some 18, .one .und⟩, ⟨some 19, .one .und⟩, ⟨some 20, .one .und⟩, ⟨some 21, .one .und⟩, ⟨some 22, .one .und⟩, ⟨some 23, .one .und⟩, ⟨some 24, .one .und⟩, ⟨some 25, .one .und⟩, ⟨some 26, .one .und⟩, ⟨some 27, .one .und⟩, ⟨some 28, .one .und⟩, ⟨some 29, ov (S rB true)⟩])
       (rs := fun γ => [⟨cvar gb_2 r_api_Event t_1, none, none, [1]⟩])
       (afts := nn 24) (js := [0]) mixed (.cons rfl .nil) (fun _ => rfl)
       (by
      refine dS 1 (fun γ ρ B hb hd => op_fieldAddr (off := 0) lb tf32_0 (.tmp (hb 1 _ rfl))) <| dR 2 (fun γ ρ B hb hd => OpStep.lk ⟨ρ, (cvar gb_2 r_api_Event t_1) :: B, _⟩ (op_loadA (j := 0) lb tA26 (tl hd 0 6) rfl (cT (comp_api_Event_ID t_1) rfl) rfl)) <| dS 3 (fun γ ρ B hb hd => (op_call (js := []) ld cl82 (sim_event_MayDot k t_1.ID v_3 hv_3) .func (.cons (tl hd 1 7) .nil) rfl).post (fun _ => Imp.refl)) <| dS 4 (fun γ ρ B hb hd => op_not lb (tl hd 2 8) hv_4) <| dm 5 3 9 ?_
      refine kn 6 4 10 rfl hc3 <| kn 7 4 10 rfl hc3 <| kn 8 4 10 rfl hc3 <| kn 9 4 10 rfl hc3 <| dS 10 (fun γ ρ B hb hd => op_pickT lb (tl hd 4 10) hc3 .cB) ?_
      refine dm 11 9 15 <| kn 12 10 16 rfl rfl <| kn 13 10 16 rfl rfl <| kn 14 10 16 rfl rfl <| kn 15 10 16 rfl rfl ?_
      refine kn 16 10 16 rfl rfl <| kn 17 10 16 rfl rfl <| kn 18 10 16 rfl rfl <| kn 19 10 16 rfl rfl <| kn 20 10 16 rfl rfl ?_
      refine kn 21 10 16 rfl rfl <| kn 22 10 16 rfl rfl <| kn 23 10 16 rfl rfl <| dS 24 (fun γ ρ B hb hd => op_pickT lb (tl hd 10 16) rfl .cB) ?_
      exact DSteps.nil)
       (by decide +kernel) (fun _ => rfl) (fun _ => rfl) (fun _ => rfl) rfl
       (ρ' := fun γ => [(1, ov (PTR gb_2 0)), (29, ov (S rB true))])
       (X' := fun γ => [cvar gb_2 r_api_Event t_1])
       (fun γ ρ hb hd => (.cons (hb 1 _ rfl) (.cons (hdq hd 23 29 rfl) .nil))) (fun _ => rfl) (fun γ => ?_)
   refine JQ.at ⟨[(1, ov (PTR gb_2 0)), (29, ov (S rB true))], [cvar gb_2 r_api_Event t_1], []⟩ ?_
   try obtain rfl := so hx1
   exact JQ.join () (Imp.norm (js := [0]) rfl (.cons rfl (.cons rfl .nil)))
 obtain ⟨v_5, hv_5, hx1⟩ := bnd_inv hx1
 obtain ⟨v_6, hv_6, hx1⟩ := lt1_inv hx1
 rcases iteB_inv hx1 with ⟨hc5, hx1⟩ | ⟨hc5, hx1⟩
 · refine JC.anyF (base := [(1, ov (PTR gb_2 0))])
       (fs := fun γ => [⟨some 6, ov (PTR gb_2 (0 + 0))⟩, ⟨some 7, ov (A r_api_Dot t_1.ID)⟩, ⟨some 8, ov (S rB v_3)⟩, ⟨some 9, ov (S rB v_4)⟩, ⟨some 10, ov (S rB v_4)⟩, ⟨some 11, ov (PTR gb_2 (0 + 4))⟩, ⟨some 12, ov (A (rV 16 (rU UInt64)) t_1.Past)⟩, ⟨some 13, ov (S rB v_5)⟩, ⟨some 14, ov (S rB v_6)⟩, ⟨some 15, ov (S rB v_6)⟩, ⟨some 16, ov (S rB v_6)⟩, ⟨some 17, .one .und⟩, ⟨some 18, .one .und⟩, ⟨some 19, .one .und⟩, ⟨some 20, .one .und⟩, ⟨some 21, .one .und⟩, ⟨some 22, .one .und⟩, ⟨some 23, .one .und⟩, ⟨some 24, .one .und⟩, ⟨some 25, .one .und⟩, ⟨some 26, .one .und⟩, ⟨some 27, .one .und⟩, ⟨some 28, .one .und⟩, ⟨some 29, ov (S rB true)⟩])
       (rs := fun γ => [⟨cvar gb_2 r_api_Event t_1, none, none, [1, 6]⟩])
       (afts := nn 24) (js := [0]) mixed (.cons rfl .nil) (fun _ => rfl)
       (by
      refine dS 1 (fun γ ρ B hb hd => op_fieldAddr (off := 0) lb tf32_0 (.tmp (hb 1 _ rfl))) <| dR 2 (fun γ ρ B hb hd => OpStep.lk ⟨ρ, (cvar gb_2 r_api_Event t_1) :: B, _⟩ (op_loadA (j := 0) lb tA26 (tl hd 0 6) rfl (cT (comp_api_Event_ID t_1) rfl) rfl)) <| dS 3 (fun γ ρ B hb hd => (op_call (js := []) ld cl82 (sim_event_MayDot k t_1.ID v_3 hv_3) .func (.cons (tl hd 1 7) .nil) rfl).post (fun _ => Imp.refl)) <| dS 4 (fun γ ρ B hb hd => op_not lb (tl hd 2 8) hv_4) <| dm 5 3 9 ?_
      refine dY 6 (fun γ ρ B hb hd => ⟨.yes rfl (ltB rfl) (hl hd 4 10 rfl) hc3, lkB (op_fieldAddr (off := 4) lb tf32_3 (.tmp (hb 1 _ rfl)))⟩) <| dY 7 (fun γ ρ B hb hd => ⟨.yes rfl (ltB rfl) (hl hd 4 10 rfl) hc3, OpStep.lk ⟨ρ, (cvar gb_2 r_api_Event t_1) :: B, _⟩ (op_loadA (j := 0) lb tA29 (tl hd 5 11) rfl (cT (comp_api_Event_Past t_1) rfl) rfl)⟩) <| dY 8 (fun γ ρ B hb hd => ⟨.yes rfl (ltB rfl) (hl hd 4 10 rfl) hc3, lkB ((op_call (js := []) ld cl83 (sim_event_mayVector k t_1.Past v_5 hv_5) .func (.cons (tl hd 6 12) .nil) rfl).post (fun _ => Imp.refl))⟩) <| dY 9 (fun γ ρ B hb hd => ⟨.yes rfl (ltB rfl) (hl hd 4 10 rfl) hc3, lkB (op_not lb (tl hd 7 13) hv_6)⟩) <| dS 10 (fun γ ρ B hb hd => op_pickF lb (tl hd 4 10) hc3 (tl hd 8 14)) ?_
      refine dm 11 9 15 <| kn 12 10 16 rfl hc5 <| kn 13 10 16 rfl hc5 <| kn 14 10 16 rfl hc5 <| kn 15 10 16 rfl hc5 ?_
      refine kn 16 10 16 rfl hc5 <| kn 17 10 16 rfl hc5 <| kn 18 10 16 rfl hc5 <| kn 19 10 16 rfl hc5 <| kn 20 10 16 rfl hc5 ?_
      refine kn 21 10 16 rfl hc5 <| kn 22 10 16 rfl hc5 <| kn 23 10 16 rfl hc5 <| dS 24 (fun γ ρ B hb hd => op_pickT lb (tl hd 10 16) hc5 .cB) ?_
      exact DSteps.nil)
       (by decide +kernel) (fun _ => rfl) (fun _ => rfl) (fun _ => rfl) rfl
       (ρ' := fun γ => [(1, ov (PTR gb_2 0)), (29, ov (S rB true))])
       (X' := fun γ => [cvar gb_2 r_api_Event t_1])
       (fun γ ρ hb hd => (.cons (hb 1 _ rfl) (.cons (hdq hd 23 29 rfl) .nil))) (fun _ => rfl) (fun γ => ?_)
   refine JQ.at ⟨[(1, ov (PTR gb_2 0)), (29, ov (S rB true))], [cvar gb_2 r_api_Event t_1], []⟩ ?_
   try obtain rfl := so hx1
   exact JQ.join () (Imp.norm (js := [0]) rfl (.cons rfl (.cons rfl .nil)))
 obtain ⟨v_7, hv_7, hx1⟩ := lt1_inv hx1
 obtain ⟨i_8, hv_i_8, hx1⟩ := bnd_inv hx1
 obtain ⟨v_9, hv_9, hx1⟩ := lt1_inv hx1
 obtain ⟨v_10, hv_10, hx1⟩ := lt1_inv hx1
 obtain ⟨v_11, hv_11, hx1⟩ := lt1_inv hx1
 refine JC.anyF (base := [(1, ov (PTR gb_2 0))])
     (fs := fun γ => [⟨some 6, ov (PTR gb_2 (0 + 0))⟩, ⟨some 7, ov (A r_api_Dot t_1.ID)⟩, ⟨some 8, ov (S rB v_3)⟩, ⟨some 9, ov (S rB v_4)⟩, ⟨some 10, ov (S rB v_4)⟩, ⟨some 11, ov (PTR gb_2 (0 + 4))⟩, ⟨some 12, ov (A (rV 16 (rU UInt64)) t_1.Past)⟩, ⟨some 13, ov (S rB v_5)⟩, ⟨some 14, ov (S rB v_6)⟩, ⟨some 15, ov (S rB v_6)⟩, ⟨some 16, ov (S rB v_6)⟩, ⟨some 17, ov (PTR gb_2 (0 + 0))⟩, ⟨some 18, ov (PTR gb_2 ((0 + 0) + 0))⟩, ⟨some 19, ov (S (rI .i64) t_1.ID.Region)⟩, ⟨some 20, ov (S (rI .i64) v_7)⟩, ⟨some 21, ov (PTR gb_2 (0 + 4))⟩, ⟨some 22, ov (PTR gb_2 ((0 + 4) + i_8.1 * 1))⟩, ⟨some 23, ov (S (rU UInt64) v_9)⟩, ⟨some 24, ov (PTR gb_2 (0 + 0))⟩, ⟨some 25, ov (PTR gb_2 ((0 + 0) + 1))⟩, ⟨some 26, ov (S (rU UInt64) t_1.ID.Count)⟩, ⟨some 27, ov (S (rU UInt64) v_10)⟩, ⟨some 28, ov (S rB v_11)⟩, ⟨some 29, ov (S rB v_11)⟩])
     (rs := fun γ => [⟨cvar gb_2 r_api_Event t_1, none, none, [1, 6, 13, 17, 20]⟩])
     (afts := nn 24) (js := [0]) mixed (.cons rfl .nil) (fun _ => rfl)
     (by
      refine dS 1 (fun γ ρ B hb hd => op_fieldAddr (off := 0) lb tf32_0 (.tmp (hb 1 _ rfl))) <| dR 2 (fun γ ρ B hb hd => OpStep.lk ⟨ρ, (cvar gb_2 r_api_Event t_1) :: B, _⟩ (op_loadA (j := 0) lb tA26 (tl hd 0 6) rfl (cT (comp_api_Event_ID t_1) rfl) rfl)) <| dS 3 (fun γ ρ B hb hd => (op_call (js := []) ld cl82 (sim_event_MayDot k t_1.ID v_3 hv_3) .func (.cons (tl hd 1 7) .nil) rfl).post (fun _ => Imp.refl)) <| dS 4 (fun γ ρ B hb hd => op_not lb (tl hd 2 8) hv_4) <| dm 5 3 9 ?_
      refine dY 6 (fun γ ρ B hb hd => ⟨.yes rfl (ltB rfl) (hl hd 4 10 rfl) hc3, lkB (op_fieldAddr (off := 4) lb tf32_3 (.tmp (hb 1 _ rfl)))⟩) <| dY 7 (fun γ ρ B hb hd => ⟨.yes rfl (ltB rfl) (hl hd 4 10 rfl) hc3, OpStep.lk ⟨ρ, (cvar gb_2 r_api_Event t_1) :: B, _⟩ (op_loadA (j := 0) lb tA29 (tl hd 5 11) rfl (cT (comp_api_Event_Past t_1) rfl) rfl)⟩) <| dY 8 (fun γ ρ B hb hd => ⟨.yes rfl (ltB rfl) (hl hd 4 10 rfl) hc3, lkB ((op_call (js := []) ld cl83 (sim_event_mayVector k t_1.Past v_5 hv_5) .func (.cons (tl hd 6 12) .nil) rfl).post (fun _ => Imp.refl))⟩) <| dY 9 (fun γ ρ B hb hd => ⟨.yes rfl (ltB rfl) (hl hd 4 10 rfl) hc3, lkB (op_not lb (tl hd 7 13) hv_6)⟩) <| dS 10 (fun γ ρ B hb hd => op_pickF lb (tl hd 4 10) hc3 (tl hd 8 14)) ?_
      refine dm 11 9 15 <| dY 12 (fun γ ρ B hb hd => ⟨.yes rfl (ltB rfl) (hl hd 10 16 rfl) hc5, lkB (op_fieldAddr (off := 0) lb tf32_0 (.tmp (hb 1 _ rfl)))⟩) <| dY 13 (fun γ ρ B hb hd => ⟨.yes rfl (ltB rfl) (hl hd 10 16 rfl) hc5, lkB (op_fieldAddr (off := 0) lb tf26_0 (tl hd 11 17))⟩) <| dY 14 (fun γ ρ B hb hd => ⟨.yes rfl (ltB rfl) (hl hd 10 16 rfl) hc5, OpStep.lk ⟨ρ, (cvar gb_2 r_api_Event t_1) :: B, _⟩ (op_loadS (j := 0) lb tS3 (tl hd 12 18) rfl (Comp.trans (cT (comp_api_Event_ID t_1) rfl) (comp_api_Dot_Region t_1.ID) (lE rfl)) rfl rfl)⟩) <| dY 15 (fun γ ρ B hb hd => ⟨.yes rfl (ltB rfl) (hl hd 10 16 rfl) hc5, lkB (op_arI lb (tl hd 13 19) .cI (cs hv_7))⟩) ?_
      refine dY 16 (fun γ ρ B hb hd => ⟨.yes rfl (ltB rfl) (hl hd 10 16 rfl) hc5, lkB (op_fieldAddr (off := 4) lb tf32_3 (.tmp (hb 1 _ rfl)))⟩) <| dY 17 (fun γ ρ B hb hd => ⟨.yes rfl (ltB rfl) (hl hd 10 16 rfl) hc5, lkB (op_indexAddrIF lb tr29 (tl hd 15 21) (tl hd 14 20) hv_i_8)⟩) <| dY 18 (fun γ ρ B hb hd => ⟨.yes rfl (ltB rfl) (hl hd 10 16 rfl) hc5, OpStep.lk ⟨ρ, (cvar gb_2 r_api_Event t_1) :: B, _⟩ (op_loadS (j := 0) lb tS24 (tl hd 16 22) rfl (Comp.at (cT (comp_api_Event_Past t_1) rfl) i_8.2 rfl) rfl hv_9)⟩) <| dY 19 (fun γ ρ B hb hd => ⟨.yes rfl (ltB rfl) (hl hd 10 16 rfl) hc5, lkB (op_fieldAddr (off := 0) lb tf32_0 (.tmp (hb 1 _ rfl)))⟩) <| dY 20 (fun γ ρ B hb hd => ⟨.yes rfl (ltB rfl) (hl hd 10 16 rfl) hc5, lkB (op_fieldAddr (off := 1) lb tf26_1 (tl hd 18 24))⟩) ?_
      refine dY 21 (fun γ ρ B hb hd => ⟨.yes rfl (ltB rfl) (hl hd 10 16 rfl) hc5, OpStep.lk ⟨ρ, (cvar gb_2 r_api_Event t_1) :: B, _⟩ (op_loadS (j := 0) lb tS24 (tl hd 19 25) rfl (Comp.trans (cT (comp_api_Event_ID t_1) rfl) (comp_api_Dot_Count t_1.ID) (lE rfl)) rfl rfl)⟩) <| dY 22 (fun γ ρ B hb hd => ⟨.yes rfl (ltB rfl) (hl hd 10 16 rfl) hc5, lkB (op_arU lb (tl hd 20 26) (HasO.cU (x := (1 : UInt64)) rfl (by decide)) (cs hv_10))⟩) <| dY 23 (fun γ ρ B hb hd => ⟨.yes rfl (ltB rfl) (hl hd 10 16 rfl) hc5, lkB (op_cmpU lb (tl hd 17 23) (tl hd 21 27) (cs hv_11))⟩) <| dS 24 (fun γ ρ B hb hd => op_pickF lb (tl hd 10 16) hc5 (tl hd 22 28)) ?_
      exact DSteps.nil)
     (by decide +kernel) (fun _ => rfl) (fun _ => rfl) (fun _ => rfl) rfl
     (ρ' := fun γ => [(1, ov (PTR gb_2 0)), (29, ov (S rB v_11))])
     (X' := fun γ => [cvar gb_2 r_api_Event t_1])
     (fun γ ρ hb hd => (.cons (hb 1 _ rfl) (.cons (hdq hd 23 29 rfl) .nil))) (fun _ => rfl) (fun γ => ?_)
 refine JQ.at ⟨[(1, ov (PTR gb_2 0)), (29, ov (S rB v_11))], [cvar gb_2 r_api_Event t_1], []⟩ ?_
 try obtain rfl := so hx1
 exact JQ.join () (Imp.norm (js := [0]) rfl (.cons rfl (.cons rfl .nil)))

theorem sim_frame_May_2 (k : Nat) (n_1 : UInt64) (r : Bool) (hm : frame_May_2 k n_1 = some r) : Sim Tryz.prog 33 [S (rU UInt64) n_1] [] (γ := Unit) (fun q => []) (fun q => .one (.val (S rB r))) := by
 unfold frame_May_2 at hm
 refine Sim.of Tryz.func33 rfl rfl (lE rfl) (fun e0 w0 => ?_)
 refine JC.at ⟨[(0, ov (S (rU UInt64) n_1))], [], []⟩ ?_
 refine jr <| jc (op_assign lb .cB) <| jn <| jr <| jmv rfl rfl ?_
 obtain ⟨v_2, hv_2, hm⟩ := lt1_inv hm
 refine jc (op_cmpU lb (.tmp rfl) (HasO.cU (x := (4611686018427387904 : UInt64)) rfl (by decide)) (cs hv_2)) <| jc (op_assign lb (.tmp rfl)) <| jn ?_
 refine JC.ret ?_
 obtain rfl := so hm
 exact jd (.val (S rB v_2)) rfl rfl rfl rfl rfl rfl

theorem sim_slices_IndexFuncuint64_uint64'2 (k : Nat) (s_1 : (List UInt64)) (r : Int) (hm : slices_IndexFuncuint64_uint64'2 k s_1 = some r) : Sim Tryz.prog 85 [S (rL (rU UInt64)) s_1, CLO 33 []] [] (γ := Unit) (fun q => []) (fun q => .one (.val (S (rI .i64) r))) := by
 unfold slices_IndexFuncuint64_uint64'2 at hm
 refine Sim.of Tryz.func85 rfl rfl (lE rfl) (fun e0 w0 => ?_)
 refine JC.at ⟨[(0, ov (S (rL (rU UInt64)) s_1)), (1, ov (CLO 33 []))], [], []⟩ ?_
 refine jr <| jc (op_assign lb .cI) <| jn ?_
 obtain ⟨tv1, hx1, hq1⟩ := bnd_inv hm
 refine JC.seqK (α := Unit) (γ := Unit) (stj := fun v q => ⟨[], [], []⟩) (p := fun v => tv1 = (.inl v)) (fun v q hv => ?_) ?_
 · subst hv
   skip
   obtain _ := q
   dsimp only at hq1
   refine JC.at ⟨[], [], []⟩ ?_
   refine jr <| jc (op_assign lb .cI) <| jn ?_
   refine JC.ret ?_
   obtain rfl := so hq1
   exact jd (.val (S (rI .i64) (-1 : Int))) rfl rfl rfl rfl rfl rfl
 refine jr <| jmv rfl rfl <| jc (op_lenL lb tu71 (.tmp rfl)) <| jc (op_move lb .cI) <| jn ?_
 refine JC.block ?_
 obtain ⟨tv2, hL2, hq2⟩ := bnd_inv hx1
 refine JC.pre ?_ (JC.loop (γ := Unit) (stf := fun s q => ⟨[(0, ov (S (rL (rU UInt64)) s_1)), (1, ov (CLO 33 [])), (7, ov (S (rI .i64) (List.length s_1 : Int))), (8, ov (S (rI .i64) s))], [], []⟩) (q := ()) hL2 ?_)
 · exact (Imp.norm (js := []) rfl (.cons rfl (.cons rfl (.cons rfl (.cons rfl .nil)))))
 intro x_2 q x hx hr
 obtain _ := q
 change slices_IndexFuncuint64_uint64'2.b1 k s_1 x_2 = some x at hx
 unfold slices_IndexFuncuint64_uint64'2.b1 at hx
 refine JC.at ⟨[(0, ov (S (rL (rU UInt64)) s_1)), (1, ov (CLO 33 [])), (7, ov (S (rI .i64) (List.length s_1 : Int))), (8, ov (S (rI .i64) x_2))], [], []⟩ ?_
 refine jr ?_
 obtain ⟨v_3, hv_3, hx⟩ := lt1_inv hx
 refine jc (op_cmpI lb (.tmp rfl) (.tmp rfl) (cs hv_3)) <| jn <| JC.seq ?_
 rcases iteB_inv hx with ⟨hc3, hx⟩ | ⟨hc3, hx⟩
 · refine JC.condT (.tmp rfl) hc3 ?_
   refine JC.skip ?_
   refine JQ.then <| JC.seq <| JC.block <| jr <| jmv rfl rfl ?_
   refine jc (op_assign lb (.tmp rfl)) <| jn <| jr <| jmv rfl rfl <| jmv rfl rfl ?_
   refine jmv rfl rfl ?_
   obtain ⟨v_4, hv_4, hx⟩ := bnd_inv hx
   refine jc (op_indexAddrLg lb tu71 tz24 (.tmp rfl) (.tmp rfl) hv_4) <| jc (op_loadPSg lb tS24 rfl (.tmp rfl) rfl) ?_
   obtain ⟨v_5, hv_5, hx⟩ := bnd_inv hx
   refine jx (op_call (js := []) ld cl33 (sim_frame_May_2 k v_4 v_5 hv_5) (.tmp rfl) (.cons (.tmp rfl) .nil) rfl) (fun _ => ?_)
   refine jn ?_
   rcases iteB_inv hx with ⟨hc4, hx⟩ | ⟨hc4, hx⟩
   · refine JC.condT (.tmp rfl) hc4 ?_
     refine jr <| jmv rfl rfl <| jc (op_assign lb (.tmp rfl)) <| jn ?_
     refine JC.ret ?_
     refine JQ.outRB ?_
     refine JQ.outR ?_
     try obtain rfl := so hx
     have ht := hr _ rfl
     clear hr
     first | subst ht | clear ht
     dsimp only at hq2
     refine JQ.outR ?_
     refine JQ.outRB ?_
     try obtain rfl := so hq2
     dsimp only at hq1
     refine JQ.outR ?_
     obtain rfl := so hq1
     exact jd (.val (S (rI .i64) x_2)) rfl rfl rfl rfl rfl rfl
   refine JC.condF (.tmp rfl) hc4 ?_
   refine JC.skip ?_
   refine JQ.outNB ?_
   refine JQ.then <| JC.region ?_
   obtain ⟨v_6, hv_6, hx⟩ := lt1_inv hx
   refine jc (op_arI lb (.tmp rfl) .cI (cs hv_6)) <| jmv rfl rfl <| JL.nil ?_
   try obtain rfl := so hx
   exact JQ.next () rfl (Imp.norm (js := []) rfl (.cons rfl (.cons rfl (.cons rfl (.cons rfl .nil)))))
 refine JC.condF (.tmp rfl) hc3 ?_
 refine JC.exit ?_
 refine JQ.outX ?_
 try obtain rfl := so hx
 have ht := hr _ rfl
 clear hr
 first | subst ht | clear ht
 dsimp only at hq2
 refine JQ.outX ?_
 refine JQ.here ?_
 try obtain rfl := so hq2
 exact JQ.joinK () () rfl (Imp.norm (js := []) rfl .nil)

theorem sim_slices_ContainsFuncuint64_uint64'2 (k : Nat) (s_1 : (List UInt64)) (r : Bool) (hm : slices_ContainsFuncuint64_uint64'2 k s_1 = some r) : Sim Tryz.prog 32 [S (rL (rU UInt64)) s_1, CLO 33 []] [] (γ := Unit) (fun q => []) (fun q => .one (.val (S rB r))) := by
 unfold slices_ContainsFuncuint64_uint64'2 at hm
 refine Sim.of Tryz.func32 rfl rfl (lE rfl) (fun e0 w0 => ?_)
 refine JC.at ⟨[(0, ov (S (rL (rU UInt64)) s_1)), (1, ov (CLO 33 []))], [], []⟩ ?_
 refine jr <| jc (op_assign lb .cB) <| jn <| jr <| jmv rfl rfl ?_
 refine jmv rfl rfl ?_
 obtain ⟨v_2, hv_2, hm⟩ := bnd_inv hm
 refine jx (op_call (js := []) ld cl85 (sim_slices_IndexFuncuint64_uint64'2 k s_1 v_2 hv_2) .func (.cons (.tmp rfl) (.cons (.tmp rfl) .nil)) rfl) (fun _ => ?_)
 obtain ⟨v_3, hv_3, hm⟩ := lt1_inv hm
 refine jc (op_cmpI lb (.tmp rfl) .cI (cs hv_3)) <| jc (op_assign lb (.tmp rfl)) <| jn ?_
 refine JC.ret ?_
 obtain rfl := so hm
 exact jd (.val (S rB v_3)) rfl rfl rfl rfl rfl rfl

theorem sim_frame_May_1 (k : Nat) (i_1 : Int) (less_2 : Bool) (r : Bool) (hm : frame_May_1 k i_1 less_2 = some r) : Sim Tryz.prog 29 [S (rI .i64) i_1, S rB less_2] [] (γ := Unit) (fun q => []) (fun q => .one (.val (S rB r))) := by
 unfold frame_May_1 at hm
 refine Sim.of Tryz.func29 rfl rfl (lE rfl) (fun e0 w0 => ?_)
 refine JC.at ⟨[(0, ov (S (rI .i64) i_1)), (1, ov (S rB less_2))], [], []⟩ ?_
 refine jr <| jc (op_assign lb .cB) <| jn ?_
 obtain ⟨x_5, hx1, hq1⟩ := bnd_inv hm
 refine JC.seqJ (γ := Unit) (stj := fun _ => ⟨[(4, ov (S rB x_5))], [], []⟩) (fun _ => ?_) ?_
 · refine JC.ret ?_
   obtain rfl := so hq1
   exact jd (.val (S rB x_5)) rfl rfl rfl rfl rfl rfl
 refine JC.region <| jmv rfl rfl ?_
 obtain ⟨v_3, hv_3, hx1⟩ := lt1_inv hx1
 refine jc (op_cmpI lb (.tmp rfl) .cI (cs hv_3)) <| jmv rfl rfl ?_
 refine JL.cnd (sv := ov (S rB less_2)) (Guard.isF (ltB rfl) rfl rfl) rfl (ltB rfl) (fun hq_2 => op_move lb (.tmp rfl)) ?_
 obtain ⟨v_4, hv_4, hx1⟩ := lt1_inv hx1
 refine jc (op_pickCS lb (.tmp rfl) (fun hb3 => .cB) (fun hb3 => (HasO.cnd (.tmp rfl) (notT hb3))) hv_4) <| jc (op_assign lb (.tmp rfl)) <| JL.nil ?_
 try obtain rfl := so hx1
 exact jo rfl rfl rfl

theorem sim_ctx_order (k : Nat) (a_1 : api_Dot) (b_2 : api_Dot) (r : Int) (hm : ctx_order k a_1 b_2 = some r) : Sim Tryz.prog 86 [A r_api_Dot a_1, A r_api_Dot b_2] [] (γ := Unit) (fun q => []) (fun q => .one (.val (S (rI .i64) r))) := by
 unfold ctx_order at hm
 refine Sim.of Tryz.func86 rfl rfl (lE rfl) (fun e0 w0 => ?_)
 refine JC.at ⟨[(0, ov (A r_api_Dot a_1)), (1, ov (A r_api_Dot b_2))], [], []⟩ ?_
 refine jr ?_
 refine jx (op_boxA lb (.tmp rfl)) (fun gb_3 => ?_)
 refine jx (op_boxA lb (.tmp rfl)) (fun gb_4 => ?_)
 refine jc (op_assign lb .cI) <| jn <| JC.seq ?_
 obtain ⟨v_5, hv_5, hm⟩ := bnd_inv hm
 obtain ⟨v_6, hv_6, hm⟩ := bnd_inv hm
 obtain ⟨v_7, hv_7, hm⟩ := bnd_inv hm
 refine JC.anyF (base := [(2, ov (PTR gb_3 0)), (3, ov (PTR gb_4 0))])
     (fs := fun γ => [⟨some 5, ov (PTR gb_3 (0 + 0))⟩, ⟨some 6, ov (S (rI .i64) a_1.Region)⟩, ⟨some 7, ov (PTR gb_4 (0 + 0))⟩, ⟨some 8, ov (S (rI .i64) b_2.Region)⟩, ⟨some 9, ov (S (rI .i64) v_5)⟩, ⟨some 10, ov (PTR gb_3 (0 + 1))⟩, ⟨some 11, ov (S (rU UInt64) a_1.Count)⟩, ⟨some 12, ov (PTR gb_4 (0 + 1))⟩, ⟨some 13, ov (S (rU UInt64) b_2.Count)⟩, ⟨some 14, ov (S (rI .i64) v_6)⟩, ⟨some 15, ov (S (rL (rI .i64)) ([v_5, v_6] : (List Int)))⟩, ⟨some 16, ov (S (rI .i64) v_7)⟩, ⟨some 4, ov (S (rI .i64) v_7)⟩])
     (rs := fun γ => [⟨cvar gb_3 r_api_Dot a_1, none, none, [1, 6]⟩, ⟨cvar gb_4 r_api_Dot b_2, none, none, [3, 8]⟩])
     (afts := nn 13) (js := [0, 0]) mixed (.cons rfl (.cons rfl .nil)) (fun _ => rfl)
     (by
      refine dS 1 (fun γ ρ B hb hd => op_fieldAddr (off := 0) lb tf26_0 (.tmp (hb 2 _ rfl))) <| dR 2 (fun γ ρ B hb hd => OpStep.lk ⟨ρ, (cvar gb_3 r_api_Dot a_1) :: B, _⟩ (op_loadS (j := 0) lb tS3 (tl hd 0 5) rfl (cT (comp_api_Dot_Region a_1) rfl) rfl rfl)) <| dS 3 (fun γ ρ B hb hd => op_fieldAddr (off := 0) lb tf26_0 (.tmp (hb 3 _ rfl))) <| dR 4 (fun γ ρ B hb hd => OpStep.lk ⟨ρ, (cvar gb_4 r_api_Dot b_2) :: B, _⟩ (op_loadS (j := 0) lb tS3 (tl hd 2 7) rfl (cT (comp_api_Dot_Region b_2) rfl) rfl rfl)) <| dS 5 (fun γ ρ B hb hd => (op_call (js := []) ld cl118 (sim_cmp_Compareint k a_1.Region b_2.Region v_5 hv_5) .func (.cons (tl hd 1 6) (.cons (tl hd 3 8) .nil)) rfl).post (fun _ => Imp.refl)) ?_
      refine dS 6 (fun γ ρ B hb hd => op_fieldAddr (off := 1) lb tf26_1 (.tmp (hb 2 _ rfl))) <| dR 7 (fun γ ρ B hb hd => OpStep.lk ⟨ρ, (cvar gb_3 r_api_Dot a_1) :: B, _⟩ (op_loadS (j := 0) lb tS24 (tl hd 5 10) rfl (cT (comp_api_Dot_Count a_1) rfl) rfl rfl)) <| dS 8 (fun γ ρ B hb hd => op_fieldAddr (off := 1) lb tf26_1 (.tmp (hb 3 _ rfl))) <| dR 9 (fun γ ρ B hb hd => OpStep.lk ⟨ρ, (cvar gb_4 r_api_Dot b_2) :: B, _⟩ (op_loadS (j := 0) lb tS24 (tl hd 7 12) rfl (cT (comp_api_Dot_Count b_2) rfl) rfl rfl)) <| dS 10 (fun γ ρ B hb hd => (op_call (js := []) ld cl119 (sim_cmp_Compareuint64 k a_1.Count b_2.Count v_6 hv_6) .func (.cons (tl hd 6 11) (.cons (tl hd 8 13) .nil)) rfl).post (fun _ => Imp.refl)) ?_
      refine dS 11 (fun γ ρ B hb hd => op_buildF (r := (rI .i64)) lb tu37 tz3 tZ3 rfl (lE rfl) (.S rfl (tl hd 4 9) (.S rfl (tl hd 9 14) .nil)) rfl) <| dS 12 (fun γ ρ B hb hd => (op_call (js := []) ld cl117 (sim_cmp_Orint k ([v_5, v_6] : (List Int)) v_7 hv_7) .func (.cons (tl hd 10 15) .nil) rfl).post (fun _ => Imp.refl)) <| dS 13 (fun γ ρ B hb hd => op_assign lb (tl hd 11 16)) ?_
      exact DSteps.nil)
     (by decide +kernel) (fun _ => rfl) (fun _ => rfl) (fun _ => rfl) rfl
     (ρ' := fun γ => [(4, ov (S (rI .i64) v_7))])
     (X' := fun γ => [cvar gb_3 r_api_Dot a_1, cvar gb_4 r_api_Dot b_2])
     (fun γ ρ hb hd => (.cons (hdq hd 12 4 rfl) .nil)) (fun _ => rfl) (fun γ => ?_)
 refine JQ.at ⟨[(4, ov (S (rI .i64) v_7))], [cvar gb_3 r_api_Dot a_1, cvar gb_4 r_api_Dot b_2], []⟩ ?_
 refine JQ.then ?_
 refine JC.ret ?_
 obtain rfl := so hm
 exact jd (.val (S (rI .i64) v_7)) rfl rfl rfl rfl rfl rfl

theorem sim_ctx_Less (k : Nat) (a_1 : api_Dot) (b_2 : api_Dot) (r : Bool) (hm : ctx_Less k a_1 b_2 = some r) : Sim Tryz.prog 35 [A r_api_Dot a_1, A r_api_Dot b_2] [] (γ := Unit) (fun q => []) (fun q => .one (.val (S rB r))) := by
 unfold ctx_Less at hm
 refine Sim.of Tryz.func35 rfl rfl (lE rfl) (fun e0 w0 => ?_)
 refine JC.at ⟨[(0, ov (A r_api_Dot a_1)), (1, ov (A r_api_Dot b_2))], [], []⟩ ?_
 refine jr ?_
 refine jx (op_boxA lb (.tmp rfl)) (fun gb_3 => ?_)
 refine jx (op_boxA lb (.tmp rfl)) (fun gb_4 => ?_)
 refine jc (op_assign lb .cB) <| jn <| jr <| jc (op_loadA (j := 0) lb tA26 (.tmp rfl) rfl (Comp.self r_api_Dot a_1) rfl) <| jc (op_loadA (j := 1) lb tA26 (.tmp rfl) rfl (Comp.self r_api_Dot b_2) rfl) ?_
 obtain ⟨v_5, hv_5, hm⟩ := bnd_inv hm
 refine jx (op_call (js := []) ld cl86 (sim_ctx_order k a_1 b_2 v_5 hv_5) .func (.cons (.tmp rfl) (.cons (.tmp rfl) .nil)) rfl) (fun _ => ?_)
 obtain ⟨v_6, hv_6, hm⟩ := lt1_inv hm
 refine jc (op_cmpI lb (.tmp rfl) .cI (cs hv_6)) <| jc (op_assign lb (.tmp rfl)) ?_
 refine JL.nrm ⟨[(4, ov (S rB v_6))], [], []⟩ [] rfl (.cons rfl .nil) rfl ?_
 refine jn ?_
 refine JC.ret ?_
 obtain rfl := so hm
 exact jd (.val (S rB v_6)) rfl rfl rfl rfl rfl rfl

theorem sim_slices_Cloneapi_Dot_api_Dot (k : Nat) (s_1 : (List api_Dot)) (r : (List api_Dot)) (hm : slices_Cloneapi_Dot_api_Dot k s_1 = some r) : Sim Tryz.prog 120 [S (rL r_api_Dot) s_1] [] (γ := Option Nat × Nat) (fun q => [cown q.1 r_api_Dot r 0 q.2]) (fun q => .one (.val (HDR q.1 0 (List.length r) q.2))) := by
 unfold slices_Cloneapi_Dot_api_Dot at hm
 refine Sim.of Tryz.func120 rfl rfl (lE rfl) (fun e0 w0 => ?_)
 refine JC.at ⟨[(0, ov (S (rL r_api_Dot) s_1))], [], []⟩ ?_
 refine jr <| jc (op_assign lb HasO.nilH) <| jn <| JC.seq <| jr ?_
 refine jmv rfl rfl ?_
 refine JL.consX rfl (op_isNil (neg := false) (ltB rfl) tu33 (.tmp rfl) HasO.nilH) (fun q => ?_)
 obtain ⟨hb1, hb1_⟩ := q
 cases hb1
 · refine jn ?_
   refine JC.condF (.tmp rfl) rfl ?_
   refine JC.skip ?_
   refine JQ.then <| jr ?_
   refine jx (op_buildO (r := r_api_Dot) lb tu33 tz26 tZ26 rfl (lE rfl) .nil rfl) (fun gb_2 => ?_)
   refine jmv rfl rfl ?_
   obtain ⟨x_3, hv_x_3, hm⟩ := bnd_inv hm
   refine jx (op_appendL (j := 0) lb tu33 tu33 rfl tB26 rfl (Nat.lt_of_lt_of_le Nat.zero_lt_one (lE rfl)) (Nat.lt_of_lt_of_le Nat.zero_lt_one (lE rfl))  rfl (.tmp rfl) (.tmp rfl) hv_x_3) (fun q => ?_)
   obtain ⟨go_4, gc_5⟩ := q
   refine jc (op_assign lb (.tmp rfl)) <| jn ?_
   refine JC.ret ?_
   obtain rfl := so hm
   exact JQ.done (js := [0]) (ss := [.val (HDR go_4 0 (List.length x_3) gc_5)]) (go_4, gc_5) (.inl rfl) (.nil rfl) rfl (.cons (.tmp rfl) .nil) rfl rfl rfl
 replace hm := nilK hm (show _ = (
       some ([] : (List api_Dot))
       ) by simp [hb1_ rfl, subL, apL])
 refine jn ?_
 refine JC.condT (.tmp rfl) rfl ?_
 refine jr <| jc (op_assign lb HasO.nilH) <| jn ?_
 refine JC.ret ?_
 refine JQ.outR ?_
 obtain rfl := so hm
 refine JQ.pre (Imp.nilown r_api_Dot) ?_
 exact JQ.done (js := [0]) (ss := [.val (HDR none 0 (List.length ([] : (List api_Dot))) (0))]) (none, 0) (.inl rfl) (.nil rfl) rfl (.cons (.tmp rfl) .nil) rfl rfl rfl

end Go.Proofs.YtklnihlchhhhlaaGreat
