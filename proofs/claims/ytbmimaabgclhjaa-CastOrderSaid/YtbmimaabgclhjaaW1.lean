/- Walks. -/
import Derived.Test.YtbmimaabgclhjaaT
import Derived.Test.YtbmimaabgclhjaaW0
namespace Go.Proofs.Ytbmimaabgclhjaa
open Go Fw
set_option linter.unusedVariables false
set_option maxRecDepth 100000
set_option maxHeartbeats 4000000

theorem sim_event_May (k : Nat) (t_1 : api_Event) (r : Bool) (hm : event_May k t_1 = some r) : Sim Try.prog 47 [A r_api_Event t_1] [] (γ := Unit) (fun q => []) (fun q => .one (.val (S rB r))) := by
 unfold event_May at hm
 refine Sim.of Try.func47 rfl rfl (lE rfl) (fun e0 w0 => ?_)
 refine JC.at ⟨[(0, ov (A r_api_Event t_1))], [], []⟩ <| jr <| jx (op_boxA lb tR) fun gb_2 => jc (op_assign lb .cB) <| jn <| JC.scope <| JC.seq <| bI hm fun x_13 hx1 hq1 => JC.seqJ (γ := Unit) (stj := fun _ => ⟨[(1, ov (PTR gb_2 0)), (29, ov (S rB x_13))], [cvar gb_2 r_api_Event t_1], []⟩) (fun _ => ?_) ?_
 · refine jif tR hq1 (fun hc14 hq1 => ?_) (fun hc14 hq1 => ?_)
   · refine jr <| jc (op_assign lb .cB) <| jn <| JC.ret <| JQ.outR <| JQ.scR ?_
     obtain rfl := so hq1
     exact jd (.val (S rB false)) rfl rfl rfl rfl rfl rfl
   refine JC.skip <| JQ.then <| JC.seq <| bI hq1 fun x_20 hx15 hq15 => JC.seqJ (γ := Unit) (stj := fun _ => ⟨[(1, ov (PTR gb_2 0)), (45, ov (S rB x_20))], [cvar gb_2 r_api_Event t_1], []⟩) (fun _ => ?_) ?_
   · refine jif tR hq15 (fun hc26 hq15 => ?_) (fun hc26 hq15 => ?_)
     · refine jr <| jc (op_assign lb .cB) <| jn <| JC.ret <| JQ.outR <| JQ.scR ?_
       obtain rfl := so hq15
       exact jd (.val (S rB false)) rfl rfl rfl rfl rfl rfl
     refine JC.skip <| JQ.then <| jr <| jc (op_assign lb .cB) <| jn <| JC.seq <| JC.label <| JQ.then <| bI hq15 fun x_38 hx27 hq27 => JC.seqJ (γ := Unit) (stj := fun _ => ⟨[(3, ov (S rB x_38))], [], []⟩) (fun _ => ?_) ?_
     · refine jr <| jmv rfl rfl <| jc (op_assign lb tR) <| jn <| JC.ret <| JQ.scR ?_
       obtain rfl := so hq27
       exact jd (.val (S rB x_38)) rfl rfl rfl rfl rfl rfl
     refine jr <| jc (op_fieldAddr (off := 20) lb tf37_4 tR) <| jc (op_loadS (j := 0) lb tS35 tR rfl (cT (comp_api_Event_To t_1) rfl) rfl rfl) <| jc (op_lenL lb tu35 tR) <| jc (op_move lb .cI) <| jn <| JC.block <| JC.pre ?_ (JC.loop (γ := Unit) (stf := fun s q => ⟨[(1, ov (PTR gb_2 0)), (3, ov (S rB s.1)), (47, ov (S (rL r_api_Dest) t_1.To)), (48, ov (S (rI .i64) (List.length t_1.To : Int))), (49, ov (S (rI .i64) s.2))], [cvar gb_2 r_api_Event t_1], []⟩) (q := ()) hx27 ?_)
     · exact (Imp.norm (js := [0]) rfl (.cons rfl (.cons rfl (.cons rfl (.cons rfl (.cons rfl .nil))))))
     intro s q x hx hr
     obtain ⟨x_21, x_22⟩ := s
     obtain _ := q
     change event_May.b1 k t_1 x_21 x_22 = some x at hx
     unfold event_May.b1 at hx
     refine JC.at ⟨[(1, ov (PTR gb_2 0)), (3, ov (S rB x_21)), (47, ov (S (rL r_api_Dest) t_1.To)), (48, ov (S (rI .i64) (List.length t_1.To : Int))), (49, ov (S (rI .i64) x_22))], [cvar gb_2 r_api_Event t_1], []⟩ <| jr <| lI hx fun v_23 hv_23 hx => jc (op_cmpI lb tR tR (cs hv_23)) <| jn <| JC.seq <| jif tR hx (fun hc29 hx => ?_) (fun hc29 hx => ?_)
     · refine JC.skip <| JQ.then <| JC.seq <| JC.block <| jr <| jmv rfl rfl <| bI hx fun v_24 hv_24 hx => jc (op_indexAddrLg lb tu35 tz91 tR tR hv_24) <| jc (op_loadPAg lb tA91 tR rfl) <| jx (op_alloc lb tZ91 zr91) fun gb_25 => jc (op_assign lb tR) <| jc (op_storeA (j := 1) tA91 tR tR rfl (UpdR.self (by rfl)) rfl) <| jn <| bI hx fun x_35 hx30 hq30 => JC.seqJ (γ := Unit) (stj := fun _ => ⟨[(1, ov (PTR gb_2 0)), (3, ov (S rB x_35)), (47, ov (S (rL r_api_Dest) t_1.To)), (48, ov (S (rI .i64) (List.length t_1.To : Int))), (49, ov (S (rI .i64) x_22))], [cvar gb_2 r_api_Event t_1], []⟩) (fun _ => ?_) ?_
       · refine jr <| jmv rfl rfl <| lI hq30 fun v_36 hv_36 hq30 => jc (op_not lb tR hv_36) <| jn <| jif tR hq30 (fun hc51 hq30 => ?_) (fun hc51 hq30 => ?_)
         · refine JC.exit <| JQ.outE (by decide) <| JQ.outX ?_
           try obtain rfl := so hq30
           have ht := hr _ rfl
           have hq28 := cs ht
           clear hr ht
           refine JQ.outX <| JQ.here ?_
           try obtain rfl := so hq28
           exact jo rfl rfl rfl
         refine JC.skip <| JQ.outNB <| JQ.then <| JC.region <| lI hq30 fun v_37 hv_37 hq30 => jc (op_arI lb tR .cI (cs hv_37)) <| jmv rfl rfl <| JL.nil ?_
         try obtain rfl := so hq30
         exact JQ.next () rfl (Imp.norm (js := [0]) rfl (.cons rfl (.cons rfl (.cons rfl (.cons rfl (.cons rfl .nil))))))
       refine bI hx30 fun v_26 hv_26 hx30 => bI hx30 fun v_27 hv_27 hx30 => lI hx30 fun v_28 hv_28 hx30 => lI hx30 fun v_29 hv_29 hx30 => lI hx30 fun v_30 hv_30 hx30 => bI hx30 fun v_31 hv_31 hx30 => bI hx30 fun v_32 hv_32 hx30 => lI hx30 fun v_33 hv_33 hx30 => ?_
       obtain ⟨v_34, hv_34, hx30⟩ := lt1_inv hx30
       refine JC.anyF (base := [(1, ov (PTR gb_2 0)), (4, ov (S (rI .i64) x_22)), (5, ov (PTR gb_25 0)), (47, ov (S (rL r_api_Dest) t_1.To)), (48, ov (S (rI .i64) (List.length t_1.To : Int))), (49, ov (S (rI .i64) x_22))])
           (fs := fun γ => [⟨some 54, ov (PTR gb_25 (0 + 0))⟩, ⟨some 55, ov (A r_api_Dot v_24.Dot)⟩, ⟨some 56, ov (S rB v_26)⟩, ⟨some 57, ov (S rB v_26)⟩, ⟨some 58, bif v_26 then ov (PTR gb_25 (0 + 2)) else .one .und⟩, ⟨some 59, bif v_26 then ov (S rS v_24.Device) else .one .und⟩, ⟨some 60, bif v_26 then ov (S rB v_27) else .one .und⟩, ⟨some 61, ov (S rB v_28)⟩, ⟨some 62, ov (S rB v_28)⟩, ⟨some 63, bif v_28 then ov (S (rI .i64) x_22) else .one .und⟩, ⟨some 64, bif v_28 then ov (S rB v_29) else .one .und⟩, ⟨some 65, bif v_28 then ov (S rB v_29) else .one .und⟩, ⟨some 66, bif (v_28 && (!v_29)) then ov (PTR gb_2 (0 + 20)) else .one .und⟩, ⟨some 67, bif (v_28 && (!v_29)) then ov (S (rL r_api_Dest) t_1.To) else .one .und⟩, ⟨some 68, bif (v_28 && (!v_29)) then ov (S (rI .i64) x_22) else .one .und⟩, ⟨some 69, bif (v_28 && (!v_29)) then ov (S (rI .i64) v_30) else .one .und⟩, ⟨some 70, bif (v_28 && (!v_29)) then ov (PT r_api_Dest v_31) else .one .und⟩, ⟨some 71, bif (v_28 && (!v_29)) then ov (PT r_api_Dot v_31.Dot) else .one .und⟩, ⟨some 72, bif (v_28 && (!v_29)) then ov (A r_api_Dot v_31.Dot) else .one .und⟩, ⟨some 73, bif (v_28 && (!v_29)) then ov (PTR gb_25 (0 + 0)) else .one .und⟩, ⟨some 74, bif (v_28 && (!v_29)) then ov (A r_api_Dot v_24.Dot) else .one .und⟩, ⟨some 75, bif (v_28 && (!v_29)) then ov (S rB v_32) else .one .und⟩, ⟨some 76, bif v_28 then ov (S rB v_33) else .one .und⟩, ⟨some 77, ov (S rB v_34)⟩, ⟨some 3, ov (S rB v_34)⟩])
           (rs := fun γ => [⟨cvar gb_2 r_api_Event t_1, none, none, [13]⟩, ⟨cvar gb_25 r_api_Dest v_24, none, none, [1, 5, 20]⟩])
           (afts := nn 25) (js := [0, 0]) mixed (.cons rfl (.cons rfl (.cons rfl (.cons rfl (.cons rfl (.cons rfl .nil)))))) (fun _ => rfl)
           (by
      refine dS 1 (fun γ ρ B hb hd => op_fieldAddr (off := 0) lb tf91_0 (.tmp (hb 5 _ rfl))) <| dR 2 (fun γ ρ B hb hd => OpStep.lk ⟨ρ, (cvar gb_25 r_api_Dest v_24) :: B, _⟩ (op_loadA (j := 0) lb tA31 (tl hd 0 54) rfl (cT (comp_api_Dest_Dot v_24) rfl) rfl)) <| dS 3 (fun γ ρ B hb hd => (op_call (js := []) ld cl57 (sim_event_MayDot k v_24.Dot v_26 hv_26) .func (.cons (tl hd 1 55) .nil) rfl).post (fun _ => Imp.refl)) <| dm 4 2 56 ?_
      refine dT 5 3 57 v_26 (fun γ => ov (PTR gb_25 (0 + 2))) (fun γ ρ B hb hd hq_31 => op_fieldAddr (off := 2) lb tf91_1 (.tmp (hb 5 _ rfl))) ?_
      refine eT 6 3 57 v_26 (fun γ => ov (S rS v_24.Device)) (fun γ ρ B hb hd hq_32 => OpStep.lk ⟨ρ, (cvar gb_25 r_api_Dest v_24) :: B, _⟩ (op_loadS (j := 0) lb tS9 (HasO.cnd (tl hd 4 58) hq_32) rfl (cT (comp_api_Dest_Device v_24) rfl) rfl rfl)) ?_
      refine dT 7 3 57 v_26 (fun γ => ov (S rB v_27)) (fun γ ρ B hb hd hq_33 => (op_call (js := []) ld cl59 (sim_event_MayName k v_24.Device v_27 (ifT hv_27 hq_33)) .func (.cons (HasO.cnd (tl hd 5 59) hq_33) .nil) rfl).post (fun _ => Imp.refl)) ?_
      refine dS 8 (fun γ ρ B hb hd => op_pickCS lb (tl hd 3 57) (fun hb34 => (HasO.cnd (tl hd 6 60) hb34)) (fun hb34 => .cB) hv_28) <| dm 9 7 61 ?_
      refine dT 10 8 62 v_28 (fun γ => ov (S (rI .i64) x_22)) (fun γ ρ B hb hd hq_35 => op_move lb (.tmp (hb 4 _ rfl))) ?_
      refine dT 11 8 62 v_28 (fun γ => ov (S rB v_29)) (fun γ ρ B hb hd hq_36 => op_cmpI lb (HasO.cnd (tl hd 9 63) hq_36) .cI (cs hv_29)) ?_
      refine dT 12 8 62 v_28 (fun γ => ov (S rB v_29)) (fun γ ρ B hb hd hq_37 => op_move lb (HasO.cnd (tl hd 10 64) hq_37)) ?_
      refine dB 13 11 65 v_28 v_29 (fun γ => ov (PTR gb_2 (0 + 20))) (fun γ ρ B hb hd hq_38 => op_fieldAddr (off := 20) lb tf37_4 (.tmp (hb 1 _ rfl))) ?_
      refine eB 14 11 65 v_28 v_29 (fun γ => ov (S (rL r_api_Dest) t_1.To)) (fun γ ρ B hb hd hq_39 => OpStep.lk ⟨ρ, (cvar gb_2 r_api_Event t_1) :: B, _⟩ (op_loadS (j := 0) lb tS35 (HasO.cnd (tl hd 12 66) (andI (andL hq_39) (notT (notF (andR hq_39))))) rfl (cT (comp_api_Event_To t_1) rfl) rfl rfl)) ?_
      refine dB 15 11 65 v_28 v_29 (fun γ => ov (S (rI .i64) x_22)) (fun γ ρ B hb hd hq_40 => op_move lb (.tmp (hb 4 _ rfl))) ?_
      refine dB 16 11 65 v_28 v_29 (fun γ => ov (S (rI .i64) v_30)) (fun γ ρ B hb hd hq_41 => op_arI lb (HasO.cnd (tl hd 14 68) (andI (andL hq_41) (notT (notF (andR hq_41))))) .cI (cs hv_30)) ?_
      refine dB 17 11 65 v_28 v_29 (fun γ => ov (PT r_api_Dest v_31)) (fun γ ρ B hb hd hq_42 => op_indexAddrLg lb tu35 tz91 (HasO.cnd (tl hd 13 67) (andI (andL hq_42) (notT (notF (andR hq_42))))) (HasO.cnd (tl hd 15 69) (andI (andL hq_42) (notT (notF (andR hq_42))))) (ifT hv_31 hq_42)) ?_
      refine dB 18 11 65 v_28 v_29 (fun γ => ov (PT r_api_Dot v_31.Dot)) (fun γ ρ B hb hd hq_43 => op_fieldAddrP lb tf91_0 (HasO.cnd (tl hd 16 70) (andI (andL hq_43) (notT (notF (andR hq_43))))) (comp_api_Dest_Dot v_31)) ?_
      refine dB 19 11 65 v_28 v_29 (fun γ => ov (A r_api_Dot v_31.Dot)) (fun γ ρ B hb hd hq_44 => op_loadPAg lb tA31 (HasO.cnd (tl hd 17 71) (andI (andL hq_44) (notT (notF (andR hq_44))))) rfl) ?_
      refine dB 20 11 65 v_28 v_29 (fun γ => ov (PTR gb_25 (0 + 0))) (fun γ ρ B hb hd hq_45 => op_fieldAddr (off := 0) lb tf91_0 (.tmp (hb 5 _ rfl))) ?_
      refine eB 21 11 65 v_28 v_29 (fun γ => ov (A r_api_Dot v_24.Dot)) (fun γ ρ B hb hd hq_46 => OpStep.lk ⟨ρ, (cvar gb_25 r_api_Dest v_24) :: B, _⟩ (op_loadA (j := 0) lb tA31 (HasO.cnd (tl hd 19 73) (andI (andL hq_46) (notT (notF (andR hq_46))))) rfl (cT (comp_api_Dest_Dot v_24) rfl) rfl)) ?_
      refine dB 22 11 65 v_28 v_29 (fun γ => ov (S rB v_32)) (fun γ ρ B hb hd hq_47 => (op_call (js := []) ld cl60 (sim_event_Less k v_31.Dot v_24.Dot v_32 (ifT hv_32 hq_47)) .func (.cons (HasO.cnd (tl hd 18 72) (andI (andL hq_47) (notT (notF (andR hq_47))))) (.cons (HasO.cnd (tl hd 20 74) (andI (andL hq_47) (notT (notF (andR hq_47))))) .nil)) rfl).post (fun _ => Imp.refl)) ?_
      refine dT 23 8 62 v_28 (fun γ => ov (S rB v_33)) (fun γ ρ B hb hd hq_48 => op_pickCS lb (HasO.cnd (tl hd 11 65) hq_48) (fun hb49 => .cB) (fun hb49 => (HasO.cnd (tl hd 21 75) (andI hq_48 (notT hb49)))) hv_33) ?_
      refine dS 24 (fun γ ρ B hb hd => op_pickCS lb (tl hd 8 62) (fun hb50 => (HasO.cnd (tl hd 22 76) hb50)) (fun hb50 => .cB) hv_34) <| dS 25 (fun γ ρ B hb hd => op_assign lb (tl hd 23 77)) ?_
      exact DSteps.nil)
           (by decide +kernel) (fun _ => rfl) (fun _ => rfl) (fun _ => rfl) rfl
           (ρ' := fun γ => [(1, ov (PTR gb_2 0)), (3, ov (S rB v_34)), (47, ov (S (rL r_api_Dest) t_1.To)), (48, ov (S (rI .i64) (List.length t_1.To : Int))), (49, ov (S (rI .i64) x_22))])
           (X' := fun γ => [cvar gb_2 r_api_Event t_1, cvar gb_25 r_api_Dest v_24])
           (fun γ ρ hb hd => (.cons (hb 1 _ rfl) (.cons (hdq hd 24 3 rfl) (.cons (hb 47 _ rfl) (.cons (hb 48 _ rfl) (.cons (hb 49 _ rfl) .nil)))))) (fun _ => rfl) (fun γ => ?_)
       refine JQ.at ⟨[(1, ov (PTR gb_2 0)), (3, ov (S rB v_34)), (47, ov (S (rL r_api_Dest) t_1.To)), (48, ov (S (rI .i64) (List.length t_1.To : Int))), (49, ov (S (rI .i64) x_22))], [cvar gb_2 r_api_Event t_1, cvar gb_25 r_api_Dest v_24], []⟩ ?_
       try obtain rfl := so hx30
       exact JQ.join () (Imp.norm (js := [0]) rfl (.cons rfl (.cons rfl (.cons rfl (.cons rfl (.cons rfl .nil))))))
     refine JC.exit <| JQ.outX ?_
     try obtain rfl := so hx
     have ht := hr _ rfl
     have hq28 := cs ht
     clear hr ht
     refine JQ.outX <| JQ.here ?_
     try obtain rfl := so hq28
     exact jo rfl rfl rfl
   refine JC.region <| jc (op_fieldAddr (off := 2) lb tf37_1 tR) <| jc (op_loadS (j := 0) lb tS9 tR rfl (cT (comp_api_Event_Topic t_1) rfl) rfl rfl) <| bI hx15 fun v_14 hv_14 hx15 => jx (op_call (js := []) ld cl59 (sim_event_MayName k t_1.Topic v_14 hv_14) .func (.cons tR .nil) rfl) fun _ => lI hx15 fun v_15 hv_15 hx15 => jc (op_not lb tR hv_15) <| jmv rfl rfl <| jF (ov (PTR gb_2 (0 + 3))) rfl rfl rfl rfl (fun hq_16 => op_fieldAddr (off := 3) lb tf37_2 tR) <| jF (ov (S (rL (rU UInt8)) t_1.Payload)) rfl rfl rfl rfl (fun hq_17 => op_loadS (j := 0) lb tS32 (HasO.cnd tR (notT (notF hq_17))) rfl (cT (comp_api_Event_Payload t_1) rfl) rfl rfl) <| jF (ov (S (rI .i64) (List.length t_1.Payload : Int))) rfl rfl rfl rfl (fun hq_18 => op_lenL lb tu32 (HasO.cnd tR (notT (notF hq_18)))) ?_
   obtain ⟨v_16, hv_16, hx15⟩ := lt1_inv hx15
   refine jF (ov (S rB v_16)) rfl rfl rfl rfl (fun hq_19 => op_cmpI lb (HasO.cnd tR (notT (notF hq_19))) .cI (cs hv_16)) <| lI hx15 fun v_17 hv_17 hx15 => jc (op_pickCS lb tR (fun hb20 => .cB) (fun hb20 => (HasO.cnd tR (notT hb20))) hv_17) <| jmv rfl rfl <| jF (ov (PTR gb_2 (0 + 20))) rfl rfl rfl rfl (fun hq_21 => op_fieldAddr (off := 20) lb tf37_4 tR) <| JL.sub ⟨[(1, ov (PTR gb_2 0)), (40, ov (S rB v_17)), (41, bif (!v_17) then ov (PTR gb_2 (0 + 20)) else .one .und)], [cvar gb_2 r_api_Event t_1], []⟩ (.cons rfl (.cons rfl (.cons rfl .nil))) rfl rfl <| jF (ov (S (rL r_api_Dest) t_1.To)) rfl rfl rfl rfl (fun hq_22 => op_loadS (j := 0) lb tS35 (HasO.cnd tR (notT (notF hq_22))) rfl (cT (comp_api_Event_To t_1) rfl) rfl rfl) <| jF (ov (S (rI .i64) (List.length t_1.To : Int))) rfl rfl rfl rfl (fun hq_23 => op_lenL lb tu35 (HasO.cnd tR (notT (notF hq_23)))) <| lI hx15 fun v_18 hv_18 hx15 => jF (ov (S rB v_18)) rfl rfl rfl rfl (fun hq_24 => op_cmpI lb (HasO.cnd tR (notT (notF hq_24))) .cI (cs hv_18)) ?_
   refine lI hx15 fun v_19 hv_19 hx15 => jc (op_pickCS lb tR (fun hb25 => .cB) (fun hb25 => (HasO.cnd tR (notT hb25))) hv_19) <| JL.nil ?_
   try obtain rfl := so hx15
   exact JQ.join () (Imp.norm (js := [0]) rfl (.cons rfl (.cons rfl .nil)))
 refine bI hx1 fun v_3 hv_3 hx1 => lI hx1 fun v_4 hv_4 hx1 => bI hx1 fun v_5 hv_5 hx1 => lI hx1 fun v_6 hv_6 hx1 => lI hx1 fun v_7 hv_7 hx1 => ?_
 obtain ⟨v_8, hv_8, hx1⟩ := lt1_inv hx1
 rcases iteB_inv hx1 with ⟨hc13, hx1⟩ | ⟨hc13, hx1⟩
 · refine JC.anyF (base := [(1, ov (PTR gb_2 0))])
       (fs := fun γ => [⟨some 6, ov (PTR gb_2 (0 + 0))⟩, ⟨some 7, ov (A r_api_Dot t_1.ID)⟩, ⟨some 8, ov (S rB v_3)⟩, ⟨some 9, ov (S rB v_4)⟩, ⟨some 10, ov (S rB v_4)⟩, ⟨some 11, bif (!v_4) then ov (PTR gb_2 (0 + 4)) else .one .und⟩, ⟨some 12, bif (!v_4) then ov (A (rV 16 (rU UInt64)) t_1.Past) else .one .und⟩, ⟨some 13, bif (!v_4) then ov (S rB v_5) else .one .und⟩, ⟨some 14, bif (!v_4) then ov (S rB v_6) else .one .und⟩, ⟨some 15, ov (S rB v_7)⟩, ⟨some 16, ov (S rB v_7)⟩, ⟨some 17, bif (!v_7) then ov (PTR gb_2 (0 + 0)) else .one .und⟩, ⟨some 18, bif (!v_7) then ov (PTR gb_2 ((0 + 0) + 0)) else .one .und⟩, ⟨some 19, bif (!v_7) then ov (S (rI .i64) t_1.ID.Region) else .one .und⟩, ⟨some 20, bif (!v_7) then ov (S (rI .i64) v_8) else .one .und⟩, ⟨some 21, bif (!v_7) then ov (PTR gb_2 (0 + 4)) else .one .und⟩, ⟨some 22, .one .und⟩, ⟨some 23, .one .und⟩, ⟨some 24, .one .und⟩, ⟨some 25, .one .und⟩, ⟨some 26, .one .und⟩, ⟨some 27, .one .und⟩, ⟨some 28, .one .und⟩, ⟨some 29, ov (S rB true)⟩])
       (rs := fun γ => [⟨cvar gb_2 r_api_Event t_1, none, none, [1, 6, 13]⟩])
       (afts := nn 24) (js := [0]) mixed (.cons rfl .nil) (fun _ => rfl)
       (by
      refine dS 1 (fun γ ρ B hb hd => op_fieldAddr (off := 0) lb tf37_0 (.tmp (hb 1 _ rfl))) <| dR 2 (fun γ ρ B hb hd => OpStep.lk ⟨ρ, (cvar gb_2 r_api_Event t_1) :: B, _⟩ (op_loadA (j := 0) lb tA31 (tl hd 0 6) rfl (cT (comp_api_Event_ID t_1) rfl) rfl)) <| dS 3 (fun γ ρ B hb hd => (op_call (js := []) ld cl57 (sim_event_MayDot k t_1.ID v_3 hv_3) .func (.cons (tl hd 1 7) .nil) rfl).post (fun _ => Imp.refl)) <| dS 4 (fun γ ρ B hb hd => op_not lb (tl hd 2 8) hv_4) <| dm 5 3 9 ?_
      refine dF 6 4 10 v_4 (fun γ => ov (PTR gb_2 (0 + 4))) (fun γ ρ B hb hd hq_2 => op_fieldAddr (off := 4) lb tf37_3 (.tmp (hb 1 _ rfl))) ?_
      refine eF 7 4 10 v_4 (fun γ => ov (A (rV 16 (rU UInt64)) t_1.Past)) (fun γ ρ B hb hd hq_3 => OpStep.lk ⟨ρ, (cvar gb_2 r_api_Event t_1) :: B, _⟩ (op_loadA (j := 0) lb tA34 (HasO.cnd (tl hd 5 11) (notT (notF hq_3))) rfl (cT (comp_api_Event_Past t_1) rfl) rfl)) ?_
      refine dF 8 4 10 v_4 (fun γ => ov (S rB v_5)) (fun γ ρ B hb hd hq_4 => (op_call (js := []) ld cl58 (sim_event_mayVector k t_1.Past v_5 (ifT hv_5 hq_4)) .func (.cons (HasO.cnd (tl hd 6 12) (notT (notF hq_4))) .nil) rfl).post (fun _ => Imp.refl)) ?_
      refine dF 9 4 10 v_4 (fun γ => ov (S rB v_6)) (fun γ ρ B hb hd hq_5 => op_not lb (HasO.cnd (tl hd 7 13) (notT (notF hq_5))) hv_6) ?_
      refine dS 10 (fun γ ρ B hb hd => op_pickCS lb (tl hd 4 10) (fun hb6 => .cB) (fun hb6 => (HasO.cnd (tl hd 8 14) (notT hb6))) hv_7) <| dm 11 9 15 ?_
      refine dF 12 10 16 v_7 (fun γ => ov (PTR gb_2 (0 + 0))) (fun γ ρ B hb hd hq_7 => op_fieldAddr (off := 0) lb tf37_0 (.tmp (hb 1 _ rfl))) ?_
      refine dF 13 10 16 v_7 (fun γ => ov (PTR gb_2 ((0 + 0) + 0))) (fun γ ρ B hb hd hq_8 => op_fieldAddr (off := 0) lb tf31_0 (HasO.cnd (tl hd 11 17) (notT (notF hq_8)))) ?_
      refine eF 14 10 16 v_7 (fun γ => ov (S (rI .i64) t_1.ID.Region)) (fun γ ρ B hb hd hq_9 => OpStep.lk ⟨ρ, (cvar gb_2 r_api_Event t_1) :: B, _⟩ (op_loadS (j := 0) lb tS3 (HasO.cnd (tl hd 12 18) (notT (notF hq_9))) rfl (Comp.trans (cT (comp_api_Event_ID t_1) rfl) (comp_api_Dot_Region t_1.ID) (lE rfl)) rfl rfl)) ?_
      refine dF 15 10 16 v_7 (fun γ => ov (S (rI .i64) v_8)) (fun γ ρ B hb hd hq_10 => op_arI lb (HasO.cnd (tl hd 13 19) (notT (notF hq_10))) .cI (cs hv_8)) ?_
      refine dF 16 10 16 v_7 (fun γ => ov (PTR gb_2 (0 + 4))) (fun γ ρ B hb hd hq_11 => op_fieldAddr (off := 4) lb tf37_3 (.tmp (hb 1 _ rfl))) ?_
      refine kn 17 10 16 rfl hc13 <| kn 18 10 16 rfl hc13 <| kn 19 10 16 rfl hc13 <| kn 20 10 16 rfl hc13 <| kn 21 10 16 rfl hc13 ?_
      refine kn 22 10 16 rfl hc13 <| kn 23 10 16 rfl hc13 <| dS 24 (fun γ ρ B hb hd => op_pickT lb (tl hd 10 16) hc13 .cB) ?_
      exact DSteps.nil)
       (by decide +kernel) (fun _ => rfl) (fun _ => rfl) (fun _ => rfl) rfl
       (ρ' := fun γ => [(1, ov (PTR gb_2 0)), (29, ov (S rB true))])
       (X' := fun γ => [cvar gb_2 r_api_Event t_1])
       (fun γ ρ hb hd => (.cons (hb 1 _ rfl) (.cons (hdq hd 23 29 rfl) .nil))) (fun _ => rfl) (fun γ => ?_)
   refine JQ.at ⟨[(1, ov (PTR gb_2 0)), (29, ov (S rB true))], [cvar gb_2 r_api_Event t_1], []⟩ ?_
   try obtain rfl := so hx1
   exact JQ.join () (Imp.norm (js := [0]) rfl (.cons rfl (.cons rfl .nil)))
 refine bI hx1 fun i_9 hv_i_9 hx1 => lI hx1 fun v_10 hv_10 hx1 => lI hx1 fun v_11 hv_11 hx1 => ?_
 obtain ⟨v_12, hv_12, hx1⟩ := lt1_inv hx1
 refine JC.anyF (base := [(1, ov (PTR gb_2 0))])
     (fs := fun γ => [⟨some 6, ov (PTR gb_2 (0 + 0))⟩, ⟨some 7, ov (A r_api_Dot t_1.ID)⟩, ⟨some 8, ov (S rB v_3)⟩, ⟨some 9, ov (S rB v_4)⟩, ⟨some 10, ov (S rB v_4)⟩, ⟨some 11, bif (!v_4) then ov (PTR gb_2 (0 + 4)) else .one .und⟩, ⟨some 12, bif (!v_4) then ov (A (rV 16 (rU UInt64)) t_1.Past) else .one .und⟩, ⟨some 13, bif (!v_4) then ov (S rB v_5) else .one .und⟩, ⟨some 14, bif (!v_4) then ov (S rB v_6) else .one .und⟩, ⟨some 15, ov (S rB v_7)⟩, ⟨some 16, ov (S rB v_7)⟩, ⟨some 17, bif (!v_7) then ov (PTR gb_2 (0 + 0)) else .one .und⟩, ⟨some 18, bif (!v_7) then ov (PTR gb_2 ((0 + 0) + 0)) else .one .und⟩, ⟨some 19, bif (!v_7) then ov (S (rI .i64) t_1.ID.Region) else .one .und⟩, ⟨some 20, bif (!v_7) then ov (S (rI .i64) v_8) else .one .und⟩, ⟨some 21, bif (!v_7) then ov (PTR gb_2 (0 + 4)) else .one .und⟩, ⟨some 22, ov (PTR gb_2 ((0 + 4) + i_9.1 * 1))⟩, ⟨some 23, ov (S (rU UInt64) v_10)⟩, ⟨some 24, ov (PTR gb_2 (0 + 0))⟩, ⟨some 25, ov (PTR gb_2 ((0 + 0) + 1))⟩, ⟨some 26, ov (S (rU UInt64) t_1.ID.Count)⟩, ⟨some 27, ov (S (rU UInt64) v_11)⟩, ⟨some 28, ov (S rB v_12)⟩, ⟨some 29, ov (S rB v_12)⟩])
     (rs := fun γ => [⟨cvar gb_2 r_api_Event t_1, none, none, [1, 6, 13, 17, 20]⟩])
     (afts := nn 24) (js := [0]) mixed (.cons rfl .nil) (fun _ => rfl)
     (by
      refine dS 1 (fun γ ρ B hb hd => op_fieldAddr (off := 0) lb tf37_0 (.tmp (hb 1 _ rfl))) <| dR 2 (fun γ ρ B hb hd => OpStep.lk ⟨ρ, (cvar gb_2 r_api_Event t_1) :: B, _⟩ (op_loadA (j := 0) lb tA31 (tl hd 0 6) rfl (cT (comp_api_Event_ID t_1) rfl) rfl)) <| dS 3 (fun γ ρ B hb hd => (op_call (js := []) ld cl57 (sim_event_MayDot k t_1.ID v_3 hv_3) .func (.cons (tl hd 1 7) .nil) rfl).post (fun _ => Imp.refl)) <| dS 4 (fun γ ρ B hb hd => op_not lb (tl hd 2 8) hv_4) <| dm 5 3 9 ?_
      refine dF 6 4 10 v_4 (fun γ => ov (PTR gb_2 (0 + 4))) (fun γ ρ B hb hd hq_2 => op_fieldAddr (off := 4) lb tf37_3 (.tmp (hb 1 _ rfl))) ?_
      refine eF 7 4 10 v_4 (fun γ => ov (A (rV 16 (rU UInt64)) t_1.Past)) (fun γ ρ B hb hd hq_3 => OpStep.lk ⟨ρ, (cvar gb_2 r_api_Event t_1) :: B, _⟩ (op_loadA (j := 0) lb tA34 (HasO.cnd (tl hd 5 11) (notT (notF hq_3))) rfl (cT (comp_api_Event_Past t_1) rfl) rfl)) ?_
      refine dF 8 4 10 v_4 (fun γ => ov (S rB v_5)) (fun γ ρ B hb hd hq_4 => (op_call (js := []) ld cl58 (sim_event_mayVector k t_1.Past v_5 (ifT hv_5 hq_4)) .func (.cons (HasO.cnd (tl hd 6 12) (notT (notF hq_4))) .nil) rfl).post (fun _ => Imp.refl)) ?_
      refine dF 9 4 10 v_4 (fun γ => ov (S rB v_6)) (fun γ ρ B hb hd hq_5 => op_not lb (HasO.cnd (tl hd 7 13) (notT (notF hq_5))) hv_6) ?_
      refine dS 10 (fun γ ρ B hb hd => op_pickCS lb (tl hd 4 10) (fun hb6 => .cB) (fun hb6 => (HasO.cnd (tl hd 8 14) (notT hb6))) hv_7) <| dm 11 9 15 ?_
      refine dF 12 10 16 v_7 (fun γ => ov (PTR gb_2 (0 + 0))) (fun γ ρ B hb hd hq_7 => op_fieldAddr (off := 0) lb tf37_0 (.tmp (hb 1 _ rfl))) ?_
      refine dF 13 10 16 v_7 (fun γ => ov (PTR gb_2 ((0 + 0) + 0))) (fun γ ρ B hb hd hq_8 => op_fieldAddr (off := 0) lb tf31_0 (HasO.cnd (tl hd 11 17) (notT (notF hq_8)))) ?_
      refine eF 14 10 16 v_7 (fun γ => ov (S (rI .i64) t_1.ID.Region)) (fun γ ρ B hb hd hq_9 => OpStep.lk ⟨ρ, (cvar gb_2 r_api_Event t_1) :: B, _⟩ (op_loadS (j := 0) lb tS3 (HasO.cnd (tl hd 12 18) (notT (notF hq_9))) rfl (Comp.trans (cT (comp_api_Event_ID t_1) rfl) (comp_api_Dot_Region t_1.ID) (lE rfl)) rfl rfl)) ?_
      refine dF 15 10 16 v_7 (fun γ => ov (S (rI .i64) v_8)) (fun γ ρ B hb hd hq_10 => op_arI lb (HasO.cnd (tl hd 13 19) (notT (notF hq_10))) .cI (cs hv_8)) ?_
      refine dF 16 10 16 v_7 (fun γ => ov (PTR gb_2 (0 + 4))) (fun γ ρ B hb hd hq_11 => op_fieldAddr (off := 4) lb tf37_3 (.tmp (hb 1 _ rfl))) ?_
      refine dY 17 (fun γ ρ B hb hd => ⟨.yes rfl (ltB rfl) (hl hd 10 16 rfl) hc13, lkB (op_indexAddrIF lb tr34 (HasO.cnd (tl hd 15 21) (notT hc13)) (HasO.cnd (tl hd 14 20) (notT hc13)) hv_i_9)⟩) <| dY 18 (fun γ ρ B hb hd => ⟨.yes rfl (ltB rfl) (hl hd 10 16 rfl) hc13, OpStep.lk ⟨ρ, (cvar gb_2 r_api_Event t_1) :: B, _⟩ (op_loadS (j := 0) lb tS29 (tl hd 16 22) rfl (Comp.at (cT (comp_api_Event_Past t_1) rfl) i_9.2 rfl) rfl hv_10)⟩) <| dY 19 (fun γ ρ B hb hd => ⟨.yes rfl (ltB rfl) (hl hd 10 16 rfl) hc13, lkB (op_fieldAddr (off := 0) lb tf37_0 (.tmp (hb 1 _ rfl)))⟩) <| dY 20 (fun γ ρ B hb hd => ⟨.yes rfl (ltB rfl) (hl hd 10 16 rfl) hc13, lkB (op_fieldAddr (off := 1) lb tf31_1 (tl hd 18 24))⟩) <| dY 21 (fun γ ρ B hb hd => ⟨.yes rfl (ltB rfl) (hl hd 10 16 rfl) hc13, OpStep.lk ⟨ρ, (cvar gb_2 r_api_Event t_1) :: B, _⟩ (op_loadS (j := 0) lb tS29 (tl hd 19 25) rfl (Comp.trans (cT (comp_api_Event_ID t_1) rfl) (comp_api_Dot_Count t_1.ID) (lE rfl)) rfl rfl)⟩) ?_
      refine dY 22 (fun γ ρ B hb hd => ⟨.yes rfl (ltB rfl) (hl hd 10 16 rfl) hc13, lkB (op_arU lb (tl hd 20 26) (HasO.cU (x := (1 : UInt64)) rfl (by decide)) (cs hv_11))⟩) <| dY 23 (fun γ ρ B hb hd => ⟨.yes rfl (ltB rfl) (hl hd 10 16 rfl) hc13, lkB (op_cmpU lb (tl hd 17 23) (tl hd 21 27) (cs hv_12))⟩) <| dS 24 (fun γ ρ B hb hd => op_pickF lb (tl hd 10 16) hc13 (tl hd 22 28)) ?_
      exact DSteps.nil)
     (by decide +kernel) (fun _ => rfl) (fun _ => rfl) (fun _ => rfl) rfl
     (ρ' := fun γ => [(1, ov (PTR gb_2 0)), (29, ov (S rB v_12))])
     (X' := fun γ => [cvar gb_2 r_api_Event t_1])
     (fun γ ρ hb hd => (.cons (hb 1 _ rfl) (.cons (hdq hd 23 29 rfl) .nil))) (fun _ => rfl) (fun γ => ?_)
 refine JQ.at ⟨[(1, ov (PTR gb_2 0)), (29, ov (S rB v_12))], [cvar gb_2 r_api_Event t_1], []⟩ ?_
 try obtain rfl := so hx1
 exact JQ.join () (Imp.norm (js := [0]) rfl (.cons rfl (.cons rfl .nil)))

theorem sim_cast_Caster_may_pv_svvvnnmm (k : Nat) (e_1 : api_Event) (regions_2 : Int) (own_3 : Int) (v_4 : (Vector UInt64 16)) (x_6 : (List (api_Dot × api_Event))) (gb_5 : Nat) (go_7 : Option Nat) (r : Bool) (hm : cast_Caster_may_pv_svvvnnmm k e_1 regions_2 own_3 v_4 x_6 = some r) : Sim Try.prog 27 [PTR gb_5 0, A r_api_Event e_1] [cvar gb_5 (zq4 go_7) (regions_2, (own_3, (v_4, ((), ((), ((), ())))))), cmap go_7 (A r_api_Dot) (A r_api_Event) (some x_6)] (γ := Unit) (fun q => [cvar gb_5 (zq4 go_7) (regions_2, (own_3, (v_4, ((), ((), ((), ())))))), cmap go_7 (A r_api_Dot) (A r_api_Event) (some x_6)]) (fun q => .one (.val (S rB r))) := by
 unfold cast_Caster_may_pv_svvvnnmm at hm
 refine Sim.of Try.func27 rfl rfl (lE rfl) (fun e0 w0 => ?_)
 refine JC.at ⟨[(0, ov (PTR gb_5 0)), (1, ov (A r_api_Event e_1))], [cvar gb_5 (zq4 go_7) (regions_2, (own_3, (v_4, ((), ((), ((), ())))))), cmap go_7 (A r_api_Dot) (A r_api_Event) (some x_6)], []⟩ <| jr <| jx (op_boxA lb tR) fun gb_8 => jc (op_assign lb .cB) <| jn <| JC.seq <| bI hm fun x_18 hx1 hq1 => JC.seqJ (γ := Unit) (stj := fun _ => ⟨[(0, ov (PTR gb_5 0)), (3, ov (PTR gb_8 0)), (33, ov (S rB x_18))], [cvar gb_5 (zq4 go_7) (regions_2, (own_3, (v_4, ((), ((), ((), ())))))), cmap go_7 (A r_api_Dot) (A r_api_Event) (some x_6), cvar gb_8 r_api_Event e_1], []⟩) (fun _ => ?_) ?_
 · refine jif tR hq1 (fun hc18 hq1 => ?_) (fun hc18 hq1 => ?_)
   · refine jr <| jc (op_assign lb .cB) <| jn <| JC.ret <| JQ.outR ?_
     obtain rfl := so hq1
     exact JQ.done (js := [0, 0]) (ss := [.val (S rB false)]) () (.inl rfl) (.nil rfl) rfl (.cons (.tmp rfl) .nil) rfl rfl rfl
   refine JC.skip <| JQ.then <| bI hq1 fun tv19 hx19 hq19 => JC.seqK (α := Unit) (γ := Unit) (stj := fun v q => ⟨[], [cvar gb_5 (zq4 go_7) (regions_2, (own_3, (v_4, ((), ((), ((), ())))))), cmap go_7 (A r_api_Dot) (A r_api_Event) (some x_6)], []⟩) (p := fun v => tv19 = (.inl v)) (fun v q hv => ?_) ?_
   · subst hv
     skip
     obtain _ := q
     dsimp only at hq19
     refine JC.at ⟨[], [cvar gb_5 (zq4 go_7) (regions_2, (own_3, (v_4, ((), ((), ((), ())))))), cmap go_7 (A r_api_Dot) (A r_api_Event) (some x_6)], []⟩ <| jr <| jc (op_assign lb .cB) <| jn <| JC.ret ?_
     obtain rfl := so hq19
     exact JQ.done (js := [0, 0]) (ss := [.val (S rB true)]) () (.inl rfl) (.nil rfl) rfl (.cons (.tmp rfl) .nil) rfl rfl rfl
   refine jr <| jc (op_fieldAddr (off := 4) lb tf37_3 tR) <| jmv rfl rfl <| jc (op_nilCheck lb tR (fun e v h => by subst h; rfl)) <| jc (op_fieldAddr (off := 0) lb tf74_0 tR) <| jc (op_loadS (j := 0) lb tS3 tR rfl (Comp.trans (Comp.self (zq4 go_7) (regions_2, (own_3, (v_4, ((), ((), ((), ()))))))) (Comp.at' (Comp.inF (Comp.self (rI .i64) regions_2) (lE rfl)) (by rfl : _ = 0)) (lE rfl)) rfl rfl) <| bI hx19 fun v_19 hv_19 hx19 => JL.pre (Imp.frzVar (j := 2) rfl (ImpK.slotP (s := 3) rfl (Comp.self r_api_Event e_1) (ImpK.slotP (s := 34) rfl (cT (comp_api_Event_Past e_1) rfl) ImpK.refl))) <| jc (op_sliceP lb tu34 tz29 tR (.some tR) .none hv_19) <| jc (op_lenL lb tu95 tR) <| jc (op_move lb .cI) <| jn <| JC.block <| bI hx19 fun tv20 hL20 hq20 => JC.pre ?_ (JC.loop (γ := Unit) (stf := fun s q => ⟨[(39, ov (S (rL (rU UInt64)) v_19)), (40, ov (S (rI .i64) (List.length v_19 : Int))), (41, ov (S (rI .i64) s))], [cvar gb_5 (zq4 go_7) (regions_2, (own_3, (v_4, ((), ((), ((), ())))))), cmap go_7 (A r_api_Dot) (A r_api_Event) (some x_6)], []⟩) (q := ()) hL20 ?_)
   · exact (Imp.norm (js := [0, 0]) rfl (.cons rfl (.cons rfl (.cons rfl .nil))))
   intro x_20 q x hx hr
   obtain _ := q
   change cast_Caster_may_pv_svvvnnmm.b1 k v_19 x_20 = some x at hx
   unfold cast_Caster_may_pv_svvvnnmm.b1 at hx
   refine JC.at ⟨[(39, ov (S (rL (rU UInt64)) v_19)), (40, ov (S (rI .i64) (List.length v_19 : Int))), (41, ov (S (rI .i64) x_20))], [cvar gb_5 (zq4 go_7) (regions_2, (own_3, (v_4, ((), ((), ((), ())))))), cmap go_7 (A r_api_Dot) (A r_api_Event) (some x_6)], []⟩ <| jr <| lI hx fun v_21 hv_21 hx => jc (op_cmpI lb tR tR (cs hv_21)) <| jn <| JC.seq <| jif tR hx (fun hc21 hx => ?_) (fun hc21 hx => ?_)
   · refine JC.skip <| JQ.then <| JC.seq <| JC.block <| jr <| bI hx fun v_22 hv_22 hx => jc (op_indexAddrLg lb tu95 tz29 tR tR hv_22) <| jc (op_loadPSg lb tS29 rfl tR rfl) <| jc (op_assign lb tR) <| jn <| jr <| jmv rfl rfl <| lI hx fun v_23 hv_23 hx => jc (op_cmpU lb tR (HasO.cU (x := (0 : UInt64)) rfl (by decide)) (cs hv_23)) <| jn <| jif tR hx (fun hc22 hx => ?_) (fun hc22 hx => ?_)
     · refine jr <| jc (op_assign lb .cB) <| jn <| JC.ret <| JQ.outRB <| JQ.outR ?_
       try obtain rfl := so hx
       try obtain rfl := hr _ rfl
       dsimp only at hq20
       refine JQ.outR <| JQ.outRB ?_
       try obtain rfl := so hq20
       dsimp only at hq19
       refine JQ.outR ?_
       obtain rfl := so hq19
       exact JQ.done (js := [0, 0]) (ss := [.val (S rB false)]) () (.inl rfl) (.nil rfl) rfl (.cons (.tmp rfl) .nil) rfl rfl rfl
     refine JC.skip <| JQ.outNB <| JQ.then <| JC.region <| lI hx fun v_24 hv_24 hx => jc (op_arI lb tR .cI (cs hv_24)) <| jmv rfl rfl <| JL.nil ?_
     try obtain rfl := so hx
     exact JQ.next () rfl (Imp.norm (js := [0, 0]) rfl (.cons rfl (.cons rfl (.cons rfl .nil))))
   refine JC.exit <| JQ.outX ?_
   try obtain rfl := so hx
   try obtain rfl := hr _ rfl
   dsimp only at hq20
   refine JQ.outX <| JQ.here ?_
   try obtain rfl := so hq20
   exact JQ.joinK () () rfl (Imp.norm (js := [0, 0]) rfl .nil)
 refine bI hx1 fun v_9 hv_9 hx1 => lI hx1 fun v_10 hv_10 hx1 => lI hx1 fun v_11 hv_11 hx1 => lI hx1 fun v_12 hv_12 hx1 => ?_
 obtain ⟨v_13, hv_13, hx1⟩ := lt1_inv hx1
 rcases iteB_inv hx1 with ⟨hc17, hx1⟩ | ⟨hc17, hx1⟩
 · refine JC.anyF (base := [(0, ov (PTR gb_5 0)), (3, ov (PTR gb_8 0))])
       (fs := fun γ => [⟨some 7, ov (A r_api_Event e_1)⟩, ⟨some 8, ov (S rB v_9)⟩, ⟨some 9, ov (S rB v_10)⟩, ⟨some 10, ov (S rB v_10)⟩, ⟨some 11, bif (!v_10) then ov (PTR gb_8 (0 + 0)) else .one .und⟩, ⟨some 12, bif (!v_10) then ov (PTR gb_8 ((0 + 0) + 0)) else .one .und⟩, ⟨some 13, bif (!v_10) then ov (S (rI .i64) e_1.ID.Region) else .one .und⟩, ⟨some 14, bif (!v_10) then ov (PTR gb_5 0) else .one .und⟩, ⟨some 15, bif (!v_10) then ov (PTR gb_5 0) else .one .und⟩, ⟨some 16, bif (!v_10) then ov (PTR gb_5 (0 + 0)) else .one .und⟩, ⟨some 17, bif (!v_10) then ov (S (rI .i64) regions_2) else .one .und⟩, ⟨some 18, bif (!v_10) then ov (S rB v_11) else .one .und⟩, ⟨some 19, ov (S rB v_12)⟩, ⟨some 20, ov (S rB v_12)⟩, ⟨some 21, bif (!v_12) then ov (PTR gb_8 (0 + 0)) else .one .und⟩, ⟨some 22, bif (!v_12) then ov (PTR gb_8 ((0 + 0) + 0)) else .one .und⟩, ⟨some 23, bif (!v_12) then ov (S (rI .i64) e_1.ID.Region) else .one .und⟩, ⟨some 24, bif (!v_12) then ov (S (rI .i64) v_13) else .one .und⟩, ⟨some 25, bif (!v_12) then ov (PTR gb_8 (0 + 4)) else .one .und⟩, ⟨some 26, .one .und⟩, ⟨some 27, .one .und⟩, ⟨some 28, .one .und⟩, ⟨some 29, .one .und⟩, ⟨some 30, .one .und⟩, ⟨some 31, .one .und⟩, ⟨some 32, .one .und⟩, ⟨some 33, ov (S rB true)⟩])
       (rs := fun γ => [⟨cvar gb_5 (zq4 go_7) (regions_2, (own_3, (v_4, ((), ((), ((), ())))))), none, none, [10]⟩, ⟨cmap go_7 (A r_api_Dot) (A r_api_Event) (some x_6), none, none, []⟩, ⟨cvar gb_8 r_api_Event e_1, none, none, [0, 6, 16]⟩])
       (afts := nn 27) (js := [0, 0, 0]) mixed (.cons rfl (.cons rfl .nil)) (fun _ => rfl)
       (by
      refine dR 1 (fun γ ρ B hb hd => OpStep.lk ⟨ρ, (cvar gb_8 r_api_Event e_1) :: B, _⟩ (op_loadA (j := 0) lb tA37 (.tmp (hb 3 _ rfl)) rfl (Comp.self r_api_Event e_1) rfl)) <| dS 2 (fun γ ρ B hb hd => (op_call (js := []) ld cl47 (sim_event_May k e_1 v_9 hv_9) .func (.cons (tl hd 0 7) .nil) rfl).post (fun _ => Imp.refl)) <| dS 3 (fun γ ρ B hb hd => op_not lb (tl hd 1 8) hv_10) <| dm 4 2 9 ?_
      refine dF 5 3 10 v_10 (fun γ => ov (PTR gb_8 (0 + 0))) (fun γ ρ B hb hd hq_2 => op_fieldAddr (off := 0) lb tf37_0 (.tmp (hb 3 _ rfl))) ?_
      refine dF 6 3 10 v_10 (fun γ => ov (PTR gb_8 ((0 + 0) + 0))) (fun γ ρ B hb hd hq_3 => op_fieldAddr (off := 0) lb tf31_0 (HasO.cnd (tl hd 4 11) (notT (notF hq_3)))) ?_
      refine eF 7 3 10 v_10 (fun γ => ov (S (rI .i64) e_1.ID.Region)) (fun γ ρ B hb hd hq_4 => OpStep.lk ⟨ρ, (cvar gb_8 r_api_Event e_1) :: B, _⟩ (op_loadS (j := 0) lb tS3 (HasO.cnd (tl hd 5 12) (notT (notF hq_4))) rfl (Comp.trans (cT (comp_api_Event_ID e_1) rfl) (comp_api_Dot_Region e_1.ID) (lE rfl)) rfl rfl)) ?_
      refine dF 8 3 10 v_10 (fun γ => ov (PTR gb_5 0)) (fun γ ρ B hb hd hq_5 => op_move lb (.tmp (hb 0 _ rfl))) ?_
      refine dF 9 3 10 v_10 (fun γ => ov (PTR gb_5 0)) (fun γ ρ B hb hd hq_6 => op_nilCheck lb (HasO.cnd (tl hd 7 14) (notT (notF hq_6))) (fun e v h => by subst h; rfl)) ?_
      refine dF 10 3 10 v_10 (fun γ => ov (PTR gb_5 (0 + 0))) (fun γ ρ B hb hd hq_7 => op_fieldAddr (off := 0) lb tf74_0 (HasO.cnd (tl hd 8 15) (notT (notF hq_7)))) ?_
      refine eF 11 3 10 v_10 (fun γ => ov (S (rI .i64) regions_2)) (fun γ ρ B hb hd hq_8 => OpStep.lk ⟨ρ, (cvar gb_5 (zq4 go_7) (regions_2, (own_3, (v_4, ((), ((), ((), ()))))))) :: B, _⟩ (op_loadS (j := 0) lb tS3 (HasO.cnd (tl hd 9 16) (notT (notF hq_8))) rfl (Comp.trans (Comp.self (zq4 go_7) (regions_2, (own_3, (v_4, ((), ((), ((), ()))))))) (Comp.at' (Comp.inF (Comp.self (rI .i64) regions_2) (lE rfl)) (by rfl : _ = 0)) (lE rfl)) rfl rfl)) ?_
      refine dF 12 3 10 v_10 (fun γ => ov (S rB v_11)) (fun γ ρ B hb hd hq_9 => op_cmpI lb (HasO.cnd (tl hd 6 13) (notT (notF hq_9))) (HasO.cnd (tl hd 10 17) (notT (notF hq_9))) (cs hv_11)) ?_
      refine dS 13 (fun γ ρ B hb hd => op_pickCS lb (tl hd 3 10) (fun hb10 => .cB) (fun hb10 => (HasO.cnd (tl hd 11 18) (notT hb10))) hv_12) <| dm 14 12 19 ?_
      refine dF 15 13 20 v_12 (fun γ => ov (PTR gb_8 (0 + 0))) (fun γ ρ B hb hd hq_11 => op_fieldAddr (off := 0) lb tf37_0 (.tmp (hb 3 _ rfl))) ?_
      refine dF 16 13 20 v_12 (fun γ => ov (PTR gb_8 ((0 + 0) + 0))) (fun γ ρ B hb hd hq_12 => op_fieldAddr (off := 0) lb tf31_0 (HasO.cnd (tl hd 14 21) (notT (notF hq_12)))) ?_
      refine eF 17 13 20 v_12 (fun γ => ov (S (rI .i64) e_1.ID.Region)) (fun γ ρ B hb hd hq_13 => OpStep.lk ⟨ρ, (cvar gb_8 r_api_Event e_1) :: B, _⟩ (op_loadS (j := 0) lb tS3 (HasO.cnd (tl hd 15 22) (notT (notF hq_13))) rfl (Comp.trans (cT (comp_api_Event_ID e_1) rfl) (comp_api_Dot_Region e_1.ID) (lE rfl)) rfl rfl)) ?_
      refine dF 18 13 20 v_12 (fun γ => ov (S (rI .i64) v_13)) (fun γ ρ B hb hd hq_14 => op_arI lb (HasO.cnd (tl hd 16 23) (notT (notF hq_14))) .cI (cs hv_13)) ?_
      refine dF 19 13 20 v_12 (fun γ => ov (PTR gb_8 (0 + 4))) (fun γ ρ B hb hd hq_15 => op_fieldAddr (off := 4) lb tf37_3 (.tmp (hb 3 _ rfl))) ?_
      refine kn 20 13 20 rfl hc17 <| kn 21 13 20 rfl hc17 <| kn 22 13 20 rfl hc17 <| kn 23 13 20 rfl hc17 <| kn 24 13 20 rfl hc17 ?_
      refine kn 25 13 20 rfl hc17 <| kn 26 13 20 rfl hc17 <| dS 27 (fun γ ρ B hb hd => op_pickT lb (tl hd 13 20) hc17 .cB) ?_
      exact DSteps.nil)
       (by decide +kernel) (fun _ => rfl) (fun _ => rfl) (fun _ => rfl) rfl
       (ρ' := fun γ => [(0, ov (PTR gb_5 0)), (3, ov (PTR gb_8 0)), (33, ov (S rB true))])
       (X' := fun γ => [cvar gb_5 (zq4 go_7) (regions_2, (own_3, (v_4, ((), ((), ((), ())))))), cmap go_7 (A r_api_Dot) (A r_api_Event) (some x_6), cvar gb_8 r_api_Event e_1])
       (fun γ ρ hb hd => (.cons (hb 0 _ rfl) (.cons (hb 3 _ rfl) (.cons (hdq hd 26 33 rfl) .nil)))) (fun _ => rfl) (fun γ => ?_)
   refine JQ.at ⟨[(0, ov (PTR gb_5 0)), (3, ov (PTR gb_8 0)), (33, ov (S rB true))], [cvar gb_5 (zq4 go_7) (regions_2, (own_3, (v_4, ((), ((), ((), ())))))), cmap go_7 (A r_api_Dot) (A r_api_Event) (some x_6), cvar gb_8 r_api_Event e_1], []⟩ ?_
   try obtain rfl := so hx1
   refine JQ.pre (Imp.var (j := 0) (q := (zq4 go_7)) (y := (regions_2, (own_3, (v_4, ((), ((), ((), ()))))))) rfl Wk.refl) ?_
   exact JQ.join () (Imp.norm (js := [0, 0, 0]) rfl (.cons rfl (.cons rfl (.cons rfl .nil))))
 refine bI hx1 fun i_14 hv_i_14 hx1 => lI hx1 fun v_15 hv_15 hx1 => lI hx1 fun v_16 hv_16 hx1 => ?_
 obtain ⟨v_17, hv_17, hx1⟩ := lt1_inv hx1
 refine JC.anyF (base := [(0, ov (PTR gb_5 0)), (3, ov (PTR gb_8 0))])
     (fs := fun γ => [⟨some 7, ov (A r_api_Event e_1)⟩, ⟨some 8, ov (S rB v_9)⟩, ⟨some 9, ov (S rB v_10)⟩, ⟨some 10, ov (S rB v_10)⟩, ⟨some 11, bif (!v_10) then ov (PTR gb_8 (0 + 0)) else .one .und⟩, ⟨some 12, bif (!v_10) then ov (PTR gb_8 ((0 + 0) + 0)) else .one .und⟩, ⟨some 13, bif (!v_10) then ov (S (rI .i64) e_1.ID.Region) else .one .und⟩, ⟨some 14, bif (!v_10) then ov (PTR gb_5 0) else .one .und⟩, ⟨some 15, bif (!v_10) then ov (PTR gb_5 0) else .one .und⟩, ⟨some 16, bif (!v_10) then ov (PTR gb_5 (0 + 0)) else .one .und⟩, ⟨some 17, bif (!v_10) then ov (S (rI .i64) regions_2) else .one .und⟩, ⟨some 18, bif (!v_10) then ov (S rB v_11) else .one .und⟩, ⟨some 19, ov (S rB v_12)⟩, ⟨some 20, ov (S rB v_12)⟩, ⟨some 21, bif (!v_12) then ov (PTR gb_8 (0 + 0)) else .one .und⟩, ⟨some 22, bif (!v_12) then ov (PTR gb_8 ((0 + 0) + 0)) else .one .und⟩, ⟨some 23, bif (!v_12) then ov (S (rI .i64) e_1.ID.Region) else .one .und⟩, ⟨some 24, bif (!v_12) then ov (S (rI .i64) v_13) else .one .und⟩, ⟨some 25, bif (!v_12) then ov (PTR gb_8 (0 + 4)) else .one .und⟩, ⟨some 26, ov (PTR gb_8 ((0 + 4) + i_14.1 * 1))⟩, ⟨some 27, ov (S (rU UInt64) v_15)⟩, ⟨some 28, ov (PTR gb_8 (0 + 0))⟩, ⟨some 29, ov (PTR gb_8 ((0 + 0) + 1))⟩, ⟨some 30, ov (S (rU UInt64) e_1.ID.Count)⟩, ⟨some 31, ov (S (rU UInt64) v_16)⟩, ⟨some 32, ov (S rB v_17)⟩, ⟨some 33, ov (S rB v_17)⟩])
     (rs := fun γ => [⟨cvar gb_5 (zq4 go_7) (regions_2, (own_3, (v_4, ((), ((), ((), ())))))), none, none, [10]⟩, ⟨cmap go_7 (A r_api_Dot) (A r_api_Event) (some x_6), none, none, []⟩, ⟨cvar gb_8 r_api_Event e_1, none, none, [0, 6, 16, 20, 23]⟩])
     (afts := nn 27) (js := [0, 0, 0]) mixed (.cons rfl (.cons rfl .nil)) (fun _ => rfl)
     (by
      refine dR 1 (fun γ ρ B hb hd => OpStep.lk ⟨ρ, (cvar gb_8 r_api_Event e_1) :: B, _⟩ (op_loadA (j := 0) lb tA37 (.tmp (hb 3 _ rfl)) rfl (Comp.self r_api_Event e_1) rfl)) <| dS 2 (fun γ ρ B hb hd => (op_call (js := []) ld cl47 (sim_event_May k e_1 v_9 hv_9) .func (.cons (tl hd 0 7) .nil) rfl).post (fun _ => Imp.refl)) <| dS 3 (fun γ ρ B hb hd => op_not lb (tl hd 1 8) hv_10) <| dm 4 2 9 ?_
      refine dF 5 3 10 v_10 (fun γ => ov (PTR gb_8 (0 + 0))) (fun γ ρ B hb hd hq_2 => op_fieldAddr (off := 0) lb tf37_0 (.tmp (hb 3 _ rfl))) ?_
      refine dF 6 3 10 v_10 (fun γ => ov (PTR gb_8 ((0 + 0) + 0))) (fun γ ρ B hb hd hq_3 => op_fieldAddr (off := 0) lb tf31_0 (HasO.cnd (tl hd 4 11) (notT (notF hq_3)))) ?_
      refine eF 7 3 10 v_10 (fun γ => ov (S (rI .i64) e_1.ID.Region)) (fun γ ρ B hb hd hq_4 => OpStep.lk ⟨ρ, (cvar gb_8 r_api_Event e_1) :: B, _⟩ (op_loadS (j := 0) lb tS3 (HasO.cnd (tl hd 5 12) (notT (notF hq_4))) rfl (Comp.trans (cT (comp_api_Event_ID e_1) rfl) (comp_api_Dot_Region e_1.ID) (lE rfl)) rfl rfl)) ?_
      refine dF 8 3 10 v_10 (fun γ => ov (PTR gb_5 0)) (fun γ ρ B hb hd hq_5 => op_move lb (.tmp (hb 0 _ rfl))) ?_
      refine dF 9 3 10 v_10 (fun γ => ov (PTR gb_5 0)) (fun γ ρ B hb hd hq_6 => op_nilCheck lb (HasO.cnd (tl hd 7 14) (notT (notF hq_6))) (fun e v h => by subst h; rfl)) ?_
      refine dF 10 3 10 v_10 (fun γ => ov (PTR gb_5 (0 + 0))) (fun γ ρ B hb hd hq_7 => op_fieldAddr (off := 0) lb tf74_0 (HasO.cnd (tl hd 8 15) (notT (notF hq_7)))) ?_
      refine eF 11 3 10 v_10 (fun γ => ov (S (rI .i64) regions_2)) (fun γ ρ B hb hd hq_8 => OpStep.lk ⟨ρ, (cvar gb_5 (zq4 go_7) (regions_2, (own_3, (v_4, ((), ((), ((), ()))))))) :: B, _⟩ (op_loadS (j := 0) lb tS3 (HasO.cnd (tl hd 9 16) (notT (notF hq_8))) rfl (Comp.trans (Comp.self (zq4 go_7) (regions_2, (own_3, (v_4, ((), ((), ((), ()))))))) (Comp.at' (Comp.inF (Comp.self (rI .i64) regions_2) (lE rfl)) (by rfl : _ = 0)) (lE rfl)) rfl rfl)) ?_
      refine dF 12 3 10 v_10 (fun γ => ov (S rB v_11)) (fun γ ρ B hb hd hq_9 => op_cmpI lb (HasO.cnd (tl hd 6 13) (notT (notF hq_9))) (HasO.cnd (tl hd 10 17) (notT (notF hq_9))) (cs hv_11)) ?_
      refine dS 13 (fun γ ρ B hb hd => op_pickCS lb (tl hd 3 10) (fun hb10 => .cB) (fun hb10 => (HasO.cnd (tl hd 11 18) (notT hb10))) hv_12) <| dm 14 12 19 ?_
      refine dF 15 13 20 v_12 (fun γ => ov (PTR gb_8 (0 + 0))) (fun γ ρ B hb hd hq_11 => op_fieldAddr (off := 0) lb tf37_0 (.tmp (hb 3 _ rfl))) ?_
      refine dF 16 13 20 v_12 (fun γ => ov (PTR gb_8 ((0 + 0) + 0))) (fun γ ρ B hb hd hq_12 => op_fieldAddr (off := 0) lb tf31_0 (HasO.cnd (tl hd 14 21) (notT (notF hq_12)))) ?_
      refine eF 17 13 20 v_12 (fun γ => ov (S (rI .i64) e_1.ID.Region)) (fun γ ρ B hb hd hq_13 => OpStep.lk ⟨ρ, (cvar gb_8 r_api_Event e_1) :: B, _⟩ (op_loadS (j := 0) lb tS3 (HasO.cnd (tl hd 15 22) (notT (notF hq_13))) rfl (Comp.trans (cT (comp_api_Event_ID e_1) rfl) (comp_api_Dot_Region e_1.ID) (lE rfl)) rfl rfl)) ?_
      refine dF 18 13 20 v_12 (fun γ => ov (S (rI .i64) v_13)) (fun γ ρ B hb hd hq_14 => op_arI lb (HasO.cnd (tl hd 16 23) (notT (notF hq_14))) .cI (cs hv_13)) ?_
      refine dF 19 13 20 v_12 (fun γ => ov (PTR gb_8 (0 + 4))) (fun γ ρ B hb hd hq_15 => op_fieldAddr (off := 4) lb tf37_3 (.tmp (hb 3 _ rfl))) ?_
      refine dY 20 (fun γ ρ B hb hd => ⟨.yes rfl (ltB rfl) (hl hd 13 20 rfl) hc17, lkB (op_indexAddrIF lb tr34 (HasO.cnd (tl hd 18 25) (notT hc17)) (HasO.cnd (tl hd 17 24) (notT hc17)) hv_i_14)⟩) <| dY 21 (fun γ ρ B hb hd => ⟨.yes rfl (ltB rfl) (hl hd 13 20 rfl) hc17, OpStep.lk ⟨ρ, (cvar gb_8 r_api_Event e_1) :: B, _⟩ (op_loadS (j := 0) lb tS29 (tl hd 19 26) rfl (Comp.at (cT (comp_api_Event_Past e_1) rfl) i_14.2 rfl) rfl hv_15)⟩) <| dY 22 (fun γ ρ B hb hd => ⟨.yes rfl (ltB rfl) (hl hd 13 20 rfl) hc17, lkB (op_fieldAddr (off := 0) lb tf37_0 (.tmp (hb 3 _ rfl)))⟩) <| dY 23 (fun γ ρ B hb hd => ⟨.yes rfl (ltB rfl) (hl hd 13 20 rfl) hc17, lkB (op_fieldAddr (off := 1) lb tf31_1 (tl hd 21 28))⟩) <| dY 24 (fun γ ρ B hb hd => ⟨.yes rfl (ltB rfl) (hl hd 13 20 rfl) hc17, OpStep.lk ⟨ρ, (cvar gb_8 r_api_Event e_1) :: B, _⟩ (op_loadS (j := 0) lb tS29 (tl hd 22 29) rfl (Comp.trans (cT (comp_api_Event_ID e_1) rfl) (comp_api_Dot_Count e_1.ID) (lE rfl)) rfl rfl)⟩) ?_
      refine dY 25 (fun γ ρ B hb hd => ⟨.yes rfl (ltB rfl) (hl hd 13 20 rfl) hc17, lkB (op_arU lb (tl hd 23 30) (HasO.cU (x := (1 : UInt64)) rfl (by decide)) (cs hv_16))⟩) <| dY 26 (fun γ ρ B hb hd => ⟨.yes rfl (ltB rfl) (hl hd 13 20 rfl) hc17, lkB (op_cmpU lb (tl hd 20 27) (tl hd 24 31) (cs hv_17))⟩) <| dS 27 (fun γ ρ B hb hd => op_pickF lb (tl hd 13 20) hc17 (tl hd 25 32)) ?_
      exact DSteps.nil)
     (by decide +kernel) (fun _ => rfl) (fun _ => rfl) (fun _ => rfl) rfl
     (ρ' := fun γ => [(0, ov (PTR gb_5 0)), (3, ov (PTR gb_8 0)), (33, ov (S rB v_17))])
     (X' := fun γ => [cvar gb_5 (zq4 go_7) (regions_2, (own_3, (v_4, ((), ((), ((), ())))))), cmap go_7 (A r_api_Dot) (A r_api_Event) (some x_6), cvar gb_8 r_api_Event e_1])
     (fun γ ρ hb hd => (.cons (hb 0 _ rfl) (.cons (hb 3 _ rfl) (.cons (hdq hd 26 33 rfl) .nil)))) (fun _ => rfl) (fun γ => ?_)
 refine JQ.at ⟨[(0, ov (PTR gb_5 0)), (3, ov (PTR gb_8 0)), (33, ov (S rB v_17))], [cvar gb_5 (zq4 go_7) (regions_2, (own_3, (v_4, ((), ((), ((), ())))))), cmap go_7 (A r_api_Dot) (A r_api_Event) (some x_6), cvar gb_8 r_api_Event e_1], []⟩ ?_
 try obtain rfl := so hx1
 refine JQ.pre (Imp.var (j := 0) (q := (zq4 go_7)) (y := (regions_2, (own_3, (v_4, ((), ((), ((), ()))))))) rfl Wk.refl) ?_
 exact JQ.join () (Imp.norm (js := [0, 0, 0]) rfl (.cons rfl (.cons rfl (.cons rfl .nil))))

theorem sim_cast_Caster_can_pv_svvvnnmm (k : Nat) (e_1 : api_Event) (regions_2 : Int) (own_3 : Int) (v_4 : (Vector UInt64 16)) (x_6 : (List (api_Dot × api_Event))) (gb_5 : Nat) (go_7 : Option Nat) (r : Bool) (hm : cast_Caster_can_pv_svvvnnmm k e_1 regions_2 own_3 v_4 x_6 = some r) : Sim Try.prog 30 [PTR gb_5 0, A r_api_Event e_1] [cvar gb_5 (zq4 go_7) (regions_2, (own_3, (v_4, ((), ((), ((), ())))))), cmap go_7 (A r_api_Dot) (A r_api_Event) (some x_6)] (γ := Unit) (fun q => [cvar gb_5 (zq4 go_7) (regions_2, (own_3, (v_4, ((), ((), ((), ())))))), cmap go_7 (A r_api_Dot) (A r_api_Event) (some x_6)]) (fun q => .one (.val (S rB r))) := by
 unfold cast_Caster_can_pv_svvvnnmm at hm
 refine Sim.of Try.func30 rfl rfl (lE rfl) (fun e0 w0 => ?_)
 refine JC.at ⟨[(0, ov (PTR gb_5 0)), (1, ov (A r_api_Event e_1))], [cvar gb_5 (zq4 go_7) (regions_2, (own_3, (v_4, ((), ((), ((), ())))))), cmap go_7 (A r_api_Dot) (A r_api_Event) (some x_6)], []⟩ <| jr <| jx (op_boxA lb tR) fun gb_8 => jc (op_assign lb .cB) <| jn <| JC.seq <| JC.seq <| lI hm fun v_9 hv_9 hm => bI hm fun i_10 hv_i_10 hm => lI hm fun v_11 hv_11 hm => lI hm fun v_12 hv_12 hm => ?_
 obtain ⟨v_13, hv_13, hm⟩ := lt1_inv hm
 refine JC.anyF (base := [(0, ov (PTR gb_5 0)), (3, ov (PTR gb_8 0))])
     (fs := fun γ => [⟨some 7, ov (PTR gb_8 (0 + 0))⟩, ⟨some 8, ov (PTR gb_8 ((0 + 0) + 1))⟩, ⟨some 9, ov (S (rU UInt64) e_1.ID.Count)⟩, ⟨some 10, ov (PTR gb_5 0)⟩, ⟨some 11, ov (PTR gb_8 (0 + 0))⟩, ⟨some 12, ov (PTR gb_8 ((0 + 0) + 0))⟩, ⟨some 13, ov (S (rI .i64) e_1.ID.Region)⟩, ⟨some 14, ov (S (rI .i64) v_9)⟩, ⟨some 15, ov (PTR gb_5 0)⟩, ⟨some 16, ov (PTR gb_5 (0 + 2))⟩, ⟨some 17, ov (PTR gb_5 ((0 + 2) + i_10.1 * 1))⟩, ⟨some 18, ov (S (rU UInt64) v_11)⟩, ⟨some 19, ov (S (rU UInt64) v_12)⟩, ⟨some 20, ov (S rB v_13)⟩])
     (rs := fun γ => [⟨cvar gb_5 (zq4 go_7) (regions_2, (own_3, (v_4, ((), ((), ((), ())))))), none, none, [11]⟩, ⟨cmap go_7 (A r_api_Dot) (A r_api_Event) (some x_6), none, none, []⟩, ⟨cvar gb_8 r_api_Event e_1, none, none, [2, 6]⟩])
     (afts := nn 14) (js := [0, 0, 0]) mixed (.cons rfl (.cons rfl .nil)) (fun _ => rfl)
     (by
      refine dS 1 (fun γ ρ B hb hd => op_fieldAddr (off := 0) lb tf37_0 (.tmp (hb 3 _ rfl))) <| dS 2 (fun γ ρ B hb hd => op_fieldAddr (off := 1) lb tf31_1 (tl hd 0 7)) <| dR 3 (fun γ ρ B hb hd => OpStep.lk ⟨ρ, (cvar gb_8 r_api_Event e_1) :: B, _⟩ (op_loadS (j := 0) lb tS29 (tl hd 1 8) rfl (Comp.trans (cT (comp_api_Event_ID e_1) rfl) (comp_api_Dot_Count e_1.ID) (lE rfl)) rfl rfl)) <| db 4 0 <| dS 5 (fun γ ρ B hb hd => op_fieldAddr (off := 0) lb tf37_0 (.tmp (hb 3 _ rfl))) ?_
      refine dS 6 (fun γ ρ B hb hd => op_fieldAddr (off := 0) lb tf31_0 (tl hd 4 11)) <| dR 7 (fun γ ρ B hb hd => OpStep.lk ⟨ρ, (cvar gb_8 r_api_Event e_1) :: B, _⟩ (op_loadS (j := 0) lb tS3 (tl hd 5 12) rfl (Comp.trans (cT (comp_api_Event_ID e_1) rfl) (comp_api_Dot_Region e_1.ID) (lE rfl)) rfl rfl)) <| dS 8 (fun γ ρ B hb hd => op_arI lb (tl hd 6 13) .cI (cs hv_9)) <| dS 9 (fun γ ρ B hb hd => op_nilCheck lb (tl hd 3 10) (fun e v h => by subst h; rfl)) <| dS 10 (fun γ ρ B hb hd => op_fieldAddr (off := 2) lb tf74_2 (tl hd 8 15)) ?_
      refine dS 11 (fun γ ρ B hb hd => op_indexAddrIF lb tr34 (tl hd 9 16) (tl hd 7 14) hv_i_10) <| dR 12 (fun γ ρ B hb hd => OpStep.lk ⟨ρ, (cvar gb_5 (zq4 go_7) (regions_2, (own_3, (v_4, ((), ((), ((), ()))))))) :: B, _⟩ (op_loadS (j := 0) lb tS29 (tl hd 10 17) rfl (Comp.at (Comp.trans (Comp.self (zq4 go_7) (regions_2, (own_3, (v_4, ((), ((), ((), ()))))))) (Comp.at' (Comp.inS (Comp.inS (Comp.inF (Comp.self (rV 16 (rU UInt64)) v_4) (lE rfl)))) (by rfl : _ = 2)) (lE rfl)) i_10.2 rfl) rfl hv_11)) <| dS 13 (fun γ ρ B hb hd => op_arU lb (tl hd 11 18) (HasO.cU (x := (1 : UInt64)) rfl (by decide)) (cs hv_12)) <| dS 14 (fun γ ρ B hb hd => op_cmpU lb (tl hd 2 9) (tl hd 12 19) (cs hv_13)) ?_
      exact DSteps.nil)
     (by decide +kernel) (fun _ => rfl) (fun _ => rfl) (fun _ => rfl) rfl
     (ρ' := fun γ => [(0, ov (PTR gb_5 0)), (3, ov (PTR gb_8 0)), (20, ov (S rB v_13))])
     (X' := fun γ => [cvar gb_5 (zq4 go_7) (regions_2, (own_3, (v_4, ((), ((), ((), ())))))), cmap go_7 (A r_api_Dot) (A r_api_Event) (some x_6), cvar gb_8 r_api_Event e_1])
     (fun γ ρ hb hd => (.cons (hb 0 _ rfl) (.cons (hb 3 _ rfl) (.cons (hdq hd 13 20 rfl) .nil)))) (fun _ => rfl) (fun γ => ?_)
 refine JQ.at ⟨[(0, ov (PTR gb_5 0)), (3, ov (PTR gb_8 0)), (20, ov (S rB v_13))], [cvar gb_5 (zq4 go_7) (regions_2, (own_3, (v_4, ((), ((), ((), ())))))), cmap go_7 (A r_api_Dot) (A r_api_Event) (some x_6), cvar gb_8 r_api_Event e_1], []⟩ <| JQ.then <| jif tR hm (fun hc1 hm => ?_) (fun hc1 hm => ?_)
 · refine jr <| jc (op_assign lb .cB) <| jn <| JC.ret <| JQ.outR ?_
   obtain rfl := so hm
   refine JQ.pre (Imp.var (j := 0) (q := (zq4 go_7)) (y := (regions_2, (own_3, (v_4, ((), ((), ((), ()))))))) rfl Wk.refl) ?_
   exact JQ.done (js := [0, 0]) (ss := [.val (S rB false)]) () (.inl rfl) (.nil rfl) rfl (.cons (.tmp rfl) .nil) rfl rfl rfl
 refine JC.skip <| JQ.then <| bI hm fun tv2 hx2 hq2 => JC.seqK (α := Unit) (γ := Unit) (stj := fun v q => ⟨[], [cvar gb_5 (zq4 go_7) (regions_2, (own_3, (v_4, ((), ((), ((), ())))))), cmap go_7 (A r_api_Dot) (A r_api_Event) (some x_6)], []⟩) (p := fun v => tv2 = (.inl v)) (fun v q hv => ?_) ?_
 · subst hv
   skip
   obtain _ := q
   dsimp only at hq2
   refine JC.at ⟨[], [cvar gb_5 (zq4 go_7) (regions_2, (own_3, (v_4, ((), ((), ((), ())))))), cmap go_7 (A r_api_Dot) (A r_api_Event) (some x_6)], []⟩ <| jr <| jc (op_assign lb .cB) <| jn <| JC.ret ?_
   obtain rfl := so hq2
   exact JQ.done (js := [0, 0]) (ss := [.val (S rB true)]) () (.inl rfl) (.nil rfl) rfl (.cons (.tmp rfl) .nil) rfl rfl rfl
 refine jr <| jc (op_fieldAddr (off := 4) lb tf37_3 tR) <| jc (op_loadA (j := 2) lb tA34 tR rfl (cT (comp_api_Event_Past e_1) rfl) rfl) <| jc (op_move lb .cI) <| jn <| JC.block <| bI hx2 fun tv3 hL3 hq3 => JC.pre (Imp.var (j := 0) (q := (zq4 go_7)) (y := (regions_2, (own_3, (v_4, ((), ((), ((), ()))))))) rfl Wk.refl) ?_
 refine JC.pre ?_ (JC.loop (γ := Unit) (stf := fun s q => ⟨[(0, ov (PTR gb_5 0)), (3, ov (PTR gb_8 0)), (22, ov (A (rV 16 (rU UInt64)) e_1.Past)), (23, ov (S (rI .i64) s))], [cvar gb_5 (zq4 go_7) (regions_2, (own_3, (v_4, ((), ((), ((), ())))))), cmap go_7 (A r_api_Dot) (A r_api_Event) (some x_6), cvar gb_8 r_api_Event e_1], []⟩) (q := ()) hL3 ?_)
 · exact (Imp.norm (js := [0, 0, 0]) rfl (.cons rfl (.cons rfl (.cons rfl (.cons rfl .nil)))))
 intro x_14 q x hx hr
 obtain _ := q
 change cast_Caster_can_pv_svvvnnmm.b1 k e_1 v_4 x_14 = some x at hx
 unfold cast_Caster_can_pv_svvvnnmm.b1 at hx
 refine JC.at ⟨[(0, ov (PTR gb_5 0)), (3, ov (PTR gb_8 0)), (22, ov (A (rV 16 (rU UInt64)) e_1.Past)), (23, ov (S (rI .i64) x_14))], [cvar gb_5 (zq4 go_7) (regions_2, (own_3, (v_4, ((), ((), ((), ())))))), cmap go_7 (A r_api_Dot) (A r_api_Event) (some x_6), cvar gb_8 r_api_Event e_1], []⟩ <| jr <| lI hx fun v_15 hv_15 hx => jc (op_cmpI lb tR .cI (cs hv_15)) <| jn <| JC.seq <| jif tR hx (fun hc4 hx => ?_) (fun hc4 hx => ?_)
 · refine JC.skip <| JQ.then <| JC.seq <| JC.block <| jr <| jmv rfl rfl <| bI hx fun v_16 hv_16 hx => jc (op_indexSg lb tu34 tS29 rfl tR tR hv_16) <| jc (op_assign lb tR) <| jc (op_assign lb tR) <| jn <| bI hx fun x_22 hx5 hq5 => JC.seqJ (γ := Unit) (stj := fun _ => ⟨[(0, ov (PTR gb_5 0)), (3, ov (PTR gb_8 0)), (22, ov (A (rV 16 (rU UInt64)) e_1.Past)), (23, ov (S (rI .i64) x_14)), (42, ov (S rB x_22))], [cvar gb_5 (zq4 go_7) (regions_2, (own_3, (v_4, ((), ((), ((), ())))))), cmap go_7 (A r_api_Dot) (A r_api_Event) (some x_6), cvar gb_8 r_api_Event e_1], []⟩) (fun _ => ?_) ?_
   · refine jif tR hq5 (fun hc13 hq5 => ?_) (fun hc13 hq5 => ?_)
     · refine jr <| jc (op_assign lb .cB) <| jn <| JC.ret <| JQ.outRB <| JQ.outR ?_
       try obtain rfl := so hq5
       try obtain rfl := hr _ rfl
       dsimp only at hq3
       refine JQ.outR <| JQ.outRB ?_
       try obtain rfl := so hq3
       dsimp only at hq2
       refine JQ.outR ?_
       obtain rfl := so hq2
       exact JQ.done (js := [0, 0]) (ss := [.val (S rB false)]) () (.inl rfl) (.nil rfl) rfl (.cons (.tmp rfl) .nil) rfl rfl rfl
     refine JC.skip <| JQ.outNB <| JQ.then <| JC.region <| lI hq5 fun v_23 hv_23 hq5 => jc (op_arI lb tR .cI (cs hv_23)) <| jmv rfl rfl <| JL.nil ?_
     try obtain rfl := so hq5
     exact JQ.next () rfl (Imp.norm (js := [0, 0, 0]) rfl (.cons rfl (.cons rfl (.cons rfl (.cons rfl .nil)))))
   refine JC.region <| jmv rfl rfl <| jc (op_fieldAddr (off := 0) lb tf37_0 tR) <| jc (op_fieldAddr (off := 0) lb tf31_0 tR) <| jc (op_loadS (j := 2) lb tS3 tR rfl (Comp.trans (cT (comp_api_Event_ID e_1) rfl) (comp_api_Dot_Region e_1.ID) (lE rfl)) rfl rfl) <| lI hx5 fun v_17 hv_17 hx5 => jc (op_arI lb tR .cI (cs hv_17)) <| lI hx5 fun v_18 hv_18 hx5 => jc (op_cmpI lb tR tR (cs hv_18)) <| jmv rfl rfl <| JL.sub ⟨[(0, ov (PTR gb_5 0)), (3, ov (PTR gb_8 0)), (5, ov (S (rI .i64) x_14)), (6, ov (S (rU UInt64) v_16)), (22, ov (A (rV 16 (rU UInt64)) e_1.Past)), (23, ov (S (rI .i64) x_14)), (33, ov (S rB v_18))], [cvar gb_5 (zq4 go_7) (regions_2, (own_3, (v_4, ((), ((), ((), ())))))), cmap go_7 (A r_api_Dot) (A r_api_Event) (some x_6), cvar gb_8 r_api_Event e_1], []⟩ (.cons rfl (.cons rfl (.cons rfl (.cons rfl (.cons rfl (.cons rfl (.cons rfl .nil))))))) rfl rfl <| jT (ov (S (rU UInt64) v_16)) rfl rfl rfl rfl (fun hq_6 => op_move lb tR) <| jT (ov (PTR gb_5 0)) rfl rfl rfl rfl (fun hq_7 => op_move lb tR) <| jT (ov (S (rI .i64) x_14)) rfl rfl rfl rfl (fun hq_8 => op_move lb tR) ?_
   refine jT (ov (PTR gb_5 0)) rfl rfl rfl rfl (fun hq_9 => op_nilCheck lb (HasO.cnd tR hq_9) (fun e v h => by subst h; rfl)) <| jT (ov (PTR gb_5 (0 + 2))) rfl rfl rfl rfl (fun hq_10 => op_fieldAddr (off := 2) lb tf74_2 (HasO.cnd tR hq_10)) ?_
   rcases iteB_inv hx5 with ⟨hc12, hx5⟩ | ⟨hc12, hx5⟩
   · refine bI hx5 fun i_19 hv_i_19 hx5 => JL.run (.yes rfl (ltB rfl) rfl hc12) (op_indexAddrIF lb tr34 (HasO.cnd tR hc12) (HasO.cnd tR hc12) hv_i_19) <| lI hx5 fun v_20 hv_20 hx5 => JL.run (.yes rfl (ltB rfl) rfl hc12) (op_loadS (j := 0) lb tS29 tR rfl (Comp.at (Comp.trans (Comp.self (zq4 go_7) (regions_2, (own_3, (v_4, ((), ((), ((), ()))))))) (Comp.at' (Comp.inS (Comp.inS (Comp.inF (Comp.self (rV 16 (rU UInt64)) v_4) (lE rfl)))) (by rfl : _ = 2)) (lE rfl)) i_19.2 rfl) rfl hv_20) <| lI hx5 fun v_21 hv_21 hx5 => JL.run (.yes rfl (ltB rfl) rfl hc12) (op_cmpU lb (HasO.cnd tR hc12) tR (cs hv_21)) <| jc (op_pickT lb tR hc12 tR) <| JL.nil ?_
     try obtain rfl := so hx5
     exact JQ.join () (Imp.norm (js := [0, 0, 0]) rfl (.cons rfl (.cons rfl (.cons rfl (.cons rfl (.cons rfl .nil))))))
   refine jk rfl hc12 <| jk rfl hc12 <| jk rfl hc12 <| jc (op_pickF lb tR hc12 .cB) <| JL.nil ?_
   try obtain rfl := so hx5
   exact JQ.join () (Imp.norm (js := [0, 0, 0]) rfl (.cons rfl (.cons rfl (.cons rfl (.cons rfl (.cons rfl .nil))))))
 refine JC.exit <| JQ.outX ?_
 try obtain rfl := so hx
 try obtain rfl := hr _ rfl
 dsimp only at hq3
 refine JQ.outX <| JQ.here ?_
 try obtain rfl := so hq3
 exact JQ.joinK () () rfl (Imp.norm (js := [0, 0]) rfl .nil)

theorem sim_slices_Clonebyte_byte (k : Nat) (s_1 : (List UInt8)) (r : (List UInt8)) (hm : slices_Clonebyte_byte k s_1 = some r) : Sim Try.prog 48 [S (rL (rU UInt8)) s_1] [] (γ := Option Nat × Nat) (fun q => [cown q.1 (rU UInt8) r 0 q.2]) (fun q => .one (.val (HDR q.1 0 (List.length r) q.2))) := by
 unfold slices_Clonebyte_byte at hm
 refine Sim.of Try.func48 rfl rfl (lE rfl) (fun e0 w0 => ?_)
 refine JC.at ⟨[(0, ov (S (rL (rU UInt8)) s_1))], [], []⟩ <| jr <| jc (op_assign lb HasO.nilH) <| jn <| JC.seq <| jr <| jmv rfl rfl <| JL.consX rfl (op_isNil (neg := false) (ltB rfl) tu32 tR HasO.nilH) (fun q => ?_)
 obtain ⟨hb1, hb1_⟩ := q
 cases hb1
 · refine jn <| JC.condF tR rfl <| JC.skip <| JQ.then <| jr <| jx (op_buildO (r := (rU UInt8)) lb tu32 tz5 tZ5 rfl (lE rfl) .nil rfl) fun gb_2 => jmv rfl rfl <| bI hm fun x_3 hv_x_3 hm => jx (op_appendL (j := 0) lb tu32 tu32 rfl tB5 rfl (Nat.lt_of_lt_of_le Nat.zero_lt_one (lE rfl)) (Nat.lt_of_lt_of_le Nat.zero_lt_one (lE rfl))  rfl tR tR hv_x_3) (fun q => ?_)
   obtain ⟨go_4, gc_5⟩ := q
   refine jc (op_assign lb tR) <| jn <| JC.ret ?_
   obtain rfl := so hm
   exact JQ.done (js := [0]) (ss := [.val (HDR go_4 0 (List.length x_3) gc_5)]) (go_4, gc_5) (.inl rfl) (.nil rfl) rfl (.cons (.tmp rfl) .nil) rfl rfl rfl
 replace hm := nilK hm (show _ = (
       some ([] : (List UInt8))
       ) by simp [hb1_ rfl, subL, apL])
 refine jn <| JC.condT tR rfl <| jr <| jc (op_assign lb HasO.nilH) <| jn <| JC.ret <| JQ.outR ?_
 obtain rfl := so hm
 exact JQ.pre (Imp.nilown (rU UInt8)) <| JQ.done (js := [0]) (ss := [.val (HDR none 0 (List.length ([] : (List UInt8))) (0))]) (none, 0) (.inl rfl) (.nil rfl) rfl (.cons (.tmp rfl) .nil) rfl rfl rfl

theorem sim_slices_Cloneapi_Dest_api_Dest (k : Nat) (s_1 : (List api_Dest)) (r : (List api_Dest)) (hm : slices_Cloneapi_Dest_api_Dest k s_1 = some r) : Sim Try.prog 49 [S (rL r_api_Dest) s_1] [] (γ := Option Nat × Nat) (fun q => [cown q.1 r_api_Dest r 0 q.2]) (fun q => .one (.val (HDR q.1 0 (List.length r) q.2))) := by
 unfold slices_Cloneapi_Dest_api_Dest at hm
 refine Sim.of Try.func49 rfl rfl (lE rfl) (fun e0 w0 => ?_)
 refine JC.at ⟨[(0, ov (S (rL r_api_Dest) s_1))], [], []⟩ <| jr <| jc (op_assign lb HasO.nilH) <| jn <| JC.seq <| jr <| jmv rfl rfl <| JL.consX rfl (op_isNil (neg := false) (ltB rfl) tu35 tR HasO.nilH) (fun q => ?_)
 obtain ⟨hb1, hb1_⟩ := q
 cases hb1
 · refine jn <| JC.condF tR rfl <| JC.skip <| JQ.then <| jr <| jx (op_buildO (r := r_api_Dest) lb tu35 tz91 tZ91 rfl (lE rfl) .nil rfl) fun gb_2 => jmv rfl rfl <| bI hm fun x_3 hv_x_3 hm => jx (op_appendL (j := 0) lb tu35 tu35 rfl tB91 rfl (Nat.lt_of_lt_of_le Nat.zero_lt_one (lE rfl)) (Nat.lt_of_lt_of_le Nat.zero_lt_one (lE rfl))  rfl tR tR hv_x_3) (fun q => ?_)
   obtain ⟨go_4, gc_5⟩ := q
   refine jc (op_assign lb tR) <| jn <| JC.ret ?_
   obtain rfl := so hm
   exact JQ.done (js := [0]) (ss := [.val (HDR go_4 0 (List.length x_3) gc_5)]) (go_4, gc_5) (.inl rfl) (.nil rfl) rfl (.cons (.tmp rfl) .nil) rfl rfl rfl
 replace hm := nilK hm (show _ = (
       some ([] : (List api_Dest))
       ) by simp [hb1_ rfl, subL, apL])
 refine jn <| JC.condT tR rfl <| jr <| jc (op_assign lb HasO.nilH) <| jn <| JC.ret <| JQ.outR ?_
 obtain rfl := so hm
 exact JQ.pre (Imp.nilown r_api_Dest) <| JQ.done (js := [0]) (ss := [.val (HDR none 0 (List.length ([] : (List api_Dest))) (0))]) (none, 0) (.inl rfl) (.nil rfl) rfl (.cons (.tmp rfl) .nil) rfl rfl rfl

end Go.Proofs.Ytbmimaabgclhjaa
