/- Walks. -/
import Derived.Test.YtklnihlchhhhlaaGreatT
namespace Go.Proofs.YtklnihlchhhhlaaGreat
open Go Fw
set_option linter.unusedVariables false
set_option maxRecDepth 100000
set_option maxHeartbeats 4000000

theorem sim_ref11_Long (k : Nat) (l_1 : (List api_Item)) (r : Bool) (hm : ref11_Long k l_1 = some r) : Sim Tryz.prog 19 [S (rL r_api_Item) l_1] [] (γ := Unit) (fun q => []) (fun q => .one (.val (S rB r))) := by
 unfold ref11_Long at hm
 refine Sim.of Tryz.func19 rfl rfl (lE rfl) (fun e0 w0 => ?_)
 refine JC.at ⟨[(0, ov (S (rL r_api_Item) l_1))], [], []⟩ <| jr <| jc (op_assign lb .cB) <| jn <| jr <| jc (op_assign lb .cI) <| jn <| bI hm fun tv1 hx1 hq1 => JC.seqK (α := Unit) (γ := Unit) (stj := fun v q => ⟨[(0, ov (S (rL r_api_Item) l_1))], [], []⟩) (p := fun v => tv1 = (.inl v)) (fun v q hv => ?_) ?_
 · subst hv
   skip
   obtain _ := q
   dsimp only at hq1
   refine JC.at ⟨[(0, ov (S (rL r_api_Item) l_1))], [], []⟩ <| jr <| jmv rfl rfl <| jc (op_lenL lb tu23 (.tmp rfl)) <| lI hq1 fun v_16 hv_16 hq1 => jc (op_cmpI lb (.tmp rfl) .cI (cs hv_16)) <| jc (op_assign lb (.tmp rfl)) <| jn <| JC.ret ?_
   obtain rfl := so hq1
   exact jd (.val (S rB v_16)) rfl rfl rfl rfl rfl rfl
 refine jr <| jc (op_assign lb .cI) <| jn <| JC.block <| bI hx1 fun tv2 hL2 hq2 => JC.pre ?_ (JC.loop (γ := Unit) (stf := fun s q => ⟨[(0, ov (S (rL r_api_Item) l_1)), (3, ov (S (rI .i64) s.1)), (4, ov (S (rI .i64) s.2))], [], []⟩) (q := ()) hL2 ?_)
 · exact (Imp.norm (js := []) rfl (.cons rfl (.cons rfl (.cons rfl .nil))))
 intro s q x hx hr
 obtain ⟨n_2, i_3⟩ := s
 obtain _ := q
 change ref11_Long.b1 k l_1 n_2 i_3 = some x at hx
 unfold ref11_Long.b1 at hx
 refine JC.at ⟨[(0, ov (S (rL r_api_Item) l_1)), (3, ov (S (rI .i64) n_2)), (4, ov (S (rI .i64) i_3))], [], []⟩ <| JC.seq <| bI hx fun x_7 hx3 hq3 => JC.seqJ (γ := Unit) (stj := fun _ => ⟨[(0, ov (S (rL r_api_Item) l_1)), (3, ov (S (rI .i64) n_2)), (4, ov (S (rI .i64) i_3)), (12, ov (S rB x_7))], [], []⟩) (fun _ => ?_) ?_
 · refine jif (.tmp rfl) hq3 (fun hc7 hq3 => ?_) (fun hc7 hq3 => ?_)
   · refine JC.skip <| JQ.then <| JC.seq <| JC.block <| JC.seq <| bI hq3 fun v_8 hv_8 hq3 => lI hq3 fun v_9 hv_9 hq3 => lI hq3 fun v_10 hv_10 hq3 => bI hq3 fun v_11 hv_11 hq3 => lI hq3 fun v_12 hv_12 hq3 => ?_
     obtain ⟨v_13, hv_13, hq3⟩ := lt1_inv hq3
     refine JC.anyE (kl := [3]) (kk := 19) (base := [(0, ov (S (rL r_api_Item) l_1)), (3, ov (S (rI .i64) n_2)), (4, ov (S (rI .i64) i_3))])
         (fs := fun γ => [⟨some 15, ov (S (rI .i64) n_2)⟩, ⟨some 16, ov (S (rL r_api_Item) l_1)⟩, ⟨some 17, ov (S (rI .i64) i_3)⟩, ⟨some 18, ov (PT r_api_Item v_8)⟩, ⟨some 19, ov (PT r_api_Key v_8.Key)⟩, ⟨some 20, ov (PT rS v_8.Key.Topic)⟩, ⟨some 21, ov (S rS v_8.Key.Topic)⟩, ⟨some 22, ov (S (rI .i64) (List.length v_8.Key.Topic : Int))⟩, ⟨some 23, ov (S (rI .i64) v_9)⟩, ⟨some 24, ov (S (rI .i64) v_10)⟩, ⟨some 25, ov (S (rL r_api_Item) l_1)⟩, ⟨some 26, ov (S (rI .i64) i_3)⟩, ⟨some 27, ov (PT r_api_Item v_11)⟩, ⟨some 28, ov (PT r_api_Key v_11.Key)⟩, ⟨some 29, ov (PT rS v_11.Key.Device)⟩, ⟨some 30, ov (S rS v_11.Key.Device)⟩, ⟨some 31, ov (S (rI .i64) (List.length v_11.Key.Device : Int))⟩, ⟨some 32, ov (S (rI .i64) v_12)⟩, ⟨some 33, ov (S (rI .i64) v_13)⟩, ⟨some 3, ov (S (rI .i64) v_13)⟩])
         (rs := fun γ => [])
         (ds := [15, 16, 17, 18, 19, 20, 21, 22, 23, 24, 25, 26, 27, 28, 29, 30, 31, 32, 33, 3]) (bs := [0, 3, 4]) (afts := nn 20) (js := []) mixed (.cons rfl (.cons rfl (.cons rfl .nil))) (fun _ => rfl)
         (by
      refine db 1 3 <| db 2 0 <| db 3 4 <| dS 4 (fun γ ρ B hb hd => op_indexAddrLg lb tu23 tz62 (tl hd 1 16) (tl hd 2 17) hv_8) <| dS 5 (fun γ ρ B hb hd => op_fieldAddrP lb tf62_1 (tl hd 3 18) (comp_api_Item_Key v_8)) ?_
      refine dS 6 (fun γ ρ B hb hd => op_fieldAddrP lb tf60_0 (tl hd 4 19) (comp_api_Key_Topic v_8.Key)) <| dS 7 (fun γ ρ B hb hd => op_loadPSg lb tS9 rfl (tl hd 5 20) rfl) <| dS 8 (fun γ ρ B hb hd => op_lenS lb tu9 (tl hd 6 21)) <| dS 9 (fun γ ρ B hb hd => op_minI lb (tl hd 7 22) .cI hv_9) <| dS 10 (fun γ ρ B hb hd => op_arI lb (tl hd 0 15) (tl hd 8 23) (cs hv_10)) ?_
      refine db 11 0 <| db 12 4 <| dS 13 (fun γ ρ B hb hd => op_indexAddrLg lb tu23 tz62 (tl hd 10 25) (tl hd 11 26) hv_11) <| dS 14 (fun γ ρ B hb hd => op_fieldAddrP lb tf62_1 (tl hd 12 27) (comp_api_Item_Key v_11)) <| dS 15 (fun γ ρ B hb hd => op_fieldAddrP lb tf60_1 (tl hd 13 28) (comp_api_Key_Device v_11.Key)) ?_
      refine dS 16 (fun γ ρ B hb hd => op_loadPSg lb tS9 rfl (tl hd 14 29) rfl) <| dS 17 (fun γ ρ B hb hd => op_lenS lb tu9 (tl hd 15 30)) <| dS 18 (fun γ ρ B hb hd => op_minI lb (tl hd 16 31) .cI hv_12) <| dS 19 (fun γ ρ B hb hd => op_arI lb (tl hd 9 24) (tl hd 17 32) (cs hv_13)) <| dS 20 (fun γ ρ B hb hd => op_assign lb (tl hd 18 33)) ?_
      exact DSteps.nil)
         (by decide +kernel) (fun _ => rfl) rfl (fun _ => rfl) (fun _ => rfl) rfl (by decide) (by decide) (by decide +kernel) (fun _ d h => by simp at h; subst h; exact ⟨_, rfl, rfl⟩)
         (ρ' := fun γ => [(0, ov (S (rL r_api_Item) l_1)), (3, ov (S (rI .i64) v_13)), (4, ov (S (rI .i64) i_3))])
         (X' := fun γ => [])
         (fun γ ρ hb hd => (.cons (hb 0 _ rfl (by decide)) (.cons (hdq hd 19 3 rfl) (.cons (hb 4 _ rfl (by decide)) .nil)))) (fun _ => rfl) (fun γ => ?_)
     refine JQ.at ⟨[(0, ov (S (rL r_api_Item) l_1)), (3, ov (S (rI .i64) v_13)), (4, ov (S (rI .i64) i_3))], [], []⟩ <| JQ.then <| jr <| jmv rfl rfl <| lI hq3 fun v_14 hv_14 hq3 => jc (op_cmpI lb (.tmp rfl) .cI (cs hv_14)) <| jn <| jif (.tmp rfl) hq3 (fun hc8 hq3 => ?_) (fun hc8 hq3 => ?_)
     · refine jr <| jc (op_assign lb .cB) <| jn <| JC.ret <| JQ.outRB <| JQ.outR ?_
       try obtain rfl := so hq3
       try obtain rfl := hr _ rfl
       dsimp only at hq2
       refine JQ.outR <| JQ.outRB ?_
       try obtain rfl := so hq2
       dsimp only at hq1
       refine JQ.outR ?_
       obtain rfl := so hq1
       exact jd (.val (S rB true)) rfl rfl rfl rfl rfl rfl
     refine JC.skip <| JQ.outNB <| JQ.then <| JC.region <| jmv rfl rfl <| lI hq3 fun v_15 hv_15 hq3 => jc (op_arI lb (.tmp rfl) .cI (cs hv_15)) <| jc (op_assign lb (.tmp rfl)) <| JL.nil ?_
     try obtain rfl := so hq3
     exact JQ.next () rfl (Imp.norm (js := []) rfl (.cons rfl (.cons rfl (.cons rfl .nil))))
   refine JC.exit <| JQ.outX ?_
   try obtain rfl := so hq3
   try obtain rfl := hr _ rfl
   dsimp only at hq2
   refine JQ.outX <| JQ.here ?_
   try obtain rfl := so hq2
   exact JQ.joinK () () rfl (Imp.norm (js := []) rfl (.cons rfl .nil))
 refine JC.region <| jmv rfl rfl <| jmv rfl rfl <| jc (op_lenL lb tu23 (.tmp rfl)) <| lI hx3 fun v_4 hv_4 hx3 => jc (op_cmpI lb (.tmp rfl) (.tmp rfl) (cs hv_4)) <| jmv rfl rfl <| jT (ov (S (rI .i64) i_3)) rfl rfl rfl rfl (fun hq_4 => op_move lb (.tmp rfl)) <| lI hx3 fun v_5 hv_5 hx3 => jT (ov (S rB v_5)) rfl rfl rfl rfl (fun hq_5 => op_cmpI lb (HasO.cnd (.tmp rfl) hq_5) .cI (cs hv_5)) <| lI hx3 fun v_6 hv_6 hx3 => jc (op_pickCS lb (.tmp rfl) (fun hb6 => (HasO.cnd (.tmp rfl) hb6)) (fun hb6 => .cB) hv_6) <| JL.nil ?_
 try obtain rfl := so hx3
 exact JQ.join () (Imp.norm (js := []) rfl (.cons rfl (.cons rfl (.cons rfl (.cons rfl .nil)))))

theorem sim_ref09_Much (k : Nat) (e_1 : api_Event) (r : Bool) (hm : ref09_Much k e_1 = some r) : Sim Tryz.prog 26 [A r_api_Event e_1] [] (γ := Unit) (fun q => []) (fun q => .one (.val (S rB r))) := by
 unfold ref09_Much at hm
 refine Sim.of Tryz.func26 rfl rfl (lE rfl) (fun e0 w0 => ?_)
 refine JC.at ⟨[(0, ov (A r_api_Event e_1))], [], []⟩ <| jr <| jx (op_boxA lb (.tmp rfl)) fun gb_2 => jc (op_assign lb .cB) <| jn <| JC.seq <| bI hm fun x_8 hx1 hq1 => JC.seqJ (γ := Unit) (stj := fun _ => ⟨[(1, ov (PTR gb_2 0)), (20, ov (S rB x_8))], [cvar gb_2 r_api_Event e_1], []⟩) (fun _ => ?_) ?_
 · refine jif (.tmp rfl) hq1 (fun hc12 hq1 => ?_) (fun hc12 hq1 => ?_)
   · refine jr <| jc (op_assign lb .cB) <| jn <| JC.ret <| JQ.outR ?_
     obtain rfl := so hq1
     exact jd (.val (S rB true)) rfl rfl rfl rfl rfl rfl
   refine JC.skip <| JQ.then <| jr <| jc (op_assign lb .cI) <| jn <| bI hq1 fun tv13 hx13 hq13 => JC.seqK (α := Unit) (γ := Unit) (stj := fun v q => ⟨[], [], []⟩) (p := fun v => tv13 = (.inl v)) (fun v q hv => ?_) ?_
   · subst hv
     skip
     obtain _ := q
     dsimp only at hq13
     refine JC.at ⟨[], [], []⟩ <| jr <| jc (op_assign lb .cB) <| jn <| JC.ret ?_
     obtain rfl := so hq13
     exact jd (.val (S rB false)) rfl rfl rfl rfl rfl rfl
   refine jr <| jc (op_assign lb .cI) <| jn <| JC.block <| bI hx13 fun tv14 hL14 hq14 => JC.pre ?_ (JC.loop (γ := Unit) (stf := fun s q => ⟨[(1, ov (PTR gb_2 0)), (3, ov (S (rI .i64) s.1)), (4, ov (S (rI .i64) s.2))], [cvar gb_2 r_api_Event e_1], []⟩) (q := ()) hL14 ?_)
   · exact (Imp.norm (js := [0]) rfl (.cons rfl (.cons rfl (.cons rfl .nil))))
   intro s q x hx hr
   obtain ⟨n_9, i_10⟩ := s
   obtain _ := q
   change ref09_Much.b1 k e_1 n_9 i_10 = some x at hx
   unfold ref09_Much.b1 at hx
   refine JC.at ⟨[(1, ov (PTR gb_2 0)), (3, ov (S (rI .i64) n_9)), (4, ov (S (rI .i64) i_10))], [cvar gb_2 r_api_Event e_1], []⟩ <| JC.seq <| jr <| jmv rfl rfl <| jc (op_fieldAddr (off := 20) lb tf32_4 (.tmp rfl)) <| jc (op_loadS (j := 0) lb tS30 (.tmp rfl) rfl (cT (comp_api_Event_To e_1) rfl) rfl rfl) <| jc (op_lenL lb tu30 (.tmp rfl)) <| lI hx fun v_11 hv_11 hx => jc (op_cmpI lb (.tmp rfl) (.tmp rfl) (cs hv_11)) <| jn <| jif (.tmp rfl) hx (fun hc15 hx => ?_) (fun hc15 hx => ?_)
   · refine JC.skip <| JQ.then <| JC.seq <| JC.block <| jr <| jmv rfl rfl <| jc (op_fieldAddr (off := 20) lb tf32_4 (.tmp rfl)) <| jc (op_loadS (j := 0) lb tS30 (.tmp rfl) rfl (cT (comp_api_Event_To e_1) rfl) rfl rfl) <| jmv rfl rfl <| bI hx fun v_12 hv_12 hx => jc (op_indexAddrLg lb tu30 tz125 (.tmp rfl) (.tmp rfl) hv_12) <| jc (op_fieldAddrP lb tf125_1 (.tmp rfl) (comp_api_Dest_Device v_12)) <| jc (op_loadPSg lb tS9 rfl (.tmp rfl) rfl) <| JL.sub ⟨[(1, ov (PTR gb_2 0)), (3, ov (S (rI .i64) n_9)), (4, ov (S (rI .i64) i_10)), (28, ov (S (rI .i64) n_9)), (34, ov (S rS v_12.Device))], [cvar gb_2 r_api_Event e_1], []⟩ (.cons rfl (.cons rfl (.cons rfl (.cons rfl (.cons rfl .nil))))) rfl rfl <| jc (op_lenS lb tu9 (.tmp rfl)) <| lI hx fun v_13 hv_13 hx => jc (op_minI lb (.tmp rfl) .cI hv_13) ?_
     refine lI hx fun v_14 hv_14 hx => jc (op_arI lb (.tmp rfl) (.tmp rfl) (cs hv_14)) <| jc (op_assign lb (.tmp rfl)) <| jn <| jr <| jmv rfl rfl <| lI hx fun v_15 hv_15 hx => jc (op_cmpI lb (.tmp rfl) .cI (cs hv_15)) <| jn <| jif (.tmp rfl) hx (fun hc16 hx => ?_) (fun hc16 hx => ?_)
     · refine jr <| jc (op_assign lb .cB) <| jn <| JC.ret <| JQ.outRB <| JQ.outR ?_
       try obtain rfl := so hx
       try obtain rfl := hr _ rfl
       dsimp only at hq14
       refine JQ.outR <| JQ.outRB ?_
       try obtain rfl := so hq14
       dsimp only at hq13
       refine JQ.outR ?_
       obtain rfl := so hq13
       exact jd (.val (S rB true)) rfl rfl rfl rfl rfl rfl
     refine JC.skip <| JQ.outNB <| JQ.then <| JC.region <| jmv rfl rfl <| lI hx fun v_16 hv_16 hx => jc (op_arI lb (.tmp rfl) .cI (cs hv_16)) <| jc (op_assign lb (.tmp rfl)) <| JL.nil ?_
     try obtain rfl := so hx
     exact JQ.next () rfl (Imp.norm (js := [0]) rfl (.cons rfl (.cons rfl (.cons rfl .nil))))
   refine JC.exit <| JQ.outX ?_
   try obtain rfl := so hx
   try obtain rfl := hr _ rfl
   dsimp only at hq14
   refine JQ.outX <| JQ.here ?_
   try obtain rfl := so hq14
   exact JQ.joinK () () rfl (Imp.norm (js := []) rfl .nil)
 refine JC.region <| jc (op_fieldAddr (off := 2) lb tf32_1 (.tmp rfl)) <| jc (op_loadS (j := 0) lb tS9 (.tmp rfl) rfl (cT (comp_api_Event_Topic e_1) rfl) rfl rfl) <| jc (op_lenS lb tu9 (.tmp rfl)) <| lI hx1 fun v_3 hv_3 hx1 => jc (op_cmpI lb (.tmp rfl) .cI (cs hv_3)) <| jmv rfl rfl <| jF (ov (PTR gb_2 (0 + 3))) rfl rfl rfl rfl (fun hq_2 => op_fieldAddr (off := 3) lb tf32_2 (.tmp rfl)) <| jF (ov (S (rL (rU UInt8)) e_1.Payload)) rfl rfl rfl rfl (fun hq_3 => op_loadS (j := 0) lb tS27 (HasO.cnd (.tmp rfl) (notT (notF hq_3))) rfl (cT (comp_api_Event_Payload e_1) rfl) rfl rfl) <| jF (ov (S (rI .i64) (List.length e_1.Payload : Int))) rfl rfl rfl rfl (fun hq_4 => op_lenL lb tu27 (HasO.cnd (.tmp rfl) (notT (notF hq_4)))) <| JL.sub ⟨[(1, ov (PTR gb_2 0)), (9, ov (S rB v_3)), (12, bif (!v_3) then ov (S (rI .i64) (List.length e_1.Payload : Int)) else .one .und)], [cvar gb_2 r_api_Event e_1], []⟩ (.cons rfl (.cons rfl (.cons rfl .nil))) rfl rfl <| lI hx1 fun v_4 hv_4 hx1 => jF (ov (S rB v_4)) rfl rfl rfl rfl (fun hq_5 => op_cmpI lb (HasO.cnd (.tmp rfl) (notT (notF hq_5))) .cI (cs hv_4)) ?_
 refine lI hx1 fun v_5 hv_5 hx1 => jc (op_pickCS lb (.tmp rfl) (fun hb6 => .cB) (fun hb6 => (HasO.cnd (.tmp rfl) (notT hb6))) hv_5) <| jmv rfl rfl <| jF (ov (PTR gb_2 (0 + 20))) rfl rfl rfl rfl (fun hq_7 => op_fieldAddr (off := 20) lb tf32_4 (.tmp rfl)) <| jF (ov (S (rL r_api_Dest) e_1.To)) rfl rfl rfl rfl (fun hq_8 => op_loadS (j := 0) lb tS30 (HasO.cnd (.tmp rfl) (notT (notF hq_8))) rfl (cT (comp_api_Event_To e_1) rfl) rfl rfl) <| jF (ov (S (rI .i64) (List.length e_1.To : Int))) rfl rfl rfl rfl (fun hq_9 => op_lenL lb tu30 (HasO.cnd (.tmp rfl) (notT (notF hq_9)))) <| lI hx1 fun v_6 hv_6 hx1 => jF (ov (S rB v_6)) rfl rfl rfl rfl (fun hq_10 => op_cmpI lb (HasO.cnd (.tmp rfl) (notT (notF hq_10))) .cI (cs hv_6)) <| lI hx1 fun v_7 hv_7 hx1 => jc (op_pickCS lb (.tmp rfl) (fun hb11 => .cB) (fun hb11 => (HasO.cnd (.tmp rfl) (notT hb11))) hv_7) <| JL.nil ?_
 try obtain rfl := so hx1
 exact JQ.join () (Imp.norm (js := [0]) rfl (.cons rfl (.cons rfl .nil)))

theorem sim_ref11_Much (k : Nat) (f_1 : api_Frame) (r : Bool) (hm : ref11_Much k f_1 = some r) : Sim Tryz.prog 8 [A r_api_Frame f_1] [] (γ := Unit) (fun q => []) (fun q => .one (.val (S rB r))) := by
 unfold ref11_Much at hm
 refine Sim.of Tryz.func8 rfl rfl (lE rfl) (fun e0 w0 => ?_)
 refine JC.at ⟨[(0, ov (A r_api_Frame f_1))], [], []⟩ <| jr <| jx (op_boxA lb (.tmp rfl)) fun gb_2 => jc (op_assign lb .cB) <| jn <| bI hm fun x_14 hx1 hq1 => JC.seqJ (γ := Unit) (stj := fun _ => ⟨[(2, ov (S rB x_14))], [], []⟩) (fun _ => ?_) ?_
 · refine JC.ret ?_
   obtain rfl := so hq1
   exact jd (.val (S rB x_14)) rfl rfl rfl rfl rfl rfl
 refine JC.region <| jc (op_fieldAddr (off := 3) lb tf39_3 (.tmp rfl)) <| jc (op_loadS (j := 0) lb tS23 (.tmp rfl) rfl (cT (comp_api_Frame_Items f_1) rfl) rfl rfl) <| bI hx1 fun v_3 hv_3 hx1 => jx (op_call (js := []) ld cl19 (sim_ref11_Long k f_1.Items v_3 hv_3) .func (.cons (.tmp rfl) .nil) rfl) fun _ => jmv rfl rfl <| jF (ov (PTR gb_2 (0 + 4))) rfl rfl rfl rfl (fun hq_2 => op_fieldAddr (off := 4) lb tf39_4 (.tmp rfl)) <| jF (ov (A r_api_Event f_1.Event)) rfl rfl rfl rfl (fun hq_3 => op_loadA (j := 0) lb tA32 (HasO.cnd (.tmp rfl) (notT (notF hq_3))) rfl (cT (comp_api_Frame_Event f_1) rfl) rfl) <| bI hx1 fun v_4 hv_4 hx1 => jF (ov (S rB v_4)) rfl rfl rfl rfl (fun hq_4 => (op_call (js := []) ld cl26 (sim_ref09_Much k f_1.Event v_4 (ifT hv_4 hq_4)) .func (.cons (HasO.cnd (.tmp rfl) (notT (notF hq_4))) .nil) rfl).post (fun _ => Imp.refl)) ?_
 obtain ⟨v_5, hv_5, hx1⟩ := lt1_inv hx1
 refine jc (op_pickCS lb (.tmp rfl) (fun hb5 => .cB) (fun hb5 => (HasO.cnd (.tmp rfl) (notT hb5))) hv_5) <| JL.sub ⟨[(1, ov (PTR gb_2 0)), (2, ov (S rB false)), (10, ov (S rB v_5))], [cvar gb_2 r_api_Frame f_1], []⟩ (.cons rfl (.cons rfl (.cons rfl .nil))) rfl rfl <| jmv rfl rfl <| jF (ov (PTR gb_2 (0 + 57))) rfl rfl rfl rfl (fun hq_6 => op_fieldAddr (off := 57) lb tf39_7 (.tmp rfl)) <| jF (ov (S (rL r_api_Dot) f_1.Extra)) rfl rfl rfl rfl (fun hq_7 => op_loadS (j := 0) lb tS33 (HasO.cnd (.tmp rfl) (notT (notF hq_7))) rfl (cT (comp_api_Frame_Extra f_1) rfl) rfl rfl) <| jF (ov (S (rI .i64) (List.length f_1.Extra : Int))) rfl rfl rfl rfl (fun hq_8 => op_lenL lb tu33 (HasO.cnd (.tmp rfl) (notT (notF hq_8)))) <| lI hx1 fun v_6 hv_6 hx1 => jF (ov (S rB v_6)) rfl rfl rfl rfl (fun hq_9 => op_cmpI lb (HasO.cnd (.tmp rfl) (notT (notF hq_9))) .cI (cs hv_6)) ?_
 obtain ⟨v_7, hv_7, hx1⟩ := lt1_inv hx1
 refine jc (op_pickCS lb (.tmp rfl) (fun hb10 => .cB) (fun hb10 => (HasO.cnd (.tmp rfl) (notT hb10))) hv_7) <| jmv rfl rfl <| jF (ov (PTR gb_2 (0 + 58))) rfl rfl rfl rfl (fun hq_11 => op_fieldAddr (off := 58) lb tf39_8 (.tmp rfl)) <| jF (ov (S (rL r_api_Dot) f_1.Live)) rfl rfl rfl rfl (fun hq_12 => op_loadS (j := 0) lb tS33 (HasO.cnd (.tmp rfl) (notT (notF hq_12))) rfl (cT (comp_api_Frame_Live f_1) rfl) rfl rfl) <| jF (ov (S (rI .i64) (List.length f_1.Live : Int))) rfl rfl rfl rfl (fun hq_13 => op_lenL lb tu33 (HasO.cnd (.tmp rfl) (notT (notF hq_13)))) <| lI hx1 fun v_8 hv_8 hx1 => jF (ov (S rB v_8)) rfl rfl rfl rfl (fun hq_14 => op_cmpI lb (HasO.cnd (.tmp rfl) (notT (notF hq_14))) .cI (cs hv_8)) <| lI hx1 fun v_9 hv_9 hx1 => jc (op_pickCS lb (.tmp rfl) (fun hb15 => .cB) (fun hb15 => (HasO.cnd (.tmp rfl) (notT hb15))) hv_9) <| JL.sub ⟨[(1, ov (PTR gb_2 0)), (2, ov (S rB false)), (22, ov (S rB v_9))], [cvar gb_2 r_api_Frame f_1], []⟩ (.cons rfl (.cons rfl (.cons rfl .nil))) rfl rfl ?_
 refine jmv rfl rfl <| jF (ov (PTR gb_2 (0 + 91))) rfl rfl rfl rfl (fun hq_16 => op_fieldAddr (off := 91) lb tf39_10 (.tmp rfl)) <| jF (ov (S (rL (rV 32 (rU UInt8))) f_1.Leaves)) rfl rfl rfl rfl (fun hq_17 => op_loadS (j := 0) lb tS36 (HasO.cnd (.tmp rfl) (notT (notF hq_17))) rfl (cT (comp_api_Frame_Leaves f_1) rfl) rfl rfl) <| jF (ov (S (rI .i64) (List.length f_1.Leaves : Int))) rfl rfl rfl rfl (fun hq_18 => op_lenL lb tu36 (HasO.cnd (.tmp rfl) (notT (notF hq_18)))) <| lI hx1 fun v_10 hv_10 hx1 => jF (ov (S rB v_10)) rfl rfl rfl rfl (fun hq_19 => op_cmpI lb (HasO.cnd (.tmp rfl) (notT (notF hq_19))) .cI (cs hv_10)) <| lI hx1 fun v_11 hv_11 hx1 => jc (op_pickCS lb (.tmp rfl) (fun hb20 => .cB) (fun hb20 => (HasO.cnd (.tmp rfl) (notT hb20))) hv_11) <| jmv rfl rfl <| jF (ov (PTR gb_2 (0 + 92))) rfl rfl rfl rfl (fun hq_21 => op_fieldAddr (off := 92) lb tf39_11 (.tmp rfl)) ?_
 refine jF (ov (S (rL (rI .i64)) f_1.Buckets)) rfl rfl rfl rfl (fun hq_22 => op_loadS (j := 0) lb tS37 (HasO.cnd (.tmp rfl) (notT (notF hq_22))) rfl (cT (comp_api_Frame_Buckets f_1) rfl) rfl rfl) <| jF (ov (S (rI .i64) (List.length f_1.Buckets : Int))) rfl rfl rfl rfl (fun hq_23 => op_lenL lb tu37 (HasO.cnd (.tmp rfl) (notT (notF hq_23)))) <| lI hx1 fun v_12 hv_12 hx1 => jF (ov (S rB v_12)) rfl rfl rfl rfl (fun hq_24 => op_cmpI lb (HasO.cnd (.tmp rfl) (notT (notF hq_24))) .cI (cs hv_12)) <| lI hx1 fun v_13 hv_13 hx1 => jc (op_pickCS lb (.tmp rfl) (fun hb25 => .cB) (fun hb25 => (HasO.cnd (.tmp rfl) (notT hb25))) hv_13) <| JL.nrm ⟨[(2, ov (S rB false)), (34, ov (S rB v_13))], [], []⟩ [] rfl (.cons rfl (.cons rfl .nil)) rfl <| jc (op_assign lb (.tmp rfl)) <| JL.nil ?_
 try obtain rfl := so hx1
 exact jo rfl rfl rfl

theorem sim_frame_bare (k : Nat) (t_1 : api_Frame) (r : api_Frame) (hm : frame_bare k t_1 = some r) : Sim Tryz.prog 28 [A r_api_Frame t_1] [] (γ := Unit) (fun q => []) (fun q => .one (.val (A r_api_Frame r))) := by
 unfold frame_bare at hm
 refine Sim.of Tryz.func28 rfl rfl (lE rfl) (fun e0 w0 => ?_)
 refine JC.at ⟨[(0, ov (A r_api_Frame t_1))], [], []⟩ <| jr <| jx (op_boxA lb (.tmp rfl)) fun gb_2 => jx (op_alloc lb tZ39 zr39) fun gb_3 => jn <| jr <| jc (op_fieldAddr (off := 0) lb tf39_0 (.tmp rfl)) <| jc (op_loadS (j := 0) lb tS22 (.tmp rfl) rfl (cT (comp_api_Frame_Kind t_1) rfl) rfl rfl) <| jc (op_fieldAddr (off := 1) lb tf39_1 (.tmp rfl)) <| jc (op_loadS (j := 0) lb tS3 (.tmp rfl) rfl (cT (comp_api_Frame_From t_1) rfl) rfl rfl) <| jc (op_fieldAddr (off := 2) lb tf39_2 (.tmp rfl)) <| jc (op_loadS (j := 0) lb tS3 (.tmp rfl) rfl (cT (comp_api_Frame_To t_1) rfl) rfl rfl) <| JL.sub ⟨[(1, ov (PTR gb_2 0)), (2, ov (PTR gb_3 0)), (5, ov (S (rI .i64) t_1.Kind)), (7, ov (S (rI .i64) t_1.From)), (9, ov (S (rI .i64) t_1.To))], [cvar gb_2 r_api_Frame t_1, cvar gb_3 zq0 zq1], []⟩ (.cons rfl (.cons rfl (.cons rfl (.cons rfl (.cons rfl .nil))))) rfl rfl <| jc (op_build lb tZ39 zr39 tp39 (.S (off := 0) rfl (.tmp rfl) rfl ((UpdR.fst (UpdR.self (by rfl))).at (by rfl)) (.S (off := 1) rfl (.tmp rfl) rfl ((UpdR.snd (UpdR.fst (UpdR.self (by rfl)))).at (by rfl)) (.S (off := 2) rfl (.tmp rfl) rfl ((UpdR.snd (UpdR.snd (UpdR.fst (UpdR.self (by rfl))))).at (by rfl)) .nil))) rfl) <| jx (op_alloc lb tZ39 zr39) (fun gb_4 => ?_)
 refine jc (op_storeA (j := 2) tA39 (.tmp rfl) (.tmp rfl) rfl (UpdR.self (by rfl)) rfl) <| jn <| bI hm fun x_12 hx1 hq1 => JC.seqJ (γ := Unit) (stj := fun _ => ⟨[(2, ov (PTR gb_3 0)), (3, ov (PTR gb_4 0))], [cvar gb_3 zq0 zq1, cvar gb_4 r_api_Frame x_12], []⟩) (fun _ => ?_) ?_
 · refine jr <| jc (op_loadA (j := 1) lb tA39 (.tmp rfl) rfl (Comp.self r_api_Frame x_12) rfl) <| jc (op_storeA (j := 0) tA39 (.tmp rfl) (.tmp rfl) rfl (UpdR.self (by rfl)) rfl) <| jn <| JC.ret ?_
   obtain rfl := so hq1
   exact JQ.done (js := []) (ss := [.val (A r_api_Frame x_12)]) () (.inl rfl) (.nil rfl) rfl (.cons (.cellA (j := 0) tA39 rfl rfl) .nil) rfl rfl rfl
 refine jr <| jc (op_fieldAddr (off := 0) lb tf39_0 (.tmp rfl)) <| jc (op_loadS (j := 0) lb tS22 (.tmp rfl) rfl (cT (comp_api_Frame_Kind t_1) rfl) rfl rfl) <| jn <| JC.block <| jr <| lI hx1 fun v_5 hv_5 hx1 => jc (op_cmpI lb (.tmp rfl) .cI (cs hv_5)) <| jc (op_assign lb (.tmp rfl)) <| jn <| jif (.tmp rfl) hx1 (fun hc2 hx1 => ?_) (fun hc2 hx1 => ?_)
 · refine JC.region <| jc (op_fieldAddr (off := 3) lb tf39_3 (.tmp rfl)) <| JL.sub ⟨[(2, ov (PTR gb_3 0)), (3, ov (PTR gb_4 0)), (15, ov (PTR gb_2 (0 + 3)))], [cvar gb_2 r_api_Frame t_1, cvar gb_3 zq0 zq1, cvar gb_4 zq0 (zq2 t_1)], []⟩ (.cons rfl (.cons rfl (.cons rfl .nil))) rfl rfl <| jc (op_loadS (j := 0) lb tS23 (.tmp rfl) rfl (cT (comp_api_Frame_Items t_1) rfl) rfl rfl) <| jc (op_fieldAddr (off := 3) lb tf39_3 (.tmp rfl)) <| jc (op_storeS (j := 2) tS23 (.tmp rfl) (.tmp rfl) rfl rfl ((UpdR.snd (UpdR.snd (UpdR.snd (UpdR.fst (UpdR.self (by rfl)))))).at (by change (1 + (1 + (1 + 0))) = (0 + 3); omega)) rfl) <| JL.nil <| JQ.outNB ?_
   try obtain rfl := so hx1
   exact JQ.pre (Imp.var (j := 2) (q := r_api_Frame) (y := (api_Frame.mk t_1.Kind t_1.From t_1.To t_1.Items (api_Event.mk (api_Dot.mk (0 : Int) (0 : UInt64)) ([] : (List UInt8)) ([] : (List UInt8)) (Vector.replicate 16 (0 : UInt64)) ([] : (List api_Dest))) (Vector.replicate 16 (0 : UInt64)) (Vector.replicate 16 (0 : UInt64)) ([] : (List api_Dot)) ([] : (List api_Dot)) (Vector.replicate 32 (0 : UInt8)) ([] : (List (Vector UInt8 32))) ([] : (List Int)) false)) rfl (Wk.st (Wk.pair Wk.refl (Wk.pair Wk.refl (Wk.pair Wk.refl (Wk.pair Wk.refl (Wk.pair (Wk.st (Wk.pair Wk.refl (Wk.pair Wk.refl (Wk.pair Wk.nil (Wk.pair Wk.refl (Wk.pair Wk.nil Wk.refl)))))) (Wk.pair Wk.refl (Wk.pair Wk.refl (Wk.pair Wk.nil (Wk.pair Wk.nil (Wk.pair Wk.refl (Wk.pair Wk.nil (Wk.pair Wk.nil (Wk.pair Wk.refl Wk.refl))))))))))))))) <| JQ.join () (Imp.norm (js := [1, 1]) rfl (.cons rfl (.cons rfl .nil)))
 refine jr <| lI hx1 fun v_6 hv_6 hx1 => jc (op_cmpI lb (.tmp rfl) .cI (cs hv_6)) <| JL.sub ⟨[(1, ov (PTR gb_2 0)), (2, ov (PTR gb_3 0)), (3, ov (PTR gb_4 0)), (12, ov (S (rI .i64) t_1.Kind)), (19, ov (S rB v_6))], [cvar gb_2 r_api_Frame t_1, cvar gb_3 zq0 zq1, cvar gb_4 zq0 (zq2 t_1)], []⟩ (.cons rfl (.cons rfl (.cons rfl (.cons rfl (.cons rfl .nil))))) rfl rfl <| jc (op_assign lb (.tmp rfl)) <| jn <| jif (.tmp rfl) hx1 (fun hc3 hx1 => ?_) (fun hc3 hx1 => ?_)
 · refine JC.region <| jc (op_fieldAddr (off := 4) lb tf39_4 (.tmp rfl)) <| jc (op_loadA (j := 0) lb tA32 (.tmp rfl) rfl (cT (comp_api_Frame_Event t_1) rfl) rfl) <| jc (op_fieldAddr (off := 4) lb tf39_4 (.tmp rfl)) <| jc (op_storeA (j := 2) tA32 (.tmp rfl) (.tmp rfl) rfl ((UpdR.snd (UpdR.snd (UpdR.snd (UpdR.snd (UpdR.fst (UpdR.self (by rfl))))))).at (by change (1 + (1 + (1 + (1 + 0)))) = (0 + 4); omega)) rfl) <| JL.nil <| JQ.outNB ?_
   try obtain rfl := so hx1
   exact JQ.pre (Imp.var (j := 2) (q := r_api_Frame) (y := (api_Frame.mk t_1.Kind t_1.From t_1.To ([] : (List api_Item)) t_1.Event (Vector.replicate 16 (0 : UInt64)) (Vector.replicate 16 (0 : UInt64)) ([] : (List api_Dot)) ([] : (List api_Dot)) (Vector.replicate 32 (0 : UInt8)) ([] : (List (Vector UInt8 32))) ([] : (List Int)) false)) rfl (Wk.st (Wk.pair Wk.refl (Wk.pair Wk.refl (Wk.pair Wk.refl (Wk.pair Wk.nil (Wk.pair Wk.refl (Wk.pair Wk.refl (Wk.pair Wk.refl (Wk.pair Wk.nil (Wk.pair Wk.nil (Wk.pair Wk.refl (Wk.pair Wk.nil (Wk.pair Wk.nil (Wk.pair Wk.refl Wk.refl))))))))))))))) <| JQ.join () (Imp.norm (js := [1, 1]) rfl (.cons rfl (.cons rfl .nil)))
 refine jr <| lI hx1 fun v_7 hv_7 hx1 => jc (op_cmpI lb (.tmp rfl) .cI (cs hv_7)) <| jc (op_assign lb (.tmp rfl)) <| jn <| jif (.tmp rfl) hx1 (fun hc4 hx1 => ?_) (fun hc4 hx1 => ?_)
 · refine JC.region <| jc (op_fieldAddr (off := 25) lb tf39_5 (.tmp rfl)) <| jc (op_loadA (j := 0) lb tA29 (.tmp rfl) rfl (cT (comp_api_Frame_Past t_1) rfl) rfl) <| jc (op_fieldAddr (off := 25) lb tf39_5 (.tmp rfl)) <| jc (op_storeA (j := 2) tA29 (.tmp rfl) (.tmp rfl) rfl ((UpdR.snd (UpdR.snd (UpdR.snd (UpdR.snd (UpdR.snd (UpdR.fst (UpdR.self (by rfl)))))))).at (by change (1 + (1 + (1 + (1 + (21 + 0))))) = (0 + 25); omega)) rfl) <| JL.nil <| JQ.outNB ?_
   try obtain rfl := so hx1
   exact JQ.pre (Imp.var (j := 2) (q := r_api_Frame) (y := (api_Frame.mk t_1.Kind t_1.From t_1.To ([] : (List api_Item)) (api_Event.mk (api_Dot.mk (0 : Int) (0 : UInt64)) ([] : (List UInt8)) ([] : (List UInt8)) (Vector.replicate 16 (0 : UInt64)) ([] : (List api_Dest))) t_1.Past (Vector.replicate 16 (0 : UInt64)) ([] : (List api_Dot)) ([] : (List api_Dot)) (Vector.replicate 32 (0 : UInt8)) ([] : (List (Vector UInt8 32))) ([] : (List Int)) false)) rfl (Wk.st (Wk.pair Wk.refl (Wk.pair Wk.refl (Wk.pair Wk.refl (Wk.pair Wk.nil (Wk.pair (Wk.st (Wk.pair Wk.refl (Wk.pair Wk.refl (Wk.pair Wk.nil (Wk.pair Wk.refl (Wk.pair Wk.nil Wk.refl)))))) (Wk.pair Wk.refl (Wk.pair Wk.refl (Wk.pair Wk.nil (Wk.pair Wk.nil (Wk.pair Wk.refl (Wk.pair Wk.nil (Wk.pair Wk.nil (Wk.pair Wk.refl Wk.refl))))))))))))))) <| JQ.join () (Imp.norm (js := [1, 1]) rfl (.cons rfl (.cons rfl .nil)))
 refine jr <| lI hx1 fun v_8 hv_8 hx1 => jc (op_cmpI lb (.tmp rfl) .cI (cs hv_8)) <| jc (op_assign lb (.tmp rfl)) <| jn <| jif (.tmp rfl) hx1 (fun hc5 hx1 => ?_) (fun hc5 hx1 => ?_)
 · refine JC.anyF (base := [(1, ov (PTR gb_2 0)), (2, ov (PTR gb_3 0)), (3, ov (PTR gb_4 0))])
       (fs := fun γ => [⟨some 30, ov (PTR gb_2 (0 + 41))⟩, ⟨some 31, ov (A (rV 16 (rU UInt64)) t_1.Seen)⟩, ⟨some 32, ov (PTR gb_2 (0 + 57))⟩, ⟨some 33, ov (S (rL r_api_Dot) t_1.Extra)⟩, ⟨some 34, ov (PTR gb_2 (0 + 58))⟩, ⟨some 35, ov (S (rL r_api_Dot) t_1.Live)⟩, ⟨some 36, ov (PTR gb_4 (0 + 41))⟩, ⟨none, .one .any⟩, ⟨some 37, ov (PTR gb_4 (0 + 57))⟩, ⟨none, .one .any⟩, ⟨some 38, ov (PTR gb_4 (0 + 58))⟩, ⟨none, .one .any⟩])
       (rs := fun γ => [⟨cvar gb_2 r_api_Frame t_1, none, none, [1, 3, 5]⟩, ⟨cvar gb_3 zq0 zq1, none, none, []⟩, ⟨cvar gb_4 zq0 (zq2 t_1), none, (some 7), []⟩, ⟨cvar gb_4 zq0 (zq3 t_1), (some 7), (some 9), []⟩, ⟨cvar gb_4 zq4 (zq5 t_1), (some 9), (some 11), []⟩, ⟨cvar gb_4 zq6 (zq7 t_1), (some 11), none, []⟩])
       (afts := nn 12) (js := [0, 0, 0]) mixed (.cons rfl (.cons rfl (.cons rfl .nil))) (fun _ => rfl)
       (by
      refine dS 1 (fun γ ρ B hb hd => op_fieldAddr (off := 41) lb tf39_6 (.tmp (hb 1 _ rfl))) <| dR 2 (fun γ ρ B hb hd => OpStep.lk ⟨ρ, (cvar gb_2 r_api_Frame t_1) :: B, _⟩ (op_loadA (j := 0) lb tA29 (tl hd 0 30) rfl (cT (comp_api_Frame_Seen t_1) rfl) rfl)) <| dS 3 (fun γ ρ B hb hd => op_fieldAddr (off := 57) lb tf39_7 (.tmp (hb 1 _ rfl))) <| dR 4 (fun γ ρ B hb hd => OpStep.lk ⟨ρ, (cvar gb_2 r_api_Frame t_1) :: B, _⟩ (op_loadS (j := 0) lb tS33 (tl hd 2 32) rfl (cT (comp_api_Frame_Extra t_1) rfl) rfl rfl)) <| dS 5 (fun γ ρ B hb hd => op_fieldAddr (off := 58) lb tf39_8 (.tmp (hb 1 _ rfl))) ?_
      refine dR 6 (fun γ ρ B hb hd => OpStep.lk ⟨ρ, (cvar gb_2 r_api_Frame t_1) :: B, _⟩ (op_loadS (j := 0) lb tS33 (tl hd 4 34) rfl (cT (comp_api_Frame_Live t_1) rfl) rfl rfl)) <| dS 7 (fun γ ρ B hb hd => op_fieldAddr (off := 41) lb tf39_6 (.tmp (hb 3 _ rfl))) <| dR 8 (fun γ ρ B hb hd => OpStep.at ⟨ρ, (cvar gb_4 zq0 (zq2 t_1)) :: B, _⟩ (setO ⟨ρ, (cvar gb_4 zq0 (zq3 t_1)) :: B, _⟩ _ _) (op_storeA (j := 0) tA29 (tl hd 6 36) (tl hd 1 31) rfl ((UpdR.snd (UpdR.snd (UpdR.snd (UpdR.snd (UpdR.snd (UpdR.snd (UpdR.fst (UpdR.self (by rfl))))))))).at (by change (1 + (1 + (1 + (1 + (21 + (16 + 0)))))) = (0 + 41); omega)) rfl)) <| dS 9 (fun γ ρ B hb hd => op_fieldAddr (off := 57) lb tf39_7 (.tmp (hb 3 _ rfl))) <| dR 10 (fun γ ρ B hb hd => OpStep.at ⟨ρ, (cvar gb_4 zq0 (zq3 t_1)) :: B, _⟩ (setO ⟨ρ, (cvar gb_4 zq4 (zq5 t_1)) :: B, _⟩ _ _) (op_storeS (j := 0) tS33 (tl hd 8 37) (tl hd 3 33) rfl rfl ((UpdR.snd (UpdR.snd (UpdR.snd (UpdR.snd (UpdR.snd (UpdR.snd (UpdR.snd (UpdR.fst (UpdR.self (by rfl)))))))))).at (by change (1 + (1 + (1 + (1 + (21 + (16 + (16 + 0))))))) = (0 + 57); omega)) rfl)) ?_
      refine dS 11 (fun γ ρ B hb hd => op_fieldAddr (off := 58) lb tf39_8 (.tmp (hb 3 _ rfl))) <| dR 12 (fun γ ρ B hb hd => OpStep.at ⟨ρ, (cvar gb_4 zq4 (zq5 t_1)) :: B, _⟩ (setO ⟨ρ, (cvar gb_4 zq6 (zq7 t_1)) :: B, _⟩ _ _) (op_storeS (j := 0) tS33 (tl hd 10 38) (tl hd 5 35) rfl rfl ((UpdR.snd (UpdR.snd (UpdR.snd (UpdR.snd (UpdR.snd (UpdR.snd (UpdR.snd (UpdR.snd (UpdR.fst (UpdR.self (by rfl))))))))))).at (by change (1 + (1 + (1 + (1 + (21 + (16 + (16 + (1 + 0)))))))) = (0 + 58); omega)) rfl)) ?_
      exact DSteps.nil)
       (by decide +kernel) (fun _ => rfl) (fun _ => rfl) (fun _ => rfl) rfl
       (ρ' := fun γ => [(2, ov (PTR gb_3 0)), (3, ov (PTR gb_4 0))])
       (X' := fun γ => [cvar gb_2 r_api_Frame t_1, cvar gb_3 zq0 zq1, cvar gb_4 zq6 (zq7 t_1)])
       (fun γ ρ hb hd => (.cons (hb 2 _ rfl) (.cons (hb 3 _ rfl) .nil))) (fun _ => rfl) (fun γ => ?_)
   refine JQ.at ⟨[(2, ov (PTR gb_3 0)), (3, ov (PTR gb_4 0))], [cvar gb_2 r_api_Frame t_1, cvar gb_3 zq0 zq1, cvar gb_4 zq6 (zq7 t_1)], []⟩ <| JQ.outNB ?_
   try obtain rfl := so hx1
   exact JQ.pre (Imp.var (j := 2) (q := r_api_Frame) (y := (api_Frame.mk t_1.Kind t_1.From t_1.To ([] : (List api_Item)) (api_Event.mk (api_Dot.mk (0 : Int) (0 : UInt64)) ([] : (List UInt8)) ([] : (List UInt8)) (Vector.replicate 16 (0 : UInt64)) ([] : (List api_Dest))) (Vector.replicate 16 (0 : UInt64)) t_1.Seen t_1.Extra t_1.Live (Vector.replicate 32 (0 : UInt8)) ([] : (List (Vector UInt8 32))) ([] : (List Int)) false)) rfl (Wk.st (Wk.pair Wk.refl (Wk.pair Wk.refl (Wk.pair Wk.refl (Wk.pair Wk.nil (Wk.pair (Wk.st (Wk.pair Wk.refl (Wk.pair Wk.refl (Wk.pair Wk.nil (Wk.pair Wk.refl (Wk.pair Wk.nil Wk.refl)))))) (Wk.pair Wk.refl (Wk.pair Wk.refl (Wk.pair Wk.refl (Wk.pair Wk.refl (Wk.pair Wk.refl (Wk.pair Wk.nil (Wk.pair Wk.nil (Wk.pair Wk.refl Wk.refl))))))))))))))) <| JQ.join () (Imp.norm (js := [1, 1]) rfl (.cons rfl (.cons rfl .nil)))
 refine jr <| lI hx1 fun v_9 hv_9 hx1 => jc (op_cmpI lb (.tmp rfl) .cI (cs hv_9)) <| jc (op_assign lb (.tmp rfl)) <| jn <| jif (.tmp rfl) hx1 (fun hc6 hx1 => ?_) (fun hc6 hx1 => ?_)
 · refine JC.region <| jc (op_fieldAddr (off := 59) lb tf39_9 (.tmp rfl)) <| jc (op_loadA (j := 0) lb tA35 (.tmp rfl) rfl (cT (comp_api_Frame_Hash t_1) rfl) rfl) <| jc (op_fieldAddr (off := 59) lb tf39_9 (.tmp rfl)) <| jc (op_storeA (j := 2) tA35 (.tmp rfl) (.tmp rfl) rfl ((UpdR.snd (UpdR.snd (UpdR.snd (UpdR.snd (UpdR.snd (UpdR.snd (UpdR.snd (UpdR.snd (UpdR.snd (UpdR.fst (UpdR.self (by rfl)))))))))))).at (by change (1 + (1 + (1 + (1 + (21 + (16 + (16 + (1 + (1 + 0))))))))) = (0 + 59); omega)) rfl) <| JL.nrm ⟨[(2, ov (PTR gb_3 0)), (3, ov (PTR gb_4 0))], [cvar gb_3 zq0 zq1, cvar gb_4 zq0 (zq8 t_1)], []⟩ [1, 1] rfl (.cons rfl (.cons rfl .nil)) rfl <| JL.nil <| JQ.outNB ?_
   try obtain rfl := so hx1
   exact JQ.pre (Imp.var (j := 1) (q := r_api_Frame) (y := (api_Frame.mk t_1.Kind t_1.From t_1.To ([] : (List api_Item)) (api_Event.mk (api_Dot.mk (0 : Int) (0 : UInt64)) ([] : (List UInt8)) ([] : (List UInt8)) (Vector.replicate 16 (0 : UInt64)) ([] : (List api_Dest))) (Vector.replicate 16 (0 : UInt64)) (Vector.replicate 16 (0 : UInt64)) ([] : (List api_Dot)) ([] : (List api_Dot)) t_1.Hash ([] : (List (Vector UInt8 32))) ([] : (List Int)) false)) rfl (Wk.st (Wk.pair Wk.refl (Wk.pair Wk.refl (Wk.pair Wk.refl (Wk.pair Wk.nil (Wk.pair (Wk.st (Wk.pair Wk.refl (Wk.pair Wk.refl (Wk.pair Wk.nil (Wk.pair Wk.refl (Wk.pair Wk.nil Wk.refl)))))) (Wk.pair Wk.refl (Wk.pair Wk.refl (Wk.pair Wk.nil (Wk.pair Wk.nil (Wk.pair Wk.refl (Wk.pair Wk.nil (Wk.pair Wk.nil (Wk.pair Wk.refl Wk.refl))))))))))))))) <| JQ.join () (Imp.norm (js := [0, 0]) rfl (.cons rfl (.cons rfl .nil)))
 refine jr <| lI hx1 fun v_10 hv_10 hx1 => jc (op_cmpI lb (.tmp rfl) .cI (cs hv_10)) <| jc (op_assign lb (.tmp rfl)) <| jn <| jif (.tmp rfl) hx1 (fun hc7 hx1 => ?_) (fun hc7 hx1 => ?_)
 · refine JC.region <| jc (op_fieldAddr (off := 91) lb tf39_10 (.tmp rfl)) <| jc (op_loadS (j := 0) lb tS36 (.tmp rfl) rfl (cT (comp_api_Frame_Leaves t_1) rfl) rfl rfl) <| jc (op_fieldAddr (off := 91) lb tf39_10 (.tmp rfl)) <| JL.nrm ⟨[(2, ov (PTR gb_3 0)), (3, ov (PTR gb_4 0)), (47, ov (S (rL (rV 32 (rU UInt8))) t_1.Leaves)), (48, ov (PTR gb_4 (0 + 91)))], [cvar gb_3 zq0 zq1, cvar gb_4 zq0 (zq2 t_1)], []⟩ [1, 1] rfl (.cons rfl (.cons rfl (.cons rfl (.cons rfl .nil)))) rfl <| jc (op_storeS (j := 1) tS36 (.tmp rfl) (.tmp rfl) rfl rfl ((UpdR.snd (UpdR.snd (UpdR.snd (UpdR.snd (UpdR.snd (UpdR.snd (UpdR.snd (UpdR.snd (UpdR.snd (UpdR.snd (UpdR.fst (UpdR.self (by rfl))))))))))))).at (by change (1 + (1 + (1 + (1 + (21 + (16 + (16 + (1 + (1 + (32 + 0)))))))))) = (0 + 91); omega)) rfl) <| JL.nil <| JQ.outNB ?_
   try obtain rfl := so hx1
   exact JQ.pre (Imp.var (j := 1) (q := r_api_Frame) (y := (api_Frame.mk t_1.Kind t_1.From t_1.To ([] : (List api_Item)) (api_Event.mk (api_Dot.mk (0 : Int) (0 : UInt64)) ([] : (List UInt8)) ([] : (List UInt8)) (Vector.replicate 16 (0 : UInt64)) ([] : (List api_Dest))) (Vector.replicate 16 (0 : UInt64)) (Vector.replicate 16 (0 : UInt64)) ([] : (List api_Dot)) ([] : (List api_Dot)) (Vector.replicate 32 (0 : UInt8)) t_1.Leaves ([] : (List Int)) false)) rfl (Wk.st (Wk.pair Wk.refl (Wk.pair Wk.refl (Wk.pair Wk.refl (Wk.pair Wk.nil (Wk.pair (Wk.st (Wk.pair Wk.refl (Wk.pair Wk.refl (Wk.pair Wk.nil (Wk.pair Wk.refl (Wk.pair Wk.nil Wk.refl)))))) (Wk.pair Wk.refl (Wk.pair Wk.refl (Wk.pair Wk.nil (Wk.pair Wk.nil (Wk.pair Wk.refl (Wk.pair Wk.refl (Wk.pair Wk.nil (Wk.pair Wk.refl Wk.refl))))))))))))))) <| JQ.join () (Imp.norm (js := [0, 0]) rfl (.cons rfl (.cons rfl .nil)))
 refine jr <| lI hx1 fun v_11 hv_11 hx1 => jc (op_cmpI lb (.tmp rfl) .cI (cs hv_11)) <| jc (op_assign lb (.tmp rfl)) <| jn <| jif (.tmp rfl) hx1 (fun hc8 hx1 => ?_) (fun hc8 hx1 => ?_)
 · refine JC.anyF (base := [(1, ov (PTR gb_2 0)), (2, ov (PTR gb_3 0)), (3, ov (PTR gb_4 0))])
       (fs := fun γ => [⟨some 51, ov (PTR gb_2 (0 + 92))⟩, ⟨some 52, ov (S (rL (rI .i64)) t_1.Buckets)⟩, ⟨some 53, ov (PTR gb_2 (0 + 3))⟩, ⟨some 54, ov (S (rL r_api_Item) t_1.Items)⟩, ⟨some 55, ov (PTR gb_2 (0 + 41))⟩, ⟨some 56, ov (A (rV 16 (rU UInt64)) t_1.Seen)⟩, ⟨some 57, ov (PTR gb_2 (0 + 57))⟩, ⟨some 58, ov (S (rL r_api_Dot) t_1.Extra)⟩, ⟨some 59, ov (PTR gb_2 (0 + 93))⟩, ⟨some 60, ov (S rB t_1.Reply)⟩, ⟨some 61, ov (PTR gb_4 (0 + 92))⟩, ⟨none, .one .any⟩, ⟨some 62, ov (PTR gb_4 (0 + 3))⟩, ⟨none, .one .any⟩, ⟨some 63, ov (PTR gb_4 (0 + 41))⟩, ⟨none, .one .any⟩, ⟨some 64, ov (PTR gb_4 (0 + 57))⟩, ⟨none, .one .any⟩, ⟨some 65, ov (PTR gb_4 (0 + 93))⟩, ⟨none, .one .any⟩])
       (rs := fun γ => [⟨cvar gb_2 r_api_Frame t_1, none, none, [1, 3, 5, 7, 9]⟩, ⟨cvar gb_3 zq0 zq1, none, none, []⟩, ⟨cvar gb_4 zq0 (zq2 t_1), none, (some 11), []⟩, ⟨cvar gb_4 zq9 (zq10 t_1), (some 11), (some 13), []⟩, ⟨cvar gb_4 zq11 (zq12 t_1), (some 13), (some 15), []⟩, ⟨cvar gb_4 zq11 (zq13 t_1), (some 15), (some 17), []⟩, ⟨cvar gb_4 zq14 (zq15 t_1), (some 17), (some 19), []⟩, ⟨cvar gb_4 zq14 (zq16 t_1), (some 19), none, []⟩])
       (afts := nn 20) (js := [0, 0, 0]) mixed (.cons rfl (.cons rfl (.cons rfl .nil))) (fun _ => rfl)
       (by
      refine dS 1 (fun γ ρ B hb hd => op_fieldAddr (off := 92) lb tf39_11 (.tmp (hb 1 _ rfl))) <| dR 2 (fun γ ρ B hb hd => OpStep.lk ⟨ρ, (cvar gb_2 r_api_Frame t_1) :: B, _⟩ (op_loadS (j := 0) lb tS37 (tl hd 0 51) rfl (cT (comp_api_Frame_Buckets t_1) rfl) rfl rfl)) <| dS 3 (fun γ ρ B hb hd => op_fieldAddr (off := 3) lb tf39_3 (.tmp (hb 1 _ rfl))) <| dR 4 (fun γ ρ B hb hd => OpStep.lk ⟨ρ, (cvar gb_2 r_api_Frame t_1) :: B, _⟩ (op_loadS (j := 0) lb tS23 (tl hd 2 53) rfl (cT (comp_api_Frame_Items t_1) rfl) rfl rfl)) <| dS 5 (fun γ ρ B hb hd => op_fieldAddr (off := 41) lb tf39_6 (.tmp (hb 1 _ rfl))) ?_
      refine dR 6 (fun γ ρ B hb hd => OpStep.lk ⟨ρ, (cvar gb_2 r_api_Frame t_1) :: B, _⟩ (op_loadA (j := 0) lb tA29 (tl hd 4 55) rfl (cT (comp_api_Frame_Seen t_1) rfl) rfl)) <| dS 7 (fun γ ρ B hb hd => op_fieldAddr (off := 57) lb tf39_7 (.tmp (hb 1 _ rfl))) <| dR 8 (fun γ ρ B hb hd => OpStep.lk ⟨ρ, (cvar gb_2 r_api_Frame t_1) :: B, _⟩ (op_loadS (j := 0) lb tS33 (tl hd 6 57) rfl (cT (comp_api_Frame_Extra t_1) rfl) rfl rfl)) <| dS 9 (fun γ ρ B hb hd => op_fieldAddr (off := 93) lb tf39_12 (.tmp (hb 1 _ rfl))) <| dR 10 (fun γ ρ B hb hd => OpStep.lk ⟨ρ, (cvar gb_2 r_api_Frame t_1) :: B, _⟩ (op_loadS (j := 0) lb tS4 (tl hd 8 59) rfl (cT (comp_api_Frame_Reply t_1) rfl) rfl rfl)) ?_
      refine dS 11 (fun γ ρ B hb hd => op_fieldAddr (off := 92) lb tf39_11 (.tmp (hb 3 _ rfl))) <| dR 12 (fun γ ρ B hb hd => OpStep.at ⟨ρ, (cvar gb_4 zq0 (zq2 t_1)) :: B, _⟩ (setO ⟨ρ, (cvar gb_4 zq9 (zq10 t_1)) :: B, _⟩ _ _) (op_storeS (j := 0) tS37 (tl hd 10 61) (tl hd 1 52) rfl rfl ((UpdR.snd (UpdR.snd (UpdR.snd (UpdR.snd (UpdR.snd (UpdR.snd (UpdR.snd (UpdR.snd (UpdR.snd (UpdR.snd (UpdR.snd (UpdR.fst (UpdR.self (by rfl)))))))))))))).at (by change (1 + (1 + (1 + (1 + (21 + (16 + (16 + (1 + (1 + (32 + (1 + 0))))))))))) = (0 + 92); omega)) rfl)) <| dS 13 (fun γ ρ B hb hd => op_fieldAddr (off := 3) lb tf39_3 (.tmp (hb 3 _ rfl))) <| dR 14 (fun γ ρ B hb hd => OpStep.at ⟨ρ, (cvar gb_4 zq9 (zq10 t_1)) :: B, _⟩ (setO ⟨ρ, (cvar gb_4 zq11 (zq12 t_1)) :: B, _⟩ _ _) (op_storeS (j := 0) tS23 (tl hd 12 62) (tl hd 3 54) rfl rfl ((UpdR.snd (UpdR.snd (UpdR.snd (UpdR.fst (UpdR.self (by rfl)))))).at (by change (1 + (1 + (1 + 0))) = (0 + 3); omega)) rfl)) <| dS 15 (fun γ ρ B hb hd => op_fieldAddr (off := 41) lb tf39_6 (.tmp (hb 3 _ rfl))) ?_
      refine dR 16 (fun γ ρ B hb hd => OpStep.at ⟨ρ, (cvar gb_4 zq11 (zq12 t_1)) :: B, _⟩ (setO ⟨ρ, (cvar gb_4 zq11 (zq13 t_1)) :: B, _⟩ _ _) (op_storeA (j := 0) tA29 (tl hd 14 63) (tl hd 5 56) rfl ((UpdR.snd (UpdR.snd (UpdR.snd (UpdR.snd (UpdR.snd (UpdR.snd (UpdR.fst (UpdR.self (by rfl))))))))).at (by change (1 + (1 + (1 + (1 + (21 + (16 + 0)))))) = (0 + 41); omega)) rfl)) <| dS 17 (fun γ ρ B hb hd => op_fieldAddr (off := 57) lb tf39_7 (.tmp (hb 3 _ rfl))) <| dR 18 (fun γ ρ B hb hd => OpStep.at ⟨ρ, (cvar gb_4 zq11 (zq13 t_1)) :: B, _⟩ (setO ⟨ρ, (cvar gb_4 zq14 (zq15 t_1)) :: B, _⟩ _ _) (op_storeS (j := 0) tS33 (tl hd 16 64) (tl hd 7 58) rfl rfl ((UpdR.snd (UpdR.snd (UpdR.snd (UpdR.snd (UpdR.snd (UpdR.snd (UpdR.snd (UpdR.fst (UpdR.self (by rfl)))))))))).at (by change (1 + (1 + (1 + (1 + (21 + (16 + (16 + 0))))))) = (0 + 57); omega)) rfl)) <| dS 19 (fun γ ρ B hb hd => op_fieldAddr (off := 93) lb tf39_12 (.tmp (hb 3 _ rfl))) <| dR 20 (fun γ ρ B hb hd => OpStep.at ⟨ρ, (cvar gb_4 zq14 (zq15 t_1)) :: B, _⟩ (setO ⟨ρ, (cvar gb_4 zq14 (zq16 t_1)) :: B, _⟩ _ _) (op_storeS (j := 0) tS4 (tl hd 18 65) (tl hd 9 60) rfl rfl ((UpdR.snd (UpdR.snd (UpdR.snd (UpdR.snd (UpdR.snd (UpdR.snd (UpdR.snd (UpdR.snd (UpdR.snd (UpdR.snd (UpdR.snd (UpdR.snd (UpdR.fst (UpdR.self (by rfl))))))))))))))).at (by change (1 + (1 + (1 + (1 + (21 + (16 + (16 + (1 + (1 + (32 + (1 + (1 + 0)))))))))))) = (0 + 93); omega)) rfl)) ?_
      exact DSteps.nil)
       (by decide +kernel) (fun _ => rfl) (fun _ => rfl) (fun _ => rfl) rfl
       (ρ' := fun γ => [(2, ov (PTR gb_3 0)), (3, ov (PTR gb_4 0))])
       (X' := fun γ => [cvar gb_2 r_api_Frame t_1, cvar gb_3 zq0 zq1, cvar gb_4 zq14 (zq16 t_1)])
       (fun γ ρ hb hd => (.cons (hb 2 _ rfl) (.cons (hb 3 _ rfl) .nil))) (fun _ => rfl) (fun γ => ?_)
   refine JQ.at ⟨[(2, ov (PTR gb_3 0)), (3, ov (PTR gb_4 0))], [cvar gb_2 r_api_Frame t_1, cvar gb_3 zq0 zq1, cvar gb_4 zq14 (zq16 t_1)], []⟩ <| JQ.outNB ?_
   try obtain rfl := so hx1
   exact JQ.pre (Imp.var (j := 2) (q := r_api_Frame) (y := (api_Frame.mk t_1.Kind t_1.From t_1.To t_1.Items (api_Event.mk (api_Dot.mk (0 : Int) (0 : UInt64)) ([] : (List UInt8)) ([] : (List UInt8)) (Vector.replicate 16 (0 : UInt64)) ([] : (List api_Dest))) (Vector.replicate 16 (0 : UInt64)) t_1.Seen t_1.Extra ([] : (List api_Dot)) (Vector.replicate 32 (0 : UInt8)) ([] : (List (Vector UInt8 32))) t_1.Buckets t_1.Reply)) rfl (Wk.st (Wk.pair Wk.refl (Wk.pair Wk.refl (Wk.pair Wk.refl (Wk.pair Wk.refl (Wk.pair (Wk.st (Wk.pair Wk.refl (Wk.pair Wk.refl (Wk.pair Wk.nil (Wk.pair Wk.refl (Wk.pair Wk.nil Wk.refl)))))) (Wk.pair Wk.refl (Wk.pair Wk.refl (Wk.pair Wk.refl (Wk.pair Wk.nil (Wk.pair Wk.refl (Wk.pair Wk.nil (Wk.pair Wk.refl (Wk.pair Wk.refl Wk.refl))))))))))))))) <| JQ.join () (Imp.norm (js := [1, 1]) rfl (.cons rfl (.cons rfl .nil)))
 refine JC.skip <| JQ.outNB ?_
 try obtain rfl := so hx1
 exact JQ.pre (Imp.var (j := 2) (q := r_api_Frame) (y := (api_Frame.mk t_1.Kind t_1.From t_1.To ([] : (List api_Item)) (api_Event.mk (api_Dot.mk (0 : Int) (0 : UInt64)) ([] : (List UInt8)) ([] : (List UInt8)) (Vector.replicate 16 (0 : UInt64)) ([] : (List api_Dest))) (Vector.replicate 16 (0 : UInt64)) (Vector.replicate 16 (0 : UInt64)) ([] : (List api_Dot)) ([] : (List api_Dot)) (Vector.replicate 32 (0 : UInt8)) ([] : (List (Vector UInt8 32))) ([] : (List Int)) false)) rfl (Wk.st (Wk.pair Wk.refl (Wk.pair Wk.refl (Wk.pair Wk.refl (Wk.pair Wk.nil (Wk.pair (Wk.st (Wk.pair Wk.refl (Wk.pair Wk.refl (Wk.pair Wk.nil (Wk.pair Wk.refl (Wk.pair Wk.nil Wk.refl)))))) (Wk.pair Wk.refl (Wk.pair Wk.refl (Wk.pair Wk.nil (Wk.pair Wk.nil (Wk.pair Wk.refl (Wk.pair Wk.nil (Wk.pair Wk.nil (Wk.pair Wk.refl Wk.refl))))))))))))))) <| JQ.join () (Imp.norm (js := [1, 1]) rfl (.cons rfl (.cons rfl .nil)))

theorem sim_slices_Equalapi_Item_api_Item (k : Nat) (s1_1 : (List api_Item)) (s2_2 : (List api_Item)) (r : Bool) (hm : slices_Equalapi_Item_api_Item k s1_1 s2_2 = some r) : Sim Tryz.prog 66 [S (rL r_api_Item) s1_1, S (rL r_api_Item) s2_2] [] (γ := Unit) (fun q => []) (fun q => .one (.val (S rB r))) := by
 unfold slices_Equalapi_Item_api_Item at hm
 refine Sim.of Tryz.func66 rfl rfl (lE rfl) (fun e0 w0 => ?_)
 refine JC.at ⟨[(0, ov (S (rL r_api_Item) s1_1)), (1, ov (S (rL r_api_Item) s2_2))], [], []⟩ <| jr <| jc (op_assign lb .cB) <| jn <| JC.seq <| jr <| jmv rfl rfl <| jc (op_lenL lb tu23 (.tmp rfl)) <| jmv rfl rfl <| jc (op_lenL lb tu23 (.tmp rfl)) <| lI hm fun v_3 hv_3 hm => jc (op_cmpI lb (.tmp rfl) (.tmp rfl) (cs hv_3)) <| jn <| jif (.tmp rfl) hm (fun hc1 hm => ?_) (fun hc1 hm => ?_)
 · refine jr <| jc (op_assign lb .cB) <| jn <| JC.ret <| JQ.outR ?_
   obtain rfl := so hm
   exact jd (.val (S rB false)) rfl rfl rfl rfl rfl rfl
 refine JC.skip <| JQ.then <| bI hm fun tv2 hx2 hq2 => JC.seqK (α := Unit) (γ := Unit) (stj := fun v q => ⟨[], [], []⟩) (p := fun v => tv2 = (.inl v)) (fun v q hv => ?_) ?_
 · subst hv
   skip
   obtain _ := q
   dsimp only at hq2
   refine JC.at ⟨[], [], []⟩ <| jr <| jc (op_assign lb .cB) <| jn <| JC.ret ?_
   obtain rfl := so hq2
   exact jd (.val (S rB true)) rfl rfl rfl rfl rfl rfl
 refine jr <| jmv rfl rfl <| jc (op_lenL lb tu23 (.tmp rfl)) <| jc (op_move lb .cI) <| jn <| JC.block <| bI hx2 fun tv3 hL3 hq3 => JC.pre ?_ (JC.loop (γ := Unit) (stf := fun s q => ⟨[(0, ov (S (rL r_api_Item) s1_1)), (1, ov (S (rL r_api_Item) s2_2)), (12, ov (S (rI .i64) (List.length s1_1 : Int))), (13, ov (S (rI .i64) s))], [], []⟩) (q := ()) hL3 ?_)
 · exact (Imp.norm (js := []) rfl (.cons rfl (.cons rfl (.cons rfl (.cons rfl .nil)))))
 intro x_4 q x hx hr
 obtain _ := q
 change slices_Equalapi_Item_api_Item.b1 k s1_1 s2_2 x_4 = some x at hx
 unfold slices_Equalapi_Item_api_Item.b1 at hx
 refine JC.at ⟨[(0, ov (S (rL r_api_Item) s1_1)), (1, ov (S (rL r_api_Item) s2_2)), (12, ov (S (rI .i64) (List.length s1_1 : Int))), (13, ov (S (rI .i64) x_4))], [], []⟩ <| jr <| lI hx fun v_5 hv_5 hx => jc (op_cmpI lb (.tmp rfl) (.tmp rfl) (cs hv_5)) <| jn <| JC.seq <| jif (.tmp rfl) hx (fun hc4 hx => ?_) (fun hc4 hx => ?_)
 · refine JC.skip <| JQ.then <| JC.seq <| JC.block <| jr <| jmv rfl rfl <| jc (op_assign lb (.tmp rfl)) <| jn <| JC.seq <| bI hx fun v_6 hv_6 hx => bI hx fun v_7 hv_7 hx => ?_
   obtain ⟨v_8, hv_8, hx⟩ := lt1_inv hx
   refine JC.anyF (base := [(0, ov (S (rL r_api_Item) s1_1)), (1, ov (S (rL r_api_Item) s2_2)), (5, ov (S (rI .i64) x_4)), (12, ov (S (rI .i64) (List.length s1_1 : Int))), (13, ov (S (rI .i64) x_4))])
       (fs := fun γ => [⟨some 16, ov (S (rL r_api_Item) s1_1)⟩, ⟨some 17, ov (S (rI .i64) x_4)⟩, ⟨some 18, ov (PT r_api_Item v_6)⟩, ⟨some 19, ov (A r_api_Item v_6)⟩, ⟨some 20, ov (S (rL r_api_Item) s2_2)⟩, ⟨some 21, ov (S (rI .i64) x_4)⟩, ⟨some 22, ov (PT r_api_Item v_7)⟩, ⟨some 23, ov (A r_api_Item v_7)⟩, ⟨some 24, ov (S rB v_8)⟩])
       (rs := fun γ => [])
       (afts := nn 9) (js := []) mixed (.cons rfl (.cons rfl (.cons rfl (.cons rfl (.cons rfl .nil))))) (fun _ => rfl)
       (by
      refine db 1 0 <| db 2 5 <| dS 3 (fun γ ρ B hb hd => op_indexAddrLg lb tu23 tz62 (tl hd 0 16) (tl hd 1 17) hv_6) <| dS 4 (fun γ ρ B hb hd => op_loadPAg lb tA62 (tl hd 2 18) rfl) <| db 5 1 ?_
      refine db 6 5 <| dS 7 (fun γ ρ B hb hd => op_indexAddrLg lb tu23 tz62 (tl hd 4 20) (tl hd 5 21) hv_7) <| dS 8 (fun γ ρ B hb hd => op_loadPAg lb tA62 (tl hd 6 22) rfl) <| dS 9 (fun γ ρ B hb hd => op_neA lb qa62 (by decide) ng62 (tl hd 3 19) (tl hd 7 23) hv_8) ?_
      exact DSteps.nil)
       (by decide +kernel) (fun _ => rfl) (fun _ => rfl) (fun _ => rfl) rfl
       (ρ' := fun γ => [(0, ov (S (rL r_api_Item) s1_1)), (1, ov (S (rL r_api_Item) s2_2)), (12, ov (S (rI .i64) (List.length s1_1 : Int))), (13, ov (S (rI .i64) x_4)), (24, ov (S rB v_8))])
       (X' := fun γ => [])
       (fun γ ρ hb hd => (.cons (hb 0 _ rfl) (.cons (hb 1 _ rfl) (.cons (hb 12 _ rfl) (.cons (hb 13 _ rfl) (.cons (hdq hd 8 24 rfl) .nil)))))) (fun _ => rfl) (fun γ => ?_)
   refine JQ.at ⟨[(0, ov (S (rL r_api_Item) s1_1)), (1, ov (S (rL r_api_Item) s2_2)), (12, ov (S (rI .i64) (List.length s1_1 : Int))), (13, ov (S (rI .i64) x_4)), (24, ov (S rB v_8))], [], []⟩ <| JQ.then <| jif (.tmp rfl) hx (fun hc5 hx => ?_) (fun hc5 hx => ?_)
   · refine jr <| jc (op_assign lb .cB) <| jn <| JC.ret <| JQ.outRB <| JQ.outR ?_
     try obtain rfl := so hx
     try obtain rfl := hr _ rfl
     dsimp only at hq3
     refine JQ.outR <| JQ.outRB ?_
     try obtain rfl := so hq3
     dsimp only at hq2
     refine JQ.outR ?_
     obtain rfl := so hq2
     exact jd (.val (S rB false)) rfl rfl rfl rfl rfl rfl
   refine JC.skip <| JQ.outNB <| JQ.then <| JC.region <| lI hx fun v_9 hv_9 hx => jc (op_arI lb (.tmp rfl) .cI (cs hv_9)) <| jmv rfl rfl <| JL.nil ?_
   try obtain rfl := so hx
   exact JQ.next () rfl (Imp.norm (js := []) rfl (.cons rfl (.cons rfl (.cons rfl (.cons rfl .nil)))))
 refine JC.exit <| JQ.outX ?_
 try obtain rfl := so hx
 try obtain rfl := hr _ rfl
 dsimp only at hq3
 refine JQ.outX <| JQ.here ?_
 try obtain rfl := so hq3
 exact JQ.joinK () () rfl (Imp.norm (js := []) rfl .nil)

theorem sim_slices_Equalapi_Dot_api_Dot (k : Nat) (s1_1 : (List api_Dot)) (s2_2 : (List api_Dot)) (r : Bool) (hm : slices_Equalapi_Dot_api_Dot k s1_1 s2_2 = some r) : Sim Tryz.prog 67 [S (rL r_api_Dot) s1_1, S (rL r_api_Dot) s2_2] [] (γ := Unit) (fun q => []) (fun q => .one (.val (S rB r))) := by
 unfold slices_Equalapi_Dot_api_Dot at hm
 refine Sim.of Tryz.func67 rfl rfl (lE rfl) (fun e0 w0 => ?_)
 refine JC.at ⟨[(0, ov (S (rL r_api_Dot) s1_1)), (1, ov (S (rL r_api_Dot) s2_2))], [], []⟩ <| jr <| jc (op_assign lb .cB) <| jn <| JC.seq <| jr <| jmv rfl rfl <| jc (op_lenL lb tu33 (.tmp rfl)) <| jmv rfl rfl <| jc (op_lenL lb tu33 (.tmp rfl)) <| lI hm fun v_3 hv_3 hm => jc (op_cmpI lb (.tmp rfl) (.tmp rfl) (cs hv_3)) <| jn <| jif (.tmp rfl) hm (fun hc1 hm => ?_) (fun hc1 hm => ?_)
 · refine jr <| jc (op_assign lb .cB) <| jn <| JC.ret <| JQ.outR ?_
   obtain rfl := so hm
   exact jd (.val (S rB false)) rfl rfl rfl rfl rfl rfl
 refine JC.skip <| JQ.then <| bI hm fun tv2 hx2 hq2 => JC.seqK (α := Unit) (γ := Unit) (stj := fun v q => ⟨[], [], []⟩) (p := fun v => tv2 = (.inl v)) (fun v q hv => ?_) ?_
 · subst hv
   skip
   obtain _ := q
   dsimp only at hq2
   refine JC.at ⟨[], [], []⟩ <| jr <| jc (op_assign lb .cB) <| jn <| JC.ret ?_
   obtain rfl := so hq2
   exact jd (.val (S rB true)) rfl rfl rfl rfl rfl rfl
 refine jr <| jmv rfl rfl <| jc (op_lenL lb tu33 (.tmp rfl)) <| jc (op_move lb .cI) <| jn <| JC.block <| bI hx2 fun tv3 hL3 hq3 => JC.pre ?_ (JC.loop (γ := Unit) (stf := fun s q => ⟨[(0, ov (S (rL r_api_Dot) s1_1)), (1, ov (S (rL r_api_Dot) s2_2)), (12, ov (S (rI .i64) (List.length s1_1 : Int))), (13, ov (S (rI .i64) s))], [], []⟩) (q := ()) hL3 ?_)
 · exact (Imp.norm (js := []) rfl (.cons rfl (.cons rfl (.cons rfl (.cons rfl .nil)))))
 intro x_4 q x hx hr
 obtain _ := q
 change slices_Equalapi_Dot_api_Dot.b1 k s1_1 s2_2 x_4 = some x at hx
 unfold slices_Equalapi_Dot_api_Dot.b1 at hx
 refine JC.at ⟨[(0, ov (S (rL r_api_Dot) s1_1)), (1, ov (S (rL r_api_Dot) s2_2)), (12, ov (S (rI .i64) (List.length s1_1 : Int))), (13, ov (S (rI .i64) x_4))], [], []⟩ <| jr <| lI hx fun v_5 hv_5 hx => jc (op_cmpI lb (.tmp rfl) (.tmp rfl) (cs hv_5)) <| jn <| JC.seq <| jif (.tmp rfl) hx (fun hc4 hx => ?_) (fun hc4 hx => ?_)
 · refine JC.skip <| JQ.then <| JC.seq <| JC.block <| jr <| jmv rfl rfl <| jc (op_assign lb (.tmp rfl)) <| jn <| JC.seq <| bI hx fun v_6 hv_6 hx => bI hx fun v_7 hv_7 hx => ?_
   obtain ⟨v_8, hv_8, hx⟩ := lt1_inv hx
   refine JC.anyF (base := [(0, ov (S (rL r_api_Dot) s1_1)), (1, ov (S (rL r_api_Dot) s2_2)), (5, ov (S (rI .i64) x_4)), (12, ov (S (rI .i64) (List.length s1_1 : Int))), (13, ov (S (rI .i64) x_4))])
       (fs := fun γ => [⟨some 16, ov (S (rL r_api_Dot) s1_1)⟩, ⟨some 17, ov (S (rI .i64) x_4)⟩, ⟨some 18, ov (PT r_api_Dot v_6)⟩, ⟨some 19, ov (A r_api_Dot v_6)⟩, ⟨some 20, ov (S (rL r_api_Dot) s2_2)⟩, ⟨some 21, ov (S (rI .i64) x_4)⟩, ⟨some 22, ov (PT r_api_Dot v_7)⟩, ⟨some 23, ov (A r_api_Dot v_7)⟩, ⟨some 24, ov (S rB v_8)⟩])
       (rs := fun γ => [])
       (afts := nn 9) (js := []) mixed (.cons rfl (.cons rfl (.cons rfl (.cons rfl (.cons rfl .nil))))) (fun _ => rfl)
       (by
      refine db 1 0 <| db 2 5 <| dS 3 (fun γ ρ B hb hd => op_indexAddrLg lb tu33 tz26 (tl hd 0 16) (tl hd 1 17) hv_6) <| dS 4 (fun γ ρ B hb hd => op_loadPAg lb tA26 (tl hd 2 18) rfl) <| db 5 1 ?_
      refine db 6 5 <| dS 7 (fun γ ρ B hb hd => op_indexAddrLg lb tu33 tz26 (tl hd 4 20) (tl hd 5 21) hv_7) <| dS 8 (fun γ ρ B hb hd => op_loadPAg lb tA26 (tl hd 6 22) rfl) <| dS 9 (fun γ ρ B hb hd => op_neA lb qa26 (by decide) ng26 (tl hd 3 19) (tl hd 7 23) hv_8) ?_
      exact DSteps.nil)
       (by decide +kernel) (fun _ => rfl) (fun _ => rfl) (fun _ => rfl) rfl
       (ρ' := fun γ => [(0, ov (S (rL r_api_Dot) s1_1)), (1, ov (S (rL r_api_Dot) s2_2)), (12, ov (S (rI .i64) (List.length s1_1 : Int))), (13, ov (S (rI .i64) x_4)), (24, ov (S rB v_8))])
       (X' := fun γ => [])
       (fun γ ρ hb hd => (.cons (hb 0 _ rfl) (.cons (hb 1 _ rfl) (.cons (hb 12 _ rfl) (.cons (hb 13 _ rfl) (.cons (hdq hd 8 24 rfl) .nil)))))) (fun _ => rfl) (fun γ => ?_)
   refine JQ.at ⟨[(0, ov (S (rL r_api_Dot) s1_1)), (1, ov (S (rL r_api_Dot) s2_2)), (12, ov (S (rI .i64) (List.length s1_1 : Int))), (13, ov (S (rI .i64) x_4)), (24, ov (S rB v_8))], [], []⟩ <| JQ.then <| jif (.tmp rfl) hx (fun hc5 hx => ?_) (fun hc5 hx => ?_)
   · refine jr <| jc (op_assign lb .cB) <| jn <| JC.ret <| JQ.outRB <| JQ.outR ?_
     try obtain rfl := so hx
     try obtain rfl := hr _ rfl
     dsimp only at hq3
     refine JQ.outR <| JQ.outRB ?_
     try obtain rfl := so hq3
     dsimp only at hq2
     refine JQ.outR ?_
     obtain rfl := so hq2
     exact jd (.val (S rB false)) rfl rfl rfl rfl rfl rfl
   refine JC.skip <| JQ.outNB <| JQ.then <| JC.region <| lI hx fun v_9 hv_9 hx => jc (op_arI lb (.tmp rfl) .cI (cs hv_9)) <| jmv rfl rfl <| JL.nil ?_
   try obtain rfl := so hx
   exact JQ.next () rfl (Imp.norm (js := []) rfl (.cons rfl (.cons rfl (.cons rfl (.cons rfl .nil)))))
 refine JC.exit <| JQ.outX ?_
 try obtain rfl := so hx
 try obtain rfl := hr _ rfl
 dsimp only at hq3
 refine JQ.outX <| JQ.here ?_
 try obtain rfl := so hq3
 exact JQ.joinK () () rfl (Imp.norm (js := []) rfl .nil)

theorem sim_slices_Equalapi_Hash_api_Hash (k : Nat) (s1_1 : (List (Vector UInt8 32))) (s2_2 : (List (Vector UInt8 32))) (r : Bool) (hm : slices_Equalapi_Hash_api_Hash k s1_1 s2_2 = some r) : Sim Tryz.prog 68 [S (rL (rV 32 (rU UInt8))) s1_1, S (rL (rV 32 (rU UInt8))) s2_2] [] (γ := Unit) (fun q => []) (fun q => .one (.val (S rB r))) := by
 unfold slices_Equalapi_Hash_api_Hash at hm
 refine Sim.of Tryz.func68 rfl rfl (lE rfl) (fun e0 w0 => ?_)
 refine JC.at ⟨[(0, ov (S (rL (rV 32 (rU UInt8))) s1_1)), (1, ov (S (rL (rV 32 (rU UInt8))) s2_2))], [], []⟩ <| jr <| jc (op_assign lb .cB) <| jn <| JC.seq <| jr <| jmv rfl rfl <| jc (op_lenL lb tu36 (.tmp rfl)) <| jmv rfl rfl <| jc (op_lenL lb tu36 (.tmp rfl)) <| lI hm fun v_3 hv_3 hm => jc (op_cmpI lb (.tmp rfl) (.tmp rfl) (cs hv_3)) <| jn <| jif (.tmp rfl) hm (fun hc1 hm => ?_) (fun hc1 hm => ?_)
 · refine jr <| jc (op_assign lb .cB) <| jn <| JC.ret <| JQ.outR ?_
   obtain rfl := so hm
   exact jd (.val (S rB false)) rfl rfl rfl rfl rfl rfl
 refine JC.skip <| JQ.then <| bI hm fun tv2 hx2 hq2 => JC.seqK (α := Unit) (γ := Unit) (stj := fun v q => ⟨[], [], []⟩) (p := fun v => tv2 = (.inl v)) (fun v q hv => ?_) ?_
 · subst hv
   skip
   obtain _ := q
   dsimp only at hq2
   refine JC.at ⟨[], [], []⟩ <| jr <| jc (op_assign lb .cB) <| jn <| JC.ret ?_
   obtain rfl := so hq2
   exact jd (.val (S rB true)) rfl rfl rfl rfl rfl rfl
 refine jr <| jmv rfl rfl <| jc (op_lenL lb tu36 (.tmp rfl)) <| jc (op_move lb .cI) <| jn <| JC.block <| bI hx2 fun tv3 hL3 hq3 => JC.pre ?_ (JC.loop (γ := Unit) (stf := fun s q => ⟨[(0, ov (S (rL (rV 32 (rU UInt8))) s1_1)), (1, ov (S (rL (rV 32 (rU UInt8))) s2_2)), (12, ov (S (rI .i64) (List.length s1_1 : Int))), (13, ov (S (rI .i64) s))], [], []⟩) (q := ()) hL3 ?_)
 · exact (Imp.norm (js := []) rfl (.cons rfl (.cons rfl (.cons rfl (.cons rfl .nil)))))
 intro x_4 q x hx hr
 obtain _ := q
 change slices_Equalapi_Hash_api_Hash.b1 k s1_1 s2_2 x_4 = some x at hx
 unfold slices_Equalapi_Hash_api_Hash.b1 at hx
 refine JC.at ⟨[(0, ov (S (rL (rV 32 (rU UInt8))) s1_1)), (1, ov (S (rL (rV 32 (rU UInt8))) s2_2)), (12, ov (S (rI .i64) (List.length s1_1 : Int))), (13, ov (S (rI .i64) x_4))], [], []⟩ <| jr <| lI hx fun v_5 hv_5 hx => jc (op_cmpI lb (.tmp rfl) (.tmp rfl) (cs hv_5)) <| jn <| JC.seq <| jif (.tmp rfl) hx (fun hc4 hx => ?_) (fun hc4 hx => ?_)
 · refine JC.skip <| JQ.then <| JC.seq <| JC.block <| jr <| jmv rfl rfl <| jc (op_assign lb (.tmp rfl)) <| jn <| JC.seq <| bI hx fun v_6 hv_6 hx => bI hx fun v_7 hv_7 hx => ?_
   obtain ⟨v_8, hv_8, hx⟩ := lt1_inv hx
   refine JC.anyF (base := [(0, ov (S (rL (rV 32 (rU UInt8))) s1_1)), (1, ov (S (rL (rV 32 (rU UInt8))) s2_2)), (5, ov (S (rI .i64) x_4)), (12, ov (S (rI .i64) (List.length s1_1 : Int))), (13, ov (S (rI .i64) x_4))])
       (fs := fun γ => [⟨some 16, ov (S (rL (rV 32 (rU UInt8))) s1_1)⟩, ⟨some 17, ov (S (rI .i64) x_4)⟩, ⟨some 18, ov (PT (rV 32 (rU UInt8)) v_6)⟩, ⟨some 19, ov (A (rV 32 (rU UInt8)) v_6)⟩, ⟨some 20, ov (S (rL (rV 32 (rU UInt8))) s2_2)⟩, ⟨some 21, ov (S (rI .i64) x_4)⟩, ⟨some 22, ov (PT (rV 32 (rU UInt8)) v_7)⟩, ⟨some 23, ov (A (rV 32 (rU UInt8)) v_7)⟩, ⟨some 24, ov (S rB v_8)⟩])
       (rs := fun γ => [])
       (afts := nn 9) (js := []) mixed (.cons rfl (.cons rfl (.cons rfl (.cons rfl (.cons rfl .nil))))) (fun _ => rfl)
       (by
      refine db 1 0 <| db 2 5 <| dS 3 (fun γ ρ B hb hd => op_indexAddrLg lb tu36 tz35 (tl hd 0 16) (tl hd 1 17) hv_6) <| dS 4 (fun γ ρ B hb hd => op_loadPAg lb tA35 (tl hd 2 18) rfl) <| db 5 1 ?_
      refine db 6 5 <| dS 7 (fun γ ρ B hb hd => op_indexAddrLg lb tu36 tz35 (tl hd 4 20) (tl hd 5 21) hv_7) <| dS 8 (fun γ ρ B hb hd => op_loadPAg lb tA35 (tl hd 6 22) rfl) <| dS 9 (fun γ ρ B hb hd => op_neA lb qa35 (by decide) ng35 (tl hd 3 19) (tl hd 7 23) hv_8) ?_
      exact DSteps.nil)
       (by decide +kernel) (fun _ => rfl) (fun _ => rfl) (fun _ => rfl) rfl
       (ρ' := fun γ => [(0, ov (S (rL (rV 32 (rU UInt8))) s1_1)), (1, ov (S (rL (rV 32 (rU UInt8))) s2_2)), (12, ov (S (rI .i64) (List.length s1_1 : Int))), (13, ov (S (rI .i64) x_4)), (24, ov (S rB v_8))])
       (X' := fun γ => [])
       (fun γ ρ hb hd => (.cons (hb 0 _ rfl) (.cons (hb 1 _ rfl) (.cons (hb 12 _ rfl) (.cons (hb 13 _ rfl) (.cons (hdq hd 8 24 rfl) .nil)))))) (fun _ => rfl) (fun γ => ?_)
   refine JQ.at ⟨[(0, ov (S (rL (rV 32 (rU UInt8))) s1_1)), (1, ov (S (rL (rV 32 (rU UInt8))) s2_2)), (12, ov (S (rI .i64) (List.length s1_1 : Int))), (13, ov (S (rI .i64) x_4)), (24, ov (S rB v_8))], [], []⟩ <| JQ.then <| jif (.tmp rfl) hx (fun hc5 hx => ?_) (fun hc5 hx => ?_)
   · refine jr <| jc (op_assign lb .cB) <| jn <| JC.ret <| JQ.outRB <| JQ.outR ?_
     try obtain rfl := so hx
     try obtain rfl := hr _ rfl
     dsimp only at hq3
     refine JQ.outR <| JQ.outRB ?_
     try obtain rfl := so hq3
     dsimp only at hq2
     refine JQ.outR ?_
     obtain rfl := so hq2
     exact jd (.val (S rB false)) rfl rfl rfl rfl rfl rfl
   refine JC.skip <| JQ.outNB <| JQ.then <| JC.region <| lI hx fun v_9 hv_9 hx => jc (op_arI lb (.tmp rfl) .cI (cs hv_9)) <| jmv rfl rfl <| JL.nil ?_
   try obtain rfl := so hx
   exact JQ.next () rfl (Imp.norm (js := []) rfl (.cons rfl (.cons rfl (.cons rfl (.cons rfl .nil)))))
 refine JC.exit <| JQ.outX ?_
 try obtain rfl := so hx
 try obtain rfl := hr _ rfl
 dsimp only at hq3
 refine JQ.outX <| JQ.here ?_
 try obtain rfl := so hq3
 exact JQ.joinK () () rfl (Imp.norm (js := []) rfl .nil)

theorem sim_slices_Equalint_int (k : Nat) (s1_1 : (List Int)) (s2_2 : (List Int)) (r : Bool) (hm : slices_Equalint_int k s1_1 s2_2 = some r) : Sim Tryz.prog 69 [S (rL (rI .i64)) s1_1, S (rL (rI .i64)) s2_2] [] (γ := Unit) (fun q => []) (fun q => .one (.val (S rB r))) := by
 unfold slices_Equalint_int at hm
 refine Sim.of Tryz.func69 rfl rfl (lE rfl) (fun e0 w0 => ?_)
 refine JC.at ⟨[(0, ov (S (rL (rI .i64)) s1_1)), (1, ov (S (rL (rI .i64)) s2_2))], [], []⟩ <| jr <| jc (op_assign lb .cB) <| jn <| JC.seq <| jr <| jmv rfl rfl <| jc (op_lenL lb tu37 (.tmp rfl)) <| jmv rfl rfl <| jc (op_lenL lb tu37 (.tmp rfl)) <| lI hm fun v_3 hv_3 hm => jc (op_cmpI lb (.tmp rfl) (.tmp rfl) (cs hv_3)) <| jn <| jif (.tmp rfl) hm (fun hc1 hm => ?_) (fun hc1 hm => ?_)
 · refine jr <| jc (op_assign lb .cB) <| jn <| JC.ret <| JQ.outR ?_
   obtain rfl := so hm
   exact jd (.val (S rB false)) rfl rfl rfl rfl rfl rfl
 refine JC.skip <| JQ.then <| bI hm fun tv2 hx2 hq2 => JC.seqK (α := Unit) (γ := Unit) (stj := fun v q => ⟨[], [], []⟩) (p := fun v => tv2 = (.inl v)) (fun v q hv => ?_) ?_
 · subst hv
   skip
   obtain _ := q
   dsimp only at hq2
   refine JC.at ⟨[], [], []⟩ <| jr <| jc (op_assign lb .cB) <| jn <| JC.ret ?_
   obtain rfl := so hq2
   exact jd (.val (S rB true)) rfl rfl rfl rfl rfl rfl
 refine jr <| jmv rfl rfl <| jc (op_lenL lb tu37 (.tmp rfl)) <| jc (op_move lb .cI) <| jn <| JC.block <| bI hx2 fun tv3 hL3 hq3 => JC.pre ?_ (JC.loop (γ := Unit) (stf := fun s q => ⟨[(0, ov (S (rL (rI .i64)) s1_1)), (1, ov (S (rL (rI .i64)) s2_2)), (12, ov (S (rI .i64) (List.length s1_1 : Int))), (13, ov (S (rI .i64) s))], [], []⟩) (q := ()) hL3 ?_)
 · exact (Imp.norm (js := []) rfl (.cons rfl (.cons rfl (.cons rfl (.cons rfl .nil)))))
 intro x_4 q x hx hr
 obtain _ := q
 change slices_Equalint_int.b1 k s1_1 s2_2 x_4 = some x at hx
 unfold slices_Equalint_int.b1 at hx
 refine JC.at ⟨[(0, ov (S (rL (rI .i64)) s1_1)), (1, ov (S (rL (rI .i64)) s2_2)), (12, ov (S (rI .i64) (List.length s1_1 : Int))), (13, ov (S (rI .i64) x_4))], [], []⟩ <| jr <| lI hx fun v_5 hv_5 hx => jc (op_cmpI lb (.tmp rfl) (.tmp rfl) (cs hv_5)) <| jn <| JC.seq <| jif (.tmp rfl) hx (fun hc4 hx => ?_) (fun hc4 hx => ?_)
 · refine JC.skip <| JQ.then <| JC.seq <| JC.block <| jr <| jmv rfl rfl <| jc (op_assign lb (.tmp rfl)) <| jn <| JC.seq <| bI hx fun v_6 hv_6 hx => bI hx fun v_7 hv_7 hx => ?_
   obtain ⟨v_8, hv_8, hx⟩ := lt1_inv hx
   refine JC.anyF (base := [(0, ov (S (rL (rI .i64)) s1_1)), (1, ov (S (rL (rI .i64)) s2_2)), (5, ov (S (rI .i64) x_4)), (12, ov (S (rI .i64) (List.length s1_1 : Int))), (13, ov (S (rI .i64) x_4))])
       (fs := fun γ => [⟨some 16, ov (S (rL (rI .i64)) s1_1)⟩, ⟨some 17, ov (S (rI .i64) x_4)⟩, ⟨some 18, ov (PT (rI .i64) v_6)⟩, ⟨some 19, ov (S (rI .i64) v_6)⟩, ⟨some 20, ov (S (rL (rI .i64)) s2_2)⟩, ⟨some 21, ov (S (rI .i64) x_4)⟩, ⟨some 22, ov (PT (rI .i64) v_7)⟩, ⟨some 23, ov (S (rI .i64) v_7)⟩, ⟨some 24, ov (S rB v_8)⟩])
       (rs := fun γ => [])
       (afts := nn 9) (js := []) mixed (.cons rfl (.cons rfl (.cons rfl (.cons rfl (.cons rfl .nil))))) (fun _ => rfl)
       (by
      refine db 1 0 <| db 2 5 <| dS 3 (fun γ ρ B hb hd => op_indexAddrLg lb tu37 tz3 (tl hd 0 16) (tl hd 1 17) hv_6) <| dS 4 (fun γ ρ B hb hd => op_loadPSg lb tS3 rfl (tl hd 2 18) rfl) <| db 5 1 ?_
      refine db 6 5 <| dS 7 (fun γ ρ B hb hd => op_indexAddrLg lb tu37 tz3 (tl hd 4 20) (tl hd 5 21) hv_7) <| dS 8 (fun γ ρ B hb hd => op_loadPSg lb tS3 rfl (tl hd 6 22) rfl) <| dS 9 (fun γ ρ B hb hd => op_cmpI lb (tl hd 3 19) (tl hd 7 23) (cs hv_8)) ?_
      exact DSteps.nil)
       (by decide +kernel) (fun _ => rfl) (fun _ => rfl) (fun _ => rfl) rfl
       (ρ' := fun γ => [(0, ov (S (rL (rI .i64)) s1_1)), (1, ov (S (rL (rI .i64)) s2_2)), (12, ov (S (rI .i64) (List.length s1_1 : Int))), (13, ov (S (rI .i64) x_4)), (24, ov (S rB v_8))])
       (X' := fun γ => [])
       (fun γ ρ hb hd => (.cons (hb 0 _ rfl) (.cons (hb 1 _ rfl) (.cons (hb 12 _ rfl) (.cons (hb 13 _ rfl) (.cons (hdq hd 8 24 rfl) .nil)))))) (fun _ => rfl) (fun γ => ?_)
   refine JQ.at ⟨[(0, ov (S (rL (rI .i64)) s1_1)), (1, ov (S (rL (rI .i64)) s2_2)), (12, ov (S (rI .i64) (List.length s1_1 : Int))), (13, ov (S (rI .i64) x_4)), (24, ov (S rB v_8))], [], []⟩ <| JQ.then <| jif (.tmp rfl) hx (fun hc5 hx => ?_) (fun hc5 hx => ?_)
   · refine jr <| jc (op_assign lb .cB) <| jn <| JC.ret <| JQ.outRB <| JQ.outR ?_
     try obtain rfl := so hx
     try obtain rfl := hr _ rfl
     dsimp only at hq3
     refine JQ.outR <| JQ.outRB ?_
     try obtain rfl := so hq3
     dsimp only at hq2
     refine JQ.outR ?_
     obtain rfl := so hq2
     exact jd (.val (S rB false)) rfl rfl rfl rfl rfl rfl
   refine JC.skip <| JQ.outNB <| JQ.then <| JC.region <| lI hx fun v_9 hv_9 hx => jc (op_arI lb (.tmp rfl) .cI (cs hv_9)) <| jmv rfl rfl <| JL.nil ?_
   try obtain rfl := so hx
   exact JQ.next () rfl (Imp.norm (js := []) rfl (.cons rfl (.cons rfl (.cons rfl (.cons rfl .nil)))))
 refine JC.exit <| JQ.outX ?_
 try obtain rfl := so hx
 try obtain rfl := hr _ rfl
 dsimp only at hq3
 refine JQ.outX <| JQ.here ?_
 try obtain rfl := so hq3
 exact JQ.joinK () () rfl (Imp.norm (js := []) rfl .nil)

theorem sim_slices_Equalbyte_byte (k : Nat) (s1_1 : (List UInt8)) (s2_2 : (List UInt8)) (r : Bool) (hm : slices_Equalbyte_byte k s1_1 s2_2 = some r) : Sim Tryz.prog 55 [S (rL (rU UInt8)) s1_1, S (rL (rU UInt8)) s2_2] [] (γ := Unit) (fun q => []) (fun q => .one (.val (S rB r))) := by
 unfold slices_Equalbyte_byte at hm
 refine Sim.of Tryz.func55 rfl rfl (lE rfl) (fun e0 w0 => ?_)
 refine JC.at ⟨[(0, ov (S (rL (rU UInt8)) s1_1)), (1, ov (S (rL (rU UInt8)) s2_2))], [], []⟩ <| jr <| jc (op_assign lb .cB) <| jn <| JC.seq <| jr <| jmv rfl rfl <| jc (op_lenL lb tu27 (.tmp rfl)) <| jmv rfl rfl <| jc (op_lenL lb tu27 (.tmp rfl)) <| lI hm fun v_3 hv_3 hm => jc (op_cmpI lb (.tmp rfl) (.tmp rfl) (cs hv_3)) <| jn <| jif (.tmp rfl) hm (fun hc1 hm => ?_) (fun hc1 hm => ?_)
 · refine jr <| jc (op_assign lb .cB) <| jn <| JC.ret <| JQ.outR ?_
   obtain rfl := so hm
   exact jd (.val (S rB false)) rfl rfl rfl rfl rfl rfl
 refine JC.skip <| JQ.then <| bI hm fun tv2 hx2 hq2 => JC.seqK (α := Unit) (γ := Unit) (stj := fun v q => ⟨[], [], []⟩) (p := fun v => tv2 = (.inl v)) (fun v q hv => ?_) ?_
 · subst hv
   skip
   obtain _ := q
   dsimp only at hq2
   refine JC.at ⟨[], [], []⟩ <| jr <| jc (op_assign lb .cB) <| jn <| JC.ret ?_
   obtain rfl := so hq2
   exact jd (.val (S rB true)) rfl rfl rfl rfl rfl rfl
 refine jr <| jmv rfl rfl <| jc (op_lenL lb tu27 (.tmp rfl)) <| jc (op_move lb .cI) <| jn <| JC.block <| bI hx2 fun tv3 hL3 hq3 => JC.pre ?_ (JC.loop (γ := Unit) (stf := fun s q => ⟨[(0, ov (S (rL (rU UInt8)) s1_1)), (1, ov (S (rL (rU UInt8)) s2_2)), (12, ov (S (rI .i64) (List.length s1_1 : Int))), (13, ov (S (rI .i64) s))], [], []⟩) (q := ()) hL3 ?_)
 · exact (Imp.norm (js := []) rfl (.cons rfl (.cons rfl (.cons rfl (.cons rfl .nil)))))
 intro x_4 q x hx hr
 obtain _ := q
 change slices_Equalbyte_byte.b1 k s1_1 s2_2 x_4 = some x at hx
 unfold slices_Equalbyte_byte.b1 at hx
 refine JC.at ⟨[(0, ov (S (rL (rU UInt8)) s1_1)), (1, ov (S (rL (rU UInt8)) s2_2)), (12, ov (S (rI .i64) (List.length s1_1 : Int))), (13, ov (S (rI .i64) x_4))], [], []⟩ <| jr <| lI hx fun v_5 hv_5 hx => jc (op_cmpI lb (.tmp rfl) (.tmp rfl) (cs hv_5)) <| jn <| JC.seq <| jif (.tmp rfl) hx (fun hc4 hx => ?_) (fun hc4 hx => ?_)
 · refine JC.skip <| JQ.then <| JC.seq <| JC.block <| jr <| jmv rfl rfl <| jc (op_assign lb (.tmp rfl)) <| jn <| JC.seq <| bI hx fun v_6 hv_6 hx => bI hx fun v_7 hv_7 hx => ?_
   obtain ⟨v_8, hv_8, hx⟩ := lt1_inv hx
   refine JC.anyF (base := [(0, ov (S (rL (rU UInt8)) s1_1)), (1, ov (S (rL (rU UInt8)) s2_2)), (5, ov (S (rI .i64) x_4)), (12, ov (S (rI .i64) (List.length s1_1 : Int))), (13, ov (S (rI .i64) x_4))])
       (fs := fun γ => [⟨some 16, ov (S (rL (rU UInt8)) s1_1)⟩, ⟨some 17, ov (S (rI .i64) x_4)⟩, ⟨some 18, ov (PT (rU UInt8) v_6)⟩, ⟨some 19, ov (S (rU UInt8) v_6)⟩, ⟨some 20, ov (S (rL (rU UInt8)) s2_2)⟩, ⟨some 21, ov (S (rI .i64) x_4)⟩, ⟨some 22, ov (PT (rU UInt8) v_7)⟩, ⟨some 23, ov (S (rU UInt8) v_7)⟩, ⟨some 24, ov (S rB v_8)⟩])
       (rs := fun γ => [])
       (afts := nn 9) (js := []) mixed (.cons rfl (.cons rfl (.cons rfl (.cons rfl (.cons rfl .nil))))) (fun _ => rfl)
       (by
      refine db 1 0 <| db 2 5 <| dS 3 (fun γ ρ B hb hd => op_indexAddrLg lb tu27 tz5 (tl hd 0 16) (tl hd 1 17) hv_6) <| dS 4 (fun γ ρ B hb hd => op_loadPSg lb tS5 rfl (tl hd 2 18) rfl) <| db 5 1 ?_
      refine db 6 5 <| dS 7 (fun γ ρ B hb hd => op_indexAddrLg lb tu27 tz5 (tl hd 4 20) (tl hd 5 21) hv_7) <| dS 8 (fun γ ρ B hb hd => op_loadPSg lb tS5 rfl (tl hd 6 22) rfl) <| dS 9 (fun γ ρ B hb hd => op_cmpU lb (tl hd 3 19) (tl hd 7 23) (cs hv_8)) ?_
      exact DSteps.nil)
       (by decide +kernel) (fun _ => rfl) (fun _ => rfl) (fun _ => rfl) rfl
       (ρ' := fun γ => [(0, ov (S (rL (rU UInt8)) s1_1)), (1, ov (S (rL (rU UInt8)) s2_2)), (12, ov (S (rI .i64) (List.length s1_1 : Int))), (13, ov (S (rI .i64) x_4)), (24, ov (S rB v_8))])
       (X' := fun γ => [])
       (fun γ ρ hb hd => (.cons (hb 0 _ rfl) (.cons (hb 1 _ rfl) (.cons (hb 12 _ rfl) (.cons (hb 13 _ rfl) (.cons (hdq hd 8 24 rfl) .nil)))))) (fun _ => rfl) (fun γ => ?_)
   refine JQ.at ⟨[(0, ov (S (rL (rU UInt8)) s1_1)), (1, ov (S (rL (rU UInt8)) s2_2)), (12, ov (S (rI .i64) (List.length s1_1 : Int))), (13, ov (S (rI .i64) x_4)), (24, ov (S rB v_8))], [], []⟩ <| JQ.then <| jif (.tmp rfl) hx (fun hc5 hx => ?_) (fun hc5 hx => ?_)
   · refine jr <| jc (op_assign lb .cB) <| jn <| JC.ret <| JQ.outRB <| JQ.outR ?_
     try obtain rfl := so hx
     try obtain rfl := hr _ rfl
     dsimp only at hq3
     refine JQ.outR <| JQ.outRB ?_
     try obtain rfl := so hq3
     dsimp only at hq2
     refine JQ.outR ?_
     obtain rfl := so hq2
     exact jd (.val (S rB false)) rfl rfl rfl rfl rfl rfl
   refine JC.skip <| JQ.outNB <| JQ.then <| JC.region <| lI hx fun v_9 hv_9 hx => jc (op_arI lb (.tmp rfl) .cI (cs hv_9)) <| jmv rfl rfl <| JL.nil ?_
   try obtain rfl := so hx
   exact JQ.next () rfl (Imp.norm (js := []) rfl (.cons rfl (.cons rfl (.cons rfl (.cons rfl .nil)))))
 refine JC.exit <| JQ.outX ?_
 try obtain rfl := so hx
 try obtain rfl := hr _ rfl
 dsimp only at hq3
 refine JQ.outX <| JQ.here ?_
 try obtain rfl := so hq3
 exact JQ.joinK () () rfl (Imp.norm (js := []) rfl .nil)

theorem sim_slices_Equalapi_Dest_api_Dest (k : Nat) (s1_1 : (List api_Dest)) (s2_2 : (List api_Dest)) (r : Bool) (hm : slices_Equalapi_Dest_api_Dest k s1_1 s2_2 = some r) : Sim Tryz.prog 110 [S (rL r_api_Dest) s1_1, S (rL r_api_Dest) s2_2] [] (γ := Unit) (fun q => []) (fun q => .one (.val (S rB r))) := by
 unfold slices_Equalapi_Dest_api_Dest at hm
 refine Sim.of Tryz.func110 rfl rfl (lE rfl) (fun e0 w0 => ?_)
 refine JC.at ⟨[(0, ov (S (rL r_api_Dest) s1_1)), (1, ov (S (rL r_api_Dest) s2_2))], [], []⟩ <| jr <| jc (op_assign lb .cB) <| jn <| JC.seq <| jr <| jmv rfl rfl <| jc (op_lenL lb tu30 (.tmp rfl)) <| jmv rfl rfl <| jc (op_lenL lb tu30 (.tmp rfl)) <| lI hm fun v_3 hv_3 hm => jc (op_cmpI lb (.tmp rfl) (.tmp rfl) (cs hv_3)) <| jn <| jif (.tmp rfl) hm (fun hc1 hm => ?_) (fun hc1 hm => ?_)
 · refine jr <| jc (op_assign lb .cB) <| jn <| JC.ret <| JQ.outR ?_
   obtain rfl := so hm
   exact jd (.val (S rB false)) rfl rfl rfl rfl rfl rfl
 refine JC.skip <| JQ.then <| bI hm fun tv2 hx2 hq2 => JC.seqK (α := Unit) (γ := Unit) (stj := fun v q => ⟨[], [], []⟩) (p := fun v => tv2 = (.inl v)) (fun v q hv => ?_) ?_
 · subst hv
   skip
   obtain _ := q
   dsimp only at hq2
   refine JC.at ⟨[], [], []⟩ <| jr <| jc (op_assign lb .cB) <| jn <| JC.ret ?_
   obtain rfl := so hq2
   exact jd (.val (S rB true)) rfl rfl rfl rfl rfl rfl
 refine jr <| jmv rfl rfl <| jc (op_lenL lb tu30 (.tmp rfl)) <| jc (op_move lb .cI) <| jn <| JC.block <| bI hx2 fun tv3 hL3 hq3 => JC.pre ?_ (JC.loop (γ := Unit) (stf := fun s q => ⟨[(0, ov (S (rL r_api_Dest) s1_1)), (1, ov (S (rL r_api_Dest) s2_2)), (12, ov (S (rI .i64) (List.length s1_1 : Int))), (13, ov (S (rI .i64) s))], [], []⟩) (q := ()) hL3 ?_)
 · exact (Imp.norm (js := []) rfl (.cons rfl (.cons rfl (.cons rfl (.cons rfl .nil)))))
 intro x_4 q x hx hr
 obtain _ := q
 change slices_Equalapi_Dest_api_Dest.b1 k s1_1 s2_2 x_4 = some x at hx
 unfold slices_Equalapi_Dest_api_Dest.b1 at hx
 refine JC.at ⟨[(0, ov (S (rL r_api_Dest) s1_1)), (1, ov (S (rL r_api_Dest) s2_2)), (12, ov (S (rI .i64) (List.length s1_1 : Int))), (13, ov (S (rI .i64) x_4))], [], []⟩ <| jr <| lI hx fun v_5 hv_5 hx => jc (op_cmpI lb (.tmp rfl) (.tmp rfl) (cs hv_5)) <| jn <| JC.seq <| jif (.tmp rfl) hx (fun hc4 hx => ?_) (fun hc4 hx => ?_)
 · refine JC.skip <| JQ.then <| JC.seq <| JC.block <| jr <| jmv rfl rfl <| jc (op_assign lb (.tmp rfl)) <| jn <| JC.seq <| bI hx fun v_6 hv_6 hx => bI hx fun v_7 hv_7 hx => ?_
   obtain ⟨v_8, hv_8, hx⟩ := lt1_inv hx
   refine JC.anyF (base := [(0, ov (S (rL r_api_Dest) s1_1)), (1, ov (S (rL r_api_Dest) s2_2)), (5, ov (S (rI .i64) x_4)), (12, ov (S (rI .i64) (List.length s1_1 : Int))), (13, ov (S (rI .i64) x_4))])
       (fs := fun γ => [⟨some 16, ov (S (rL r_api_Dest) s1_1)⟩, ⟨some 17, ov (S (rI .i64) x_4)⟩, ⟨some 18, ov (PT r_api_Dest v_6)⟩, ⟨some 19, ov (A r_api_Dest v_6)⟩, ⟨some 20, ov (S (rL r_api_Dest) s2_2)⟩, ⟨some 21, ov (S (rI .i64) x_4)⟩, ⟨some 22, ov (PT r_api_Dest v_7)⟩, ⟨some 23, ov (A r_api_Dest v_7)⟩, ⟨some 24, ov (S rB v_8)⟩])
       (rs := fun γ => [])
       (afts := nn 9) (js := []) mixed (.cons rfl (.cons rfl (.cons rfl (.cons rfl (.cons rfl .nil))))) (fun _ => rfl)
       (by
      refine db 1 0 <| db 2 5 <| dS 3 (fun γ ρ B hb hd => op_indexAddrLg lb tu30 tz125 (tl hd 0 16) (tl hd 1 17) hv_6) <| dS 4 (fun γ ρ B hb hd => op_loadPAg lb tA125 (tl hd 2 18) rfl) <| db 5 1 ?_
      refine db 6 5 <| dS 7 (fun γ ρ B hb hd => op_indexAddrLg lb tu30 tz125 (tl hd 4 20) (tl hd 5 21) hv_7) <| dS 8 (fun γ ρ B hb hd => op_loadPAg lb tA125 (tl hd 6 22) rfl) <| dS 9 (fun γ ρ B hb hd => op_neA lb qa125 (by decide) ng125 (tl hd 3 19) (tl hd 7 23) hv_8) ?_
      exact DSteps.nil)
       (by decide +kernel) (fun _ => rfl) (fun _ => rfl) (fun _ => rfl) rfl
       (ρ' := fun γ => [(0, ov (S (rL r_api_Dest) s1_1)), (1, ov (S (rL r_api_Dest) s2_2)), (12, ov (S (rI .i64) (List.length s1_1 : Int))), (13, ov (S (rI .i64) x_4)), (24, ov (S rB v_8))])
       (X' := fun γ => [])
       (fun γ ρ hb hd => (.cons (hb 0 _ rfl) (.cons (hb 1 _ rfl) (.cons (hb 12 _ rfl) (.cons (hb 13 _ rfl) (.cons (hdq hd 8 24 rfl) .nil)))))) (fun _ => rfl) (fun γ => ?_)
   refine JQ.at ⟨[(0, ov (S (rL r_api_Dest) s1_1)), (1, ov (S (rL r_api_Dest) s2_2)), (12, ov (S (rI .i64) (List.length s1_1 : Int))), (13, ov (S (rI .i64) x_4)), (24, ov (S rB v_8))], [], []⟩ <| JQ.then <| jif (.tmp rfl) hx (fun hc5 hx => ?_) (fun hc5 hx => ?_)
   · refine jr <| jc (op_assign lb .cB) <| jn <| JC.ret <| JQ.outRB <| JQ.outR ?_
     try obtain rfl := so hx
     try obtain rfl := hr _ rfl
     dsimp only at hq3
     refine JQ.outR <| JQ.outRB ?_
     try obtain rfl := so hq3
     dsimp only at hq2
     refine JQ.outR ?_
     obtain rfl := so hq2
     exact jd (.val (S rB false)) rfl rfl rfl rfl rfl rfl
   refine JC.skip <| JQ.outNB <| JQ.then <| JC.region <| lI hx fun v_9 hv_9 hx => jc (op_arI lb (.tmp rfl) .cI (cs hv_9)) <| jmv rfl rfl <| JL.nil ?_
   try obtain rfl := so hx
   exact JQ.next () rfl (Imp.norm (js := []) rfl (.cons rfl (.cons rfl (.cons rfl (.cons rfl .nil)))))
 refine JC.exit <| JQ.outX ?_
 try obtain rfl := so hx
 try obtain rfl := hr _ rfl
 dsimp only at hq3
 refine JQ.outX <| JQ.here ?_
 try obtain rfl := so hq3
 exact JQ.joinK () () rfl (Imp.norm (js := []) rfl .nil)

theorem sim_event_Same (k : Nat) (a_1 : api_Event) (b_2 : api_Event) (r : Bool) (hm : event_Same k a_1 b_2 = some r) : Sim Tryz.prog 70 [A r_api_Event a_1, A r_api_Event b_2] [] (γ := Unit) (fun q => []) (fun q => .one (.val (S rB r))) := by
 unfold event_Same at hm
 refine Sim.of Tryz.func70 rfl rfl (lE rfl) (fun e0 w0 => ?_)
 refine JC.at ⟨[(0, ov (A r_api_Event a_1)), (1, ov (A r_api_Event b_2))], [], []⟩ <| jr <| jx (op_boxA lb (.tmp rfl)) fun gb_3 => jx (op_boxA lb (.tmp rfl)) fun gb_4 => jc (op_assign lb .cB) <| jn <| bI hm fun x_14 hx1 hq1 => JC.seqJ (γ := Unit) (stj := fun _ => ⟨[(4, ov (S rB x_14))], [], []⟩) (fun _ => ?_) ?_
 · refine JC.ret ?_
   obtain rfl := so hq1
   exact jd (.val (S rB x_14)) rfl rfl rfl rfl rfl rfl
 refine JC.region <| jc (op_fieldAddr (off := 0) lb tf32_0 (.tmp rfl)) <| jc (op_loadA (j := 0) lb tA26 (.tmp rfl) rfl (cT (comp_api_Event_ID a_1) rfl) rfl) <| jc (op_fieldAddr (off := 0) lb tf32_0 (.tmp rfl)) <| jc (op_loadA (j := 1) lb tA26 (.tmp rfl) rfl (cT (comp_api_Event_ID b_2) rfl) rfl) <| lI hx1 fun v_5 hv_5 hx1 => jc (op_eqA lb qa26 (by decide) ng26 (.tmp rfl) (.tmp rfl) hv_5) <| JL.sub ⟨[(2, ov (PTR gb_3 0)), (3, ov (PTR gb_4 0)), (4, ov (S rB false)), (9, ov (S rB v_5))], [cvar gb_3 r_api_Event a_1, cvar gb_4 r_api_Event b_2], []⟩ (.cons rfl (.cons rfl (.cons rfl (.cons rfl .nil)))) rfl rfl <| jmv rfl rfl <| jT (ov (PTR gb_3 (0 + 2))) rfl rfl rfl rfl (fun hq_2 => op_fieldAddr (off := 2) lb tf32_1 (.tmp rfl)) <| jT (ov (S rS a_1.Topic)) rfl rfl rfl rfl (fun hq_3 => op_loadS (j := 0) lb tS9 (HasO.cnd (.tmp rfl) hq_3) rfl (cT (comp_api_Event_Topic a_1) rfl) rfl rfl) <| jT (ov (PTR gb_4 (0 + 2))) rfl rfl rfl rfl (fun hq_4 => op_fieldAddr (off := 2) lb tf32_1 (.tmp rfl)) <| jT (ov (S rS b_2.Topic)) rfl rfl rfl rfl (fun hq_5 => op_loadS (j := 1) lb tS9 (HasO.cnd (.tmp rfl) hq_5) rfl (cT (comp_api_Event_Topic b_2) rfl) rfl rfl) ?_
 refine lI hx1 fun v_6 hv_6 hx1 => jT (ov (S rB v_6)) rfl rfl rfl rfl (fun hq_6 => op_cmpS lb (HasO.cnd (.tmp rfl) hq_6) (HasO.cnd (.tmp rfl) hq_6) (cs hv_6)) <| lI hx1 fun v_7 hv_7 hx1 => jc (op_pickCS lb (.tmp rfl) (fun hb7 => (HasO.cnd (.tmp rfl) hb7)) (fun hb7 => .cB) hv_7) <| jmv rfl rfl <| jT (ov (PTR gb_3 (0 + 3))) rfl rfl rfl rfl (fun hq_8 => op_fieldAddr (off := 3) lb tf32_2 (.tmp rfl)) <| jT (ov (S (rL (rU UInt8)) a_1.Payload)) rfl rfl rfl rfl (fun hq_9 => op_loadS (j := 0) lb tS27 (HasO.cnd (.tmp rfl) hq_9) rfl (cT (comp_api_Event_Payload a_1) rfl) rfl rfl) <| jT (ov (PTR gb_4 (0 + 3))) rfl rfl rfl rfl (fun hq_10 => op_fieldAddr (off := 3) lb tf32_2 (.tmp rfl)) <| jT (ov (S (rL (rU UInt8)) b_2.Payload)) rfl rfl rfl rfl (fun hq_11 => op_loadS (j := 1) lb tS27 (HasO.cnd (.tmp rfl) hq_11) rfl (cT (comp_api_Event_Payload b_2) rfl) rfl rfl) <| JL.sub ⟨[(2, ov (PTR gb_3 0)), (3, ov (PTR gb_4 0)), (4, ov (S rB false)), (17, ov (S rB v_7)), (19, bif v_7 then ov (S (rL (rU UInt8)) a_1.Payload) else .one .und), (21, bif v_7 then ov (S (rL (rU UInt8)) b_2.Payload) else .one .und)], [cvar gb_3 r_api_Event a_1, cvar gb_4 r_api_Event b_2], []⟩ (.cons rfl (.cons rfl (.cons rfl (.cons rfl (.cons rfl (.cons rfl .nil)))))) rfl rfl ?_
 refine bI hx1 fun v_8 hv_8 hx1 => jT (ov (S rB v_8)) rfl rfl rfl rfl (fun hq_12 => (op_call (js := []) ld cl55 (sim_slices_Equalbyte_byte k a_1.Payload b_2.Payload v_8 (ifT hv_8 hq_12)) .func (.cons (HasO.cnd (.tmp rfl) hq_12) (.cons (HasO.cnd (.tmp rfl) hq_12) .nil)) rfl).post (fun _ => Imp.refl)) <| lI hx1 fun v_9 hv_9 hx1 => jc (op_pickCS lb (.tmp rfl) (fun hb13 => (HasO.cnd (.tmp rfl) hb13)) (fun hb13 => .cB) hv_9) <| jmv rfl rfl <| jT (ov (PTR gb_3 (0 + 4))) rfl rfl rfl rfl (fun hq_14 => op_fieldAddr (off := 4) lb tf32_3 (.tmp rfl)) <| jT (ov (A (rV 16 (rU UInt64)) a_1.Past)) rfl rfl rfl rfl (fun hq_15 => op_loadA (j := 0) lb tA29 (HasO.cnd (.tmp rfl) hq_15) rfl (cT (comp_api_Event_Past a_1) rfl) rfl) <| jT (ov (PTR gb_4 (0 + 4))) rfl rfl rfl rfl (fun hq_16 => op_fieldAddr (off := 4) lb tf32_3 (.tmp rfl)) <| jT (ov (A (rV 16 (rU UInt64)) b_2.Past)) rfl rfl rfl rfl (fun hq_17 => op_loadA (j := 1) lb tA29 (HasO.cnd (.tmp rfl) hq_17) rfl (cT (comp_api_Event_Past b_2) rfl) rfl) ?_
 obtain ⟨v_10, hv_10, hx1⟩ := lt1_inv hx1
 refine jT (ov (S rB v_10)) rfl rfl rfl rfl (fun hq_18 => op_eqA lb qa29 (by decide) ng29 (HasO.cnd (.tmp rfl) hq_18) (HasO.cnd (.tmp rfl) hq_18) hv_10) <| lI hx1 fun v_11 hv_11 hx1 => jc (op_pickCS lb (.tmp rfl) (fun hb19 => (HasO.cnd (.tmp rfl) hb19)) (fun hb19 => .cB) hv_11) <| jmv rfl rfl <| jT (ov (PTR gb_3 (0 + 20))) rfl rfl rfl rfl (fun hq_20 => op_fieldAddr (off := 20) lb tf32_4 (.tmp rfl)) <| jT (ov (S (rL r_api_Dest) a_1.To)) rfl rfl rfl rfl (fun hq_21 => op_loadS (j := 0) lb tS30 (HasO.cnd (.tmp rfl) hq_21) rfl (cT (comp_api_Event_To a_1) rfl) rfl rfl) <| JL.nrm ⟨[(3, ov (PTR gb_4 0)), (4, ov (S rB false)), (31, ov (S rB v_11)), (33, bif v_11 then ov (S (rL r_api_Dest) a_1.To) else .one .und)], [cvar gb_4 r_api_Event b_2], []⟩ [1] rfl (.cons rfl (.cons rfl (.cons rfl (.cons rfl .nil)))) rfl <| jT (ov (PTR gb_4 (0 + 20))) rfl rfl rfl rfl (fun hq_22 => op_fieldAddr (off := 20) lb tf32_4 (.tmp rfl)) <| jT (ov (S (rL r_api_Dest) b_2.To)) rfl rfl rfl rfl (fun hq_23 => op_loadS (j := 0) lb tS30 (HasO.cnd (.tmp rfl) hq_23) rfl (cT (comp_api_Event_To b_2) rfl) rfl rfl) ?_
 obtain ⟨v_12, hv_12, hx1⟩ := bnd_inv hx1
 refine jT (ov (S rB v_12)) rfl rfl rfl rfl (fun hq_24 => (op_call (js := []) ld cl110 (sim_slices_Equalapi_Dest_api_Dest k a_1.To b_2.To v_12 (ifT hv_12 hq_24)) .func (.cons (HasO.cnd (.tmp rfl) hq_24) (.cons (HasO.cnd (.tmp rfl) hq_24) .nil)) rfl).post (fun _ => Imp.refl)) <| lI hx1 fun v_13 hv_13 hx1 => jc (op_pickCS lb (.tmp rfl) (fun hb25 => (HasO.cnd (.tmp rfl) hb25)) (fun hb25 => .cB) hv_13) <| jc (op_assign lb (.tmp rfl)) <| JL.nil ?_
 try obtain rfl := so hx1
 exact jo rfl rfl rfl

end Go.Proofs.YtklnihlchhhhlaaGreat
