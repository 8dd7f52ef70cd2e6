/- Walks. -/
import Derived.Test.YtklnihlchhhhlaaGreatT
import Derived.Test.YtklnihlchhhhlaaGreatW5
import Derived.Test.YtklnihlchhhhlaaGreatW6
namespace Go.Proofs.YtklnihlchhhhlaaGreat
open Go Fw
set_option linter.unusedVariables false
set_option maxRecDepth 100000
set_option maxHeartbeats 4000000

theorem sim_ref11_May (k : Nat) (t_1 : api_Frame) (r : Bool) (hm : ref11_May k t_1 = some r) : Sim Tryz.prog 12 [A r_api_Frame t_1] [] (γ := Unit) (fun q => []) (fun q => .one (.val (S rB r))) := by
 unfold ref11_May at hm
 refine Sim.of Tryz.func12 rfl rfl (lE rfl) (fun e0 w0 => ?_)
 refine JC.at ⟨[(0, ov (A r_api_Frame t_1))], [], []⟩ <| jr <| jx (op_boxA lb (.tmp rfl)) fun gb_2 => jc (op_assign lb .cB) <| jn <| JC.seq <| bI hm fun x_15 hx1 hq1 => JC.seqJ (γ := Unit) (stj := fun _ => ⟨[(1, ov (PTR gb_2 0)), (33, ov (S rB x_15))], [cvar gb_2 r_api_Frame t_1], []⟩) (fun _ => ?_) ?_
 · refine jif (.tmp rfl) hq1 (fun hc24 hq1 => ?_) (fun hc24 hq1 => ?_)
   · refine jr <| jc (op_assign lb .cB) <| jn <| JC.ret <| JQ.outR ?_
     obtain rfl := so hq1
     exact jd (.val (S rB false)) rfl rfl rfl rfl rfl rfl
   refine JC.skip <| JQ.then <| bI hq1 fun tv25 hx25 hq25 => JC.seqK (α := Unit) (γ := Unit) (stj := fun v q => ⟨[], [], []⟩) (p := fun v => tv25 = (.inl v)) (fun v q hv => ?_) ?_
   · subst hv
     skip
     obtain _ := q
     dsimp only at hq25
     refine JC.at ⟨[], [], []⟩ <| jr <| jc (op_assign lb .cB) <| jn <| JC.ret ?_
     obtain rfl := so hq25
     exact jd (.val (S rB false)) rfl rfl rfl rfl rfl rfl
   refine jr <| jc (op_fieldAddr (off := 0) lb tf39_0 (.tmp rfl)) <| jc (op_loadS (j := 0) lb tS22 (.tmp rfl) rfl (cT (comp_api_Frame_Kind t_1) rfl) rfl rfl) <| jn <| JC.block <| jr <| lI hx25 fun v_16 hv_16 hx25 => jc (op_cmpI lb (.tmp rfl) .cI (cs hv_16)) <| jc (op_assign lb (.tmp rfl)) <| jn <| jif (.tmp rfl) hx25 (fun hc26 hx25 => ?_) (fun hc26 hx25 => ?_)
   · refine bI hx25 fun x_20 hx27 hq27 => JC.seqJ (γ := Unit) (stj := fun _ => ⟨[(2, ov (S rB x_20))], [], []⟩) (fun _ => ?_) ?_
     · refine JC.ret <| JQ.outRB ?_
       try obtain rfl := so hq27
       dsimp only at hq25
       refine JQ.outR ?_
       obtain rfl := so hq25
       exact jd (.val (S rB x_20)) rfl rfl rfl rfl rfl rfl
     refine JC.region <| jc (op_fieldAddr (off := 3) lb tf39_3 (.tmp rfl)) <| jc (op_loadS (j := 0) lb tS23 (.tmp rfl) rfl (cT (comp_api_Frame_Items t_1) rfl) rfl rfl) <| jc (op_lenL lb tu23 (.tmp rfl)) <| lI hx27 fun v_17 hv_17 hx27 => jc (op_cmpI lb (.tmp rfl) .cI (cs hv_17)) <| jmv rfl rfl <| jT (ov (PTR gb_2 (0 + 3))) rfl rfl rfl rfl (fun hq_28 => op_fieldAddr (off := 3) lb tf39_3 (.tmp rfl)) <| jT (ov (S (rL r_api_Item) t_1.Items)) rfl rfl rfl rfl (fun hq_29 => op_loadS (j := 0) lb tS23 (HasO.cnd (.tmp rfl) hq_29) rfl (cT (comp_api_Frame_Items t_1) rfl) rfl rfl) <| bI hx27 fun v_18 hv_18 hx27 => jT (ov (S rB v_18)) rfl rfl rfl rfl (fun hq_30 => (op_call (js := []) ld cl38 (sim_ref11_mayItems k t_1.Items v_18 (ifT hv_18 hq_30)) .func (.cons (HasO.cnd (.tmp rfl) hq_30) .nil) rfl).post (fun _ => Imp.refl)) <| JL.nrm ⟨[(42, ov (S rB v_17)), (45, bif v_17 then ov (S rB v_18) else .one .und)], [], []⟩ [] rfl (.cons rfl (.cons rfl .nil)) rfl ?_
     obtain ⟨v_19, hv_19, hx27⟩ := lt1_inv hx27
     refine jc (op_pickCS lb (.tmp rfl) (fun hb31 => (HasO.cnd (.tmp rfl) hb31)) (fun hb31 => .cB) hv_19) <| jc (op_assign lb (.tmp rfl)) <| JL.nil ?_
     try obtain rfl := so hx27
     exact jo rfl rfl rfl
   refine jr <| lI hx25 fun v_21 hv_21 hx25 => jc (op_cmpI lb (.tmp rfl) .cI (cs hv_21)) <| jc (op_assign lb (.tmp rfl)) <| jn <| jif (.tmp rfl) hx25 (fun hc32 hx25 => ?_) (fun hc32 hx25 => ?_)
   · refine jr <| jc (op_fieldAddr (off := 4) lb tf39_4 (.tmp rfl)) <| jc (op_loadA (j := 0) lb tA32 (.tmp rfl) rfl (cT (comp_api_Frame_Event t_1) rfl) rfl) <| bI hx25 fun v_22 hv_22 hx25 => jx (op_call (js := []) ld cl39 (sim_ref09_May k t_1.Event v_22 hv_22) .func (.cons (.tmp rfl) .nil) rfl) fun _ => jc (op_assign lb (.tmp rfl)) <| jn <| JC.ret <| JQ.outRB ?_
     try obtain rfl := so hx25
     dsimp only at hq25
     refine JQ.outR ?_
     obtain rfl := so hq25
     exact jd (.val (S rB v_22)) rfl rfl rfl rfl rfl rfl
   refine jr <| lI hx25 fun v_23 hv_23 hx25 => jc (op_cmpI lb (.tmp rfl) .cI (cs hv_23)) <| jc (op_assign lb (.tmp rfl)) <| jn <| jif (.tmp rfl) hx25 (fun hc33 hx25 => ?_) (fun hc33 hx25 => ?_)
   · refine jr <| jc (op_fieldAddr (off := 25) lb tf39_5 (.tmp rfl)) <| jc (op_loadA (j := 0) lb tA29 (.tmp rfl) rfl (cT (comp_api_Frame_Past t_1) rfl) rfl) <| bI hx25 fun v_24 hv_24 hx25 => jx (op_call (js := []) ld cl40 (sim_ref09_MayVector k t_1.Past v_24 hv_24) .func (.cons (.tmp rfl) .nil) rfl) fun _ => jc (op_assign lb (.tmp rfl)) <| JL.nrm ⟨[(2, ov (S rB v_24))], [], []⟩ [] rfl (.cons rfl .nil) rfl <| jn <| JC.ret <| JQ.outRB ?_
     try obtain rfl := so hx25
     dsimp only at hq25
     refine JQ.outR ?_
     obtain rfl := so hq25
     exact jd (.val (S rB v_24)) rfl rfl rfl rfl rfl rfl
   refine jr <| lI hx25 fun v_25 hv_25 hx25 => jc (op_cmpI lb (.tmp rfl) .cI (cs hv_25)) <| jc (op_assign lb (.tmp rfl)) <| jn <| jif (.tmp rfl) hx25 (fun hc34 hx25 => ?_) (fun hc34 hx25 => ?_)
   · refine bI hx25 fun tv35 hx35 hq35 => JC.seqK (α := Unit) (γ := Unit) (stj := fun v q => ⟨[(1, ov (PTR gb_2 0))], [cvar gb_2 r_api_Frame t_1], []⟩) (p := fun v => tv35 = (.inl v)) (fun v q hv => ?_) ?_
     · subst hv
       skip
       obtain _ := q
       dsimp only at hq35
       refine JC.at ⟨[(1, ov (PTR gb_2 0))], [cvar gb_2 r_api_Frame t_1], []⟩ <| bI hq35 fun x_44 hx59 hq59 => JC.seqJ (γ := Unit) (stj := fun _ => ⟨[(2, ov (S rB x_44))], [], []⟩) (fun _ => ?_) ?_
       · refine JC.ret <| JQ.outRB ?_
         try obtain rfl := so hq59
         dsimp only at hq25
         refine JQ.outR ?_
         obtain rfl := so hq25
         exact jd (.val (S rB x_44)) rfl rfl rfl rfl rfl rfl
       refine JC.region <| jc (op_fieldAddr (off := 58) lb tf39_8 (.tmp rfl)) <| jc (op_loadS (j := 0) lb tS33 (.tmp rfl) rfl (cT (comp_api_Frame_Live t_1) rfl) rfl rfl) <| jc (op_lenL lb tu33 (.tmp rfl)) <| lI hx59 fun v_41 hv_41 hx59 => jc (op_cmpI lb (.tmp rfl) .cI (cs hv_41)) <| jmv rfl rfl <| jT (ov (PTR gb_2 (0 + 41))) rfl rfl rfl rfl (fun hq_60 => op_fieldAddr (off := 41) lb tf39_6 (.tmp rfl)) <| jT (ov (A (rV 16 (rU UInt64)) t_1.Seen)) rfl rfl rfl rfl (fun hq_61 => op_loadA (j := 0) lb tA29 (HasO.cnd (.tmp rfl) hq_61) rfl (cT (comp_api_Frame_Seen t_1) rfl) rfl) <| jT (ov (PTR gb_2 (0 + 57))) rfl rfl rfl rfl (fun hq_62 => op_fieldAddr (off := 57) lb tf39_7 (.tmp rfl)) <| jT (ov (S (rL r_api_Dot) t_1.Extra)) rfl rfl rfl rfl (fun hq_63 => op_loadS (j := 0) lb tS33 (HasO.cnd (.tmp rfl) hq_63) rfl (cT (comp_api_Frame_Extra t_1) rfl) rfl rfl) <| bI hx59 fun v_42 hv_42 hx59 => jT (ov (S rB v_42)) rfl rfl rfl rfl (fun hq_64 => (op_call (js := []) ld cl43 (sim_ref11_Seen k t_1.Seen t_1.Extra v_42 (ifT hv_42 hq_64)) .func (.cons (HasO.cnd (.tmp rfl) hq_64) (.cons (HasO.cnd (.tmp rfl) hq_64) .nil)) rfl).post (fun _ => Imp.refl)) ?_
       refine lI hx59 fun v_43 hv_43 hx59 => jc (op_pickCS lb (.tmp rfl) (fun hb65 => (HasO.cnd (.tmp rfl) hb65)) (fun hb65 => .cB) hv_43) <| jc (op_assign lb (.tmp rfl)) <| JL.nrm ⟨[(2, ov (S rB v_43))], [], []⟩ [] rfl (.cons rfl .nil) rfl <| JL.nil ?_
       try obtain rfl := so hx59
       exact jo rfl rfl rfl
     refine jr <| jc (op_assign lb .cI) <| jn <| JC.block <| bI hx35 fun tv36 hL36 hq36 => JC.pre ?_ (JC.loop (γ := Unit) (stf := fun s q => ⟨[(1, ov (PTR gb_2 0)), (3, ov (S (rI .i64) s))], [cvar gb_2 r_api_Frame t_1], []⟩) (q := ()) hL36 ?_)
     · exact (Imp.norm (js := [0]) rfl (.cons rfl (.cons rfl .nil)))
     intro x_26 q x hx hr
     obtain _ := q
     change ref11_May.b1 k t_1 x_26 = some x at hx
     unfold ref11_May.b1 at hx
     refine JC.at ⟨[(1, ov (PTR gb_2 0)), (3, ov (S (rI .i64) x_26))], [cvar gb_2 r_api_Frame t_1], []⟩ <| JC.seq <| jr <| jmv rfl rfl <| jc (op_fieldAddr (off := 58) lb tf39_8 (.tmp rfl)) <| jc (op_loadS (j := 0) lb tS33 (.tmp rfl) rfl (cT (comp_api_Frame_Live t_1) rfl) rfl rfl) <| jc (op_lenL lb tu33 (.tmp rfl)) <| lI hx fun v_27 hv_27 hx => jc (op_cmpI lb (.tmp rfl) (.tmp rfl) (cs hv_27)) <| jn <| jif (.tmp rfl) hx (fun hc37 hx => ?_) (fun hc37 hx => ?_)
     · refine JC.skip <| JQ.then <| JC.seq <| JC.block <| bI hx fun x_39 hx38 hq38 => JC.seqJ (γ := Unit) (stj := fun _ => ⟨[(1, ov (PTR gb_2 0)), (3, ov (S (rI .i64) x_26)), (91, ov (S rB x_39))], [cvar gb_2 r_api_Frame t_1], []⟩) (fun _ => ?_) ?_
       · refine jif (.tmp rfl) hq38 (fun hc58 hq38 => ?_) (fun hc58 hq38 => ?_)
         · refine jr <| jc (op_assign lb .cB) <| jn <| JC.ret <| JQ.outRB <| JQ.outR ?_
           try obtain rfl := so hq38
           try obtain rfl := hr _ rfl
           dsimp only at hq36
           refine JQ.outR <| JQ.outRB ?_
           try obtain rfl := so hq36
           dsimp only at hq35
           refine JQ.outR <| JQ.outRB ?_
           try obtain rfl := so hq35
           dsimp only at hq25
           refine JQ.outR ?_
           obtain rfl := so hq25
           exact jd (.val (S rB false)) rfl rfl rfl rfl rfl rfl
         refine JC.skip <| JQ.outNB <| JQ.then <| JC.region <| jmv rfl rfl <| lI hq38 fun v_40 hv_40 hq38 => jc (op_arI lb (.tmp rfl) .cI (cs hv_40)) <| jc (op_assign lb (.tmp rfl)) <| JL.nil ?_
         try obtain rfl := so hq38
         exact JQ.next () rfl (Imp.norm (js := [0]) rfl (.cons rfl (.cons rfl .nil)))
       refine bI hx38 fun v_28 hv_28 hx38 => bI hx38 fun v_29 hv_29 hx38 => lI hx38 fun v_30 hv_30 hx38 => lI hx38 fun v_31 hv_31 hx38 => lI hx38 fun v_32 hv_32 hx38 => bI hx38 fun v_33 hv_33 hx38 => bI hx38 fun v_34 hv_34 hx38 => bI hx38 fun v_35 hv_35 hx38 => ?_
       obtain ⟨v_36, hv_36, hx38⟩ := lt1_inv hx38
       refine lI hx38 fun v_37 hv_37 hx38 => ?_
       obtain ⟨v_38, hv_38, hx38⟩ := lt1_inv hx38
       refine JC.anyF (base := [(1, ov (PTR gb_2 0)), (3, ov (S (rI .i64) x_26))])
           (fs := fun γ => [⟨some 66, ov (PTR gb_2 (0 + 58))⟩, ⟨some 67, ov (S (rL r_api_Dot) t_1.Live)⟩, ⟨some 68, ov (S (rI .i64) x_26)⟩, ⟨some 69, ov (PT r_api_Dot v_28)⟩, ⟨some 70, ov (A r_api_Dot v_28)⟩, ⟨some 71, ov (S rB v_29)⟩, ⟨some 72, ov (S rB v_30)⟩, ⟨some 73, ov (S rB v_30)⟩, ⟨some 74, bif (!v_30) then ov (S (rI .i64) x_26) else .one .und⟩, ⟨some 75, bif (!v_30) then ov (S rB v_31) else .one .und⟩, ⟨some 76, bif (!v_30) then ov (S rB v_31) else .one .und⟩, ⟨some 77, bif ((!v_30) && v_31) then ov (PTR gb_2 (0 + 58)) else .one .und⟩, ⟨some 78, bif ((!v_30) && v_31) then ov (S (rL r_api_Dot) t_1.Live) else .one .und⟩, ⟨some 79, bif ((!v_30) && v_31) then ov (S (rI .i64) x_26) else .one .und⟩, ⟨some 80, bif ((!v_30) && v_31) then ov (S (rI .i64) v_32) else .one .und⟩, ⟨some 81, bif ((!v_30) && v_31) then ov (PT r_api_Dot v_33) else .one .und⟩, ⟨some 82, bif ((!v_30) && v_31) then ov (A r_api_Dot v_33) else .one .und⟩, ⟨some 83, bif ((!v_30) && v_31) then ov (PTR gb_2 (0 + 58)) else .one .und⟩, ⟨some 84, bif ((!v_30) && v_31) then ov (S (rL r_api_Dot) t_1.Live) else .one .und⟩, ⟨some 85, bif ((!v_30) && v_31) then ov (S (rI .i64) x_26) else .one .und⟩, ⟨some 86, bif ((!v_30) && v_31) then ov (PT r_api_Dot v_34) else .one .und⟩, ⟨some 87, bif ((!v_30) && v_31) then ov (A r_api_Dot v_34) else .one .und⟩, ⟨some 88, bif ((!v_30) && v_31) then ov (S rB v_35) else .one .und⟩, ⟨some 89, bif ((!v_30) && v_31) then ov (S rB v_36) else .one .und⟩, ⟨some 90, bif (!v_30) then ov (S rB v_37) else .one .und⟩, ⟨some 91, ov (S rB v_38)⟩])
           (rs := fun γ => [⟨cvar gb_2 r_api_Frame t_1, none, none, [1, 12, 18]⟩])
           (afts := nn 26) (js := [0]) mixed (.cons rfl (.cons rfl .nil)) (fun _ => rfl)
           (by
      refine dS 1 (fun γ ρ B hb hd => op_fieldAddr (off := 58) lb tf39_8 (.tmp (hb 1 _ rfl))) <| dR 2 (fun γ ρ B hb hd => OpStep.lk ⟨ρ, (cvar gb_2 r_api_Frame t_1) :: B, _⟩ (op_loadS (j := 0) lb tS33 (tl hd 0 66) rfl (cT (comp_api_Frame_Live t_1) rfl) rfl rfl)) <| db 3 3 <| dS 4 (fun γ ρ B hb hd => op_indexAddrLg lb tu33 tz26 (tl hd 1 67) (tl hd 2 68) hv_28) <| dS 5 (fun γ ρ B hb hd => op_loadPAg lb tA26 (tl hd 3 69) rfl) ?_
      refine dS 6 (fun γ ρ B hb hd => (op_call (js := []) ld cl41 (sim_ref09_MayDot k v_28 v_29 hv_29) .func (.cons (tl hd 4 70) .nil) rfl).post (fun _ => Imp.refl)) <| dS 7 (fun γ ρ B hb hd => op_not lb (tl hd 5 71) hv_30) <| dm 8 6 72 ?_
      refine dF 9 7 73 v_30 (fun γ => ov (S (rI .i64) x_26)) (fun γ ρ B hb hd hq_39 => op_move lb (.tmp (hb 3 _ rfl))) ?_
      refine dF 10 7 73 v_30 (fun γ => ov (S rB v_31)) (fun γ ρ B hb hd hq_40 => op_cmpI lb (HasO.cnd (tl hd 8 74) (notT (notF hq_40))) .cI (cs hv_31)) ?_
      refine dF 11 7 73 v_30 (fun γ => ov (S rB v_31)) (fun γ ρ B hb hd hq_41 => op_move lb (HasO.cnd (tl hd 9 75) (notT (notF hq_41)))) ?_
      refine dA 12 10 76 (!v_30) v_31 (fun γ => ov (PTR gb_2 (0 + 58))) (fun γ ρ B hb hd hq_42 => op_fieldAddr (off := 58) lb tf39_8 (.tmp (hb 1 _ rfl))) ?_
      refine eA 13 10 76 (!v_30) v_31 (fun γ => ov (S (rL r_api_Dot) t_1.Live)) (fun γ ρ B hb hd hq_43 => OpStep.lk ⟨ρ, (cvar gb_2 r_api_Frame t_1) :: B, _⟩ (op_loadS (j := 0) lb tS33 (HasO.cnd (tl hd 11 77) (andI (notT (notF (andL hq_43))) (andR hq_43))) rfl (cT (comp_api_Frame_Live t_1) rfl) rfl rfl)) ?_
      refine dA 14 10 76 (!v_30) v_31 (fun γ => ov (S (rI .i64) x_26)) (fun γ ρ B hb hd hq_44 => op_move lb (.tmp (hb 3 _ rfl))) ?_
      refine dA 15 10 76 (!v_30) v_31 (fun γ => ov (S (rI .i64) v_32)) (fun γ ρ B hb hd hq_45 => op_arI lb (HasO.cnd (tl hd 13 79) (andI (notT (notF (andL hq_45))) (andR hq_45))) .cI (cs hv_32)) ?_
      refine dA 16 10 76 (!v_30) v_31 (fun γ => ov (PT r_api_Dot v_33)) (fun γ ρ B hb hd hq_46 => op_indexAddrLg lb tu33 tz26 (HasO.cnd (tl hd 12 78) (andI (notT (notF (andL hq_46))) (andR hq_46))) (HasO.cnd (tl hd 14 80) (andI (notT (notF (andL hq_46))) (andR hq_46))) (ifT hv_33 hq_46)) ?_
      refine dA 17 10 76 (!v_30) v_31 (fun γ => ov (A r_api_Dot v_33)) (fun γ ρ B hb hd hq_47 => op_loadPAg lb tA26 (HasO.cnd (tl hd 15 81) (andI (notT (notF (andL hq_47))) (andR hq_47))) rfl) ?_
      refine dA 18 10 76 (!v_30) v_31 (fun γ => ov (PTR gb_2 (0 + 58))) (fun γ ρ B hb hd hq_48 => op_fieldAddr (off := 58) lb tf39_8 (.tmp (hb 1 _ rfl))) ?_
      refine eA 19 10 76 (!v_30) v_31 (fun γ => ov (S (rL r_api_Dot) t_1.Live)) (fun γ ρ B hb hd hq_49 => OpStep.lk ⟨ρ, (cvar gb_2 r_api_Frame t_1) :: B, _⟩ (op_loadS (j := 0) lb tS33 (HasO.cnd (tl hd 17 83) (andI (notT (notF (andL hq_49))) (andR hq_49))) rfl (cT (comp_api_Frame_Live t_1) rfl) rfl rfl)) ?_
      refine dA 20 10 76 (!v_30) v_31 (fun γ => ov (S (rI .i64) x_26)) (fun γ ρ B hb hd hq_50 => op_move lb (.tmp (hb 3 _ rfl))) ?_
      refine dA 21 10 76 (!v_30) v_31 (fun γ => ov (PT r_api_Dot v_34)) (fun γ ρ B hb hd hq_51 => op_indexAddrLg lb tu33 tz26 (HasO.cnd (tl hd 18 84) (andI (notT (notF (andL hq_51))) (andR hq_51))) (HasO.cnd (tl hd 19 85) (andI (notT (notF (andL hq_51))) (andR hq_51))) (ifT hv_34 hq_51)) ?_
      refine dA 22 10 76 (!v_30) v_31 (fun γ => ov (A r_api_Dot v_34)) (fun γ ρ B hb hd hq_52 => op_loadPAg lb tA26 (HasO.cnd (tl hd 20 86) (andI (notT (notF (andL hq_52))) (andR hq_52))) rfl) ?_
      refine dA 23 10 76 (!v_30) v_31 (fun γ => ov (S rB v_35)) (fun γ ρ B hb hd hq_53 => (op_call (js := []) ld cl42 (sim_ref09_Less k v_33 v_34 v_35 (ifT hv_35 hq_53)) .func (.cons (HasO.cnd (tl hd 16 82) (andI (notT (notF (andL hq_53))) (andR hq_53))) (.cons (HasO.cnd (tl hd 21 87) (andI (notT (notF (andL hq_53))) (andR hq_53))) .nil)) rfl).post (fun _ => Imp.refl)) ?_
      refine dA 24 10 76 (!v_30) v_31 (fun γ => ov (S rB v_36)) (fun γ ρ B hb hd hq_54 => op_not lb (HasO.cnd (tl hd 22 88) (andI (notT (notF (andL hq_54))) (andR hq_54))) hv_36) ?_
      refine dF 25 7 73 v_30 (fun γ => ov (S rB v_37)) (fun γ ρ B hb hd hq_55 => op_pickCS lb (HasO.cnd (tl hd 10 76) (notT (notF hq_55))) (fun hb56 => (HasO.cnd (tl hd 23 89) (andI (notT (notF hq_55)) hb56))) (fun hb56 => .cB) hv_37) ?_
      refine dS 26 (fun γ ρ B hb hd => op_pickCS lb (tl hd 7 73) (fun hb57 => .cB) (fun hb57 => (HasO.cnd (tl hd 24 90) (notT hb57))) hv_38) ?_
      exact DSteps.nil)
           (by decide +kernel) (fun _ => rfl) (fun _ => rfl) (fun _ => rfl) rfl
           (ρ' := fun γ => [(1, ov (PTR gb_2 0)), (3, ov (S (rI .i64) x_26)), (91, ov (S rB v_38))])
           (X' := fun γ => [cvar gb_2 r_api_Frame t_1])
           (fun γ ρ hb hd => (.cons (hb 1 _ rfl) (.cons (hb 3 _ rfl) (.cons (hdq hd 25 91 rfl) .nil)))) (fun _ => rfl) (fun γ => ?_)
       refine JQ.at ⟨[(1, ov (PTR gb_2 0)), (3, ov (S (rI .i64) x_26)), (91, ov (S rB v_38))], [cvar gb_2 r_api_Frame t_1], []⟩ ?_
       try obtain rfl := so hx38
       exact JQ.join () (Imp.norm (js := [0]) rfl (.cons rfl (.cons rfl (.cons rfl .nil))))
     refine JC.exit <| JQ.outX ?_
     try obtain rfl := so hx
     try obtain rfl := hr _ rfl
     dsimp only at hq36
     refine JQ.outX <| JQ.here ?_
     try obtain rfl := so hq36
     exact JQ.joinK () () rfl (Imp.norm (js := [0]) rfl (.cons rfl .nil))
   refine jr <| lI hx25 fun v_45 hv_45 hx25 => jc (op_cmpI lb (.tmp rfl) .cI (cs hv_45)) <| jc (op_assign lb (.tmp rfl)) <| JL.sub ⟨[(1, ov (PTR gb_2 0)), (35, ov (S (rI .i64) t_1.Kind)), (103, ov (S rB v_45))], [cvar gb_2 r_api_Frame t_1], []⟩ (.cons rfl (.cons rfl (.cons rfl .nil))) rfl rfl <| jn <| jif (.tmp rfl) hx25 (fun hc66 hx25 => ?_) (fun hc66 hx25 => ?_)
   · refine jr <| jc (op_assign lb .cB) <| jn <| JC.ret <| JQ.outRB ?_
     try obtain rfl := so hx25
     dsimp only at hq25
     refine JQ.outR ?_
     obtain rfl := so hq25
     exact jd (.val (S rB true)) rfl rfl rfl rfl rfl rfl
   refine jr <| lI hx25 fun v_46 hv_46 hx25 => jc (op_cmpI lb (.tmp rfl) .cI (cs hv_46)) <| jc (op_assign lb (.tmp rfl)) <| jn <| jif (.tmp rfl) hx25 (fun hc67 hx25 => ?_) (fun hc67 hx25 => ?_)
   · refine jr <| jc (op_fieldAddr (off := 91) lb tf39_10 (.tmp rfl)) <| jc (op_loadS (j := 0) lb tS36 (.tmp rfl) rfl (cT (comp_api_Frame_Leaves t_1) rfl) rfl rfl) <| jc (op_lenL lb tu36 (.tmp rfl)) <| lI hx25 fun v_47 hv_47 hx25 => jc (op_cmpI lb (.tmp rfl) .cI (cs hv_47)) <| jc (op_assign lb (.tmp rfl)) <| jn <| JC.ret <| JQ.outRB ?_
     try obtain rfl := so hx25
     dsimp only at hq25
     refine JQ.outR ?_
     obtain rfl := so hq25
     exact jd (.val (S rB v_47)) rfl rfl rfl rfl rfl rfl
   refine jr <| lI hx25 fun v_48 hv_48 hx25 => jc (op_cmpI lb (.tmp rfl) .cI (cs hv_48)) <| jc (op_assign lb (.tmp rfl)) <| jn <| jif (.tmp rfl) hx25 (fun hc68 hx25 => ?_) (fun hc68 hx25 => ?_)
   · refine jr <| jc (op_loadA (j := 0) lb tA39 (.tmp rfl) rfl (Comp.self r_api_Frame t_1) rfl) <| bI hx25 fun v_49 hv_49 hx25 => jx (op_call (js := []) ld cl44 (sim_ref11_mayBuckets k t_1 v_49 hv_49) .func (.cons (.tmp rfl) .nil) rfl) fun _ => jc (op_assign lb (.tmp rfl)) <| jn <| JC.ret <| JQ.outRB ?_
     try obtain rfl := so hx25
     dsimp only at hq25
     refine JQ.outR ?_
     obtain rfl := so hq25
     exact jd (.val (S rB v_49)) rfl rfl rfl rfl rfl rfl
   refine JC.skip <| JQ.outNB ?_
   try obtain rfl := so hx25
   exact JQ.joinK () () rfl (Imp.norm (js := []) rfl .nil)
 refine JC.region <| jc (op_fieldAddr (off := 1) lb tf39_1 (.tmp rfl)) <| jc (op_loadS (j := 0) lb tS3 (.tmp rfl) rfl (cT (comp_api_Frame_From t_1) rfl) rfl rfl) <| lI hx1 fun v_3 hv_3 hx1 => jc (op_cmpI lb (.tmp rfl) .cI (cs hv_3)) <| jmv rfl rfl <| jF (ov (PTR gb_2 (0 + 1))) rfl rfl rfl rfl (fun hq_2 => op_fieldAddr (off := 1) lb tf39_1 (.tmp rfl)) <| jF (ov (S (rI .i64) t_1.From)) rfl rfl rfl rfl (fun hq_3 => op_loadS (j := 0) lb tS3 (HasO.cnd (.tmp rfl) (notT (notF hq_3))) rfl (cT (comp_api_Frame_From t_1) rfl) rfl rfl) <| lI hx1 fun v_4 hv_4 hx1 => jF (ov (S rB v_4)) rfl rfl rfl rfl (fun hq_4 => op_cmpI lb (HasO.cnd (.tmp rfl) (notT (notF hq_4))) .cI (cs hv_4)) <| lI hx1 fun v_5 hv_5 hx1 => jc (op_pickCS lb (.tmp rfl) (fun hb5 => .cB) (fun hb5 => (HasO.cnd (.tmp rfl) (notT hb5))) hv_5) ?_
 refine JL.sub ⟨[(1, ov (PTR gb_2 0)), (11, ov (S rB v_5))], [cvar gb_2 r_api_Frame t_1], []⟩ (.cons rfl (.cons rfl .nil)) rfl rfl <| jmv rfl rfl <| jF (ov (PTR gb_2 (0 + 2))) rfl rfl rfl rfl (fun hq_6 => op_fieldAddr (off := 2) lb tf39_2 (.tmp rfl)) <| jF (ov (S (rI .i64) t_1.To)) rfl rfl rfl rfl (fun hq_7 => op_loadS (j := 0) lb tS3 (HasO.cnd (.tmp rfl) (notT (notF hq_7))) rfl (cT (comp_api_Frame_To t_1) rfl) rfl rfl) <| lI hx1 fun v_6 hv_6 hx1 => jF (ov (S rB v_6)) rfl rfl rfl rfl (fun hq_8 => op_cmpI lb (HasO.cnd (.tmp rfl) (notT (notF hq_8))) .cI (cs hv_6)) <| lI hx1 fun v_7 hv_7 hx1 => jc (op_pickCS lb (.tmp rfl) (fun hb9 => .cB) (fun hb9 => (HasO.cnd (.tmp rfl) (notT hb9))) hv_7) <| jmv rfl rfl <| jF (ov (PTR gb_2 (0 + 2))) rfl rfl rfl rfl (fun hq_10 => op_fieldAddr (off := 2) lb tf39_2 (.tmp rfl)) ?_
 refine jF (ov (S (rI .i64) t_1.To)) rfl rfl rfl rfl (fun hq_11 => op_loadS (j := 0) lb tS3 (HasO.cnd (.tmp rfl) (notT (notF hq_11))) rfl (cT (comp_api_Frame_To t_1) rfl) rfl rfl) <| lI hx1 fun v_8 hv_8 hx1 => jF (ov (S rB v_8)) rfl rfl rfl rfl (fun hq_12 => op_cmpI lb (HasO.cnd (.tmp rfl) (notT (notF hq_12))) .cI (cs hv_8)) <| lI hx1 fun v_9 hv_9 hx1 => jc (op_pickCS lb (.tmp rfl) (fun hb13 => .cB) (fun hb13 => (HasO.cnd (.tmp rfl) (notT hb13))) hv_9) <| jmv rfl rfl <| jF (ov (PTR gb_2 (0 + 1))) rfl rfl rfl rfl (fun hq_14 => op_fieldAddr (off := 1) lb tf39_1 (.tmp rfl)) <| JL.sub ⟨[(1, ov (PTR gb_2 0)), (22, ov (S rB v_9)), (23, bif (!v_9) then ov (PTR gb_2 (0 + 1)) else .one .und)], [cvar gb_2 r_api_Frame t_1], []⟩ (.cons rfl (.cons rfl (.cons rfl .nil))) rfl rfl <| jF (ov (S (rI .i64) t_1.From)) rfl rfl rfl rfl (fun hq_15 => op_loadS (j := 0) lb tS3 (HasO.cnd (.tmp rfl) (notT (notF hq_15))) rfl (cT (comp_api_Frame_From t_1) rfl) rfl rfl) <| jF (ov (PTR gb_2 (0 + 2))) rfl rfl rfl rfl (fun hq_16 => op_fieldAddr (off := 2) lb tf39_2 (.tmp rfl)) ?_
 refine jF (ov (S (rI .i64) t_1.To)) rfl rfl rfl rfl (fun hq_17 => op_loadS (j := 0) lb tS3 (HasO.cnd (.tmp rfl) (notT (notF hq_17))) rfl (cT (comp_api_Frame_To t_1) rfl) rfl rfl) <| lI hx1 fun v_10 hv_10 hx1 => jF (ov (S rB v_10)) rfl rfl rfl rfl (fun hq_18 => op_cmpI lb (HasO.cnd (.tmp rfl) (notT (notF hq_18))) (HasO.cnd (.tmp rfl) (notT (notF hq_18))) (cs hv_10)) <| lI hx1 fun v_11 hv_11 hx1 => jc (op_pickCS lb (.tmp rfl) (fun hb19 => .cB) (fun hb19 => (HasO.cnd (.tmp rfl) (notT hb19))) hv_11) <| jmv rfl rfl <| jF (ov (A r_api_Frame t_1)) rfl rfl rfl rfl (fun hq_20 => op_loadA (j := 0) lb tA39 (.tmp rfl) rfl (Comp.self r_api_Frame t_1) rfl) <| bI hx1 fun v_12 hv_12 hx1 => jF (ov (S rB v_12)) rfl rfl rfl rfl (fun hq_21 => (op_call (js := []) ld cl37 (sim_ref11_zero k t_1 v_12 (ifT hv_12 hq_21)) .func (.cons (HasO.cnd (.tmp rfl) (notT (notF hq_21))) .nil) rfl).post (fun _ => Imp.refl)) ?_
 obtain ⟨v_13, hv_13, hx1⟩ := lt1_inv hx1
 refine jF (ov (S rB v_13)) rfl rfl rfl rfl (fun hq_22 => op_not lb (HasO.cnd (.tmp rfl) (notT (notF hq_22))) hv_13) <| lI hx1 fun v_14 hv_14 hx1 => jc (op_pickCS lb (.tmp rfl) (fun hb23 => .cB) (fun hb23 => (HasO.cnd (.tmp rfl) (notT hb23))) hv_14) <| JL.nil ?_
 try obtain rfl := so hx1
 exact JQ.join () (Imp.norm (js := [0]) rfl (.cons rfl (.cons rfl .nil)))

theorem sim_ref01_Put (k : Nat) (n_1 : UInt64) (size_2 : Int) (r : (List UInt8)) (hm : ref01_Put k n_1 size_2 = some r) : Sim Tryz.prog 46 [S (rU UInt64) n_1, S (rI .i64) size_2] [] (γ := Option Nat) (fun q => [cown q (rU UInt8) r 0 (Int.toNat size_2)]) (fun q => .one (.val (HDR q 0 (List.length r) (Int.toNat size_2)))) := by
 unfold ref01_Put at hm
 refine Sim.of Tryz.func46 rfl rfl (lE rfl) (fun e0 w0 => ?_)
 refine JC.at ⟨[(0, ov (S (rU UInt64) n_1)), (1, ov (S (rI .i64) size_2))], [], []⟩ <| jr <| jc (op_assign lb HasO.nilH) <| jn <| jr <| jmv rfl rfl <| bI hm fun v_3 hv_3 hm => jx (op_makeOg lb tu27 tB5 zv5 (.tmp rfl) (.tmp rfl) hv_3) fun gb_4 => jc (op_assign lb (.tmp rfl)) <| jn <| bI hm fun b_16 hx1 hq1 => JC.seqJ (γ := Unit) (stj := fun _ => ⟨[(5, ov (HDR (some gb_4) 0 (List.length b_16) (Int.toNat size_2)))], [cown (some gb_4) (rU UInt8) b_16 0 (Int.toNat size_2)], []⟩) (fun _ => ?_) ?_
 · refine jr <| jmv rfl rfl <| jc (op_assign lb (.tmp rfl)) <| jn <| JC.ret ?_
   obtain rfl := so hq1
   exact JQ.done (js := [0]) (ss := [.val (HDR (some gb_4) 0 (List.length b_16) (Int.toNat size_2))]) (some gb_4) (.inl rfl) (.nil rfl) rfl (.cons (.tmp rfl) .nil) rfl rfl rfl
 refine jr <| jmv rfl rfl <| lI hx1 fun v_5 hv_5 hx1 => jc (op_arI lb (.tmp rfl) .cI (cs hv_5)) <| jc (op_assign lb (.tmp rfl)) <| jn <| JC.block <| JC.pre ?_ (JC.loop (γ := Unit) (stf := fun s q => ⟨[(0, ov (S (rU UInt64) s.1)), (5, ov (HDR (some gb_4) 0 (List.length s.2.1) (Int.toNat size_2))), (6, ov (S (rI .i64) s.2.2))], [cown (some gb_4) (rU UInt8) s.2.1 0 (Int.toNat size_2)], []⟩) (q := ()) hx1 ?_)
 · exact (Imp.norm (js := [0]) rfl (.cons rfl (.cons rfl (.cons rfl .nil))))
 intro s q x hx hr
 obtain ⟨n_6, b_7, i_8⟩ := s
 obtain _ := q
 change ref01_Put.b1 k n_6 b_7 i_8 = some x at hx
 unfold ref01_Put.b1 at hx
 refine JC.at ⟨[(0, ov (S (rU UInt64) n_6)), (5, ov (HDR (some gb_4) 0 (List.length b_7) (Int.toNat size_2))), (6, ov (S (rI .i64) i_8))], [cown (some gb_4) (rU UInt8) b_7 0 (Int.toNat size_2)], []⟩ <| JC.seq <| jr <| jmv rfl rfl <| lI hx fun v_9 hv_9 hx => jc (op_cmpI lb (.tmp rfl) .cI (cs hv_9)) <| jn <| jif (.tmp rfl) hx (fun hc3 hx => ?_) (fun hc3 hx => ?_)
 · refine JC.skip <| JQ.then <| JC.seq <| JC.block <| jr <| jmv rfl rfl <| jmv rfl rfl <| jmv rfl rfl <| bI hx fun v_10 hv_10 hx => jc (op_arU lb (.tmp rfl) (HasO.cU (x := (256 : UInt64)) rfl (by decide)) hv_10) <| lI hx fun v_11 hv_11 hx => jc (op_convUU lb tu24 tu5 (.tmp rfl) hv_11) <| bI hx fun i_12 hv_i_12 hx => jc (op_indexAddrOF (r := (rU UInt8)) (j := 0) lb tu27 tz5 rfl (.tmp rfl) (.tmp rfl) hv_i_12) ?_
   refine bI hx fun b_13 hv_b_13 hx => jc (op_storeOSg (r := (rU UInt8)) (j := 0) tS5 rfl rfl (.tmp rfl) (.tmp rfl) hv_b_13) <| JL.pre (Imp.slot (s := 5) (q := HDR (some gb_4) 0 (List.length b_13) (Int.toNat size_2)) rfl (wkLen (setO'_len hv_b_13))) <| JL.pre (Imp.slot (s := 15) (q := HDR (some gb_4) 0 (List.length b_13) (Int.toNat size_2)) rfl (wkLen (setO'_len hv_b_13))) <| jn <| JC.region <| jmv rfl rfl <| JL.sub ⟨[(0, ov (S (rU UInt64) n_6)), (5, ov (HDR (some gb_4) 0 (List.length b_13) (Int.toNat size_2))), (6, ov (S (rI .i64) i_8)), (21, ov (S (rU UInt64) n_6))], [cown (some gb_4) (rU UInt8) b_13 0 (Int.toNat size_2)], []⟩ (.cons rfl (.cons rfl (.cons rfl (.cons rfl .nil)))) rfl rfl <| bI hx fun v_14 hv_14 hx => jc (op_arU lb (.tmp rfl) (HasO.cU (x := (256 : UInt64)) rfl (by decide)) hv_14) <| jc (op_assign lb (.tmp rfl)) <| JL.nil <| JQ.outNB ?_
   refine JQ.then <| JC.region <| jmv rfl rfl <| lI hx fun v_15 hv_15 hx => jc (op_arI lb (.tmp rfl) .cI (cs hv_15)) <| jc (op_assign lb (.tmp rfl)) <| JL.nil ?_
   try obtain rfl := so hx
   exact JQ.next () rfl (Imp.norm (js := [0]) rfl (.cons rfl (.cons rfl (.cons rfl .nil))))
 refine JC.exit <| JQ.outX ?_
 try obtain rfl := so hx
 have ht := hr _ rfl
 have hq2 := cs ht
 clear hr ht
 refine JQ.outX <| JQ.here ?_
 try obtain rfl := so hq2
 exact JQ.join () (Imp.norm (js := [0]) rfl (.cons rfl .nil))

theorem sim_ref01_Dot (k : Nat) (d_1 : api_Dot) (r : (List UInt8)) (hm : ref01_Dot k d_1 = some r) : Sim Tryz.prog 76 [A r_api_Dot d_1] [] (γ := Option Nat × Nat) (fun q => [cown q.1 (rU UInt8) r 0 q.2]) (fun q => .one (.val (HDR q.1 0 (List.length r) q.2))) := by
 unfold ref01_Dot at hm
 refine Sim.of Tryz.func76 rfl rfl (lE rfl) (fun e0 w0 => ?_)
 refine JC.at ⟨[(0, ov (A r_api_Dot d_1))], [], []⟩ <| jr <| jx (op_boxA lb (.tmp rfl)) fun gb_2 => jc (op_assign lb HasO.nilH) <| jn <| JC.seq <| lI hm fun v_3 hv_3 hm => bI hm fun v_4 hv_4 hm => bI hm fun v_6 hv_6 hm => ?_
 obtain ⟨x_8, hv_x_8, hm⟩ := bnd_inv hm
 refine JC.anyF (base := [(1, ov (PTR gb_2 0))])
     (fs := fun γ => [⟨some 3, ov (PTR gb_2 (0 + 0))⟩, ⟨some 4, ov (S (rI .i64) d_1.Region)⟩, ⟨some 5, ov (S (rU UInt64) v_3)⟩, ⟨some 6, ov (HDR (deo (γ 3 0)) 0 (List.length v_4) (Int.toNat (1 : Int)))⟩, ⟨some 7, ov (PTR gb_2 (0 + 1))⟩, ⟨some 8, ov (S (rU UInt64) d_1.Count)⟩, ⟨some 9, ov (HDR (deo (γ 6 0)) 0 (List.length v_6) (Int.toNat (8 : Int)))⟩, ⟨some 10, ov (HDR (deo (γ 7 0)) 0 (List.length x_8) (γ 7 1))⟩, ⟨some 2, ov (HDR (deo (γ 7 0)) 0 (List.length x_8) (γ 7 1))⟩])
     (rs := fun γ => [⟨cvar gb_2 r_api_Dot d_1, none, none, [1, 5]⟩, ⟨cown (deo (γ 3 0)) (rU UInt8) v_4 0 (Int.toNat (1 : Int)), (some 3), (some 7), []⟩, ⟨cown (deo (γ 6 0)) (rU UInt8) v_6 0 (Int.toNat (8 : Int)), (some 6), none, [7]⟩, ⟨cown (deo (γ 7 0)) (rU UInt8) x_8 0 (γ 7 1), (some 7), none, []⟩])
     (afts := [[], [], [], [3, 6, 7, 8], [], [], [6, 7, 8], [7, 8], []]) (js := [0]) mixed (.cons rfl .nil) (fun _ => rfl)
     (by
      refine dS 1 (fun γ ρ B hb hd => op_fieldAddr (off := 0) lb tf26_0 (.tmp (hb 1 _ rfl))) <| dR 2 (fun γ ρ B hb hd => OpStep.lk ⟨ρ, (cvar gb_2 r_api_Dot d_1) :: B, _⟩ (op_loadS (j := 0) lb tS3 (tl hd 0 3) rfl (cT (comp_api_Dot_Region d_1) rfl) rfl rfl)) <| dS 3 (fun γ ρ B hb hd => op_convIU lb tu3 tu24 (tl hd 1 4) hv_3) ?_
      refine DSteps.cons (j := 4) rfl (fun _ => rfl) (.runX (fun _ _ => rfl) (fun γ ρ B hb hd => ⟨.none, OpX.ghost (γ := Option Nat) (st' := fun q => setO ⟨ρ, (cown q (rU UInt8) v_4 0 (Int.toNat (1 : Int))) :: B, _⟩ (some 6) (ov (HDR q 0 (List.length v_4) (Int.toNat (1 : Int))))) (fun q c => eno q) (op_call (js := []) ld cl46 (sim_ref01_Put k v_3 (1 : Int) v_4 hv_4) .func (.cons (tl hd 2 5) (.cons .cI .nil)) rfl) (fun q => by cases q <;> exact Imp.refl)⟩) (fun _ _ => rfl) (fun _ _ => rfl)) ?_
      refine dS 5 (fun γ ρ B hb hd => op_fieldAddr (off := 1) lb tf26_1 (.tmp (hb 1 _ rfl))) <| dR 6 (fun γ ρ B hb hd => OpStep.lk ⟨ρ, (cvar gb_2 r_api_Dot d_1) :: B, _⟩ (op_loadS (j := 0) lb tS24 (tl hd 4 7) rfl (cT (comp_api_Dot_Count d_1) rfl) rfl rfl)) ?_
      refine DSteps.cons (j := 7) rfl (fun _ => rfl) (.runX (fun _ _ => rfl) (fun γ ρ B hb hd => ⟨.none, OpX.ghost (γ := Option Nat) (st' := fun q => setO ⟨ρ, (cown q (rU UInt8) v_6 0 (Int.toNat (8 : Int))) :: B, _⟩ (some 9) (ov (HDR q 0 (List.length v_6) (Int.toNat (8 : Int))))) (fun q c => eno q) (op_call (js := []) ld cl46 (sim_ref01_Put k d_1.Count (8 : Int) v_6 hv_6) .func (.cons (tl hd 5 8) (.cons .cI .nil)) rfl) (fun q => by cases q <;> exact Imp.refl)⟩) (fun _ _ => rfl) (fun _ _ => rfl)) <| DSteps.cons (j := 8) rfl (fun _ => rfl) (.runX (fun _ _ => rfl) (fun γ ρ B hb hd => ⟨.none, OpX.ghost (γ := Option Nat × Nat) (st' := fun q => setO ⟨ρ, (cown q.1 (rU UInt8) x_8 0 q.2) :: (cown (deo (γ 6 0)) (rU UInt8) v_6 0 (Int.toNat (8 : Int))) :: B, _⟩ (some 10) (ov (HDR q.1 0 (List.length x_8) q.2))) (fun q c => bif Nat.beq c 0 then eno q.1 else q.2) (op_appendO (j := 0) (j' := 1) lb tu27 tu27 rfl tB5 rfl (Nat.lt_of_lt_of_le Nat.zero_lt_one (lE rfl)) (Nat.lt_of_lt_of_le Nat.zero_lt_one (lE rfl))  rfl (tl hd 3 6) rfl (tl hd 6 9) hv_x_8) (fun q => by obtain ⟨q0, q1⟩ := q; cases q0 <;> exact Imp.refl)⟩) (fun _ _ => rfl) (fun _ _ => rfl)) ?_
      refine dS 9 (fun γ ρ B hb hd => op_assign lb (tl hd 7 10)) ?_
      exact DSteps.nil)
     (by decide +kernel) (fun _ => rfl) (fun _ => rfl) (fun _ => rfl) rfl
     (ρ' := fun γ => [(2, ov (HDR (deo (γ 7 0)) 0 (List.length x_8) (γ 7 1)))])
     (X' := fun γ => [cvar gb_2 r_api_Dot d_1, cown (deo (γ 6 0)) (rU UInt8) v_6 0 (Int.toNat (8 : Int)), cown (deo (γ 7 0)) (rU UInt8) x_8 0 (γ 7 1)])
     (fun γ ρ hb hd => (.cons (hdq hd 8 2 rfl) .nil)) (fun _ => rfl) (fun γ => ?_)
 generalize (deo (γ 3 0)) = go_5
 generalize (deo (γ 6 0)) = go_7
 generalize (deo (γ 7 0)) = go_9
 generalize (γ 7 1) = gc_10
 clear γ
 refine JQ.at ⟨[(2, ov (HDR go_9 0 (List.length x_8) gc_10))], [cvar gb_2 r_api_Dot d_1, cown go_7 (rU UInt8) v_6 0 (Int.toNat (8 : Int)), cown go_9 (rU UInt8) x_8 0 gc_10], []⟩ <| JQ.then <| JC.ret ?_
 obtain rfl := so hm
 exact JQ.done (js := [2]) (ss := [.val (HDR go_9 0 (List.length x_8) gc_10)]) (go_9, gc_10) (.inl rfl) (.nil rfl) rfl (.cons (.tmp rfl) .nil) rfl rfl rfl

theorem sim_ref11_flag (k : Nat) (is_1 : Bool) (r : (List UInt8)) (hm : ref11_flag k is_1 = some r) : Sim Tryz.prog 49 [S rB is_1] [] (γ := Unit) (fun q => []) (fun q => .one (.val (S (rL (rU UInt8)) r))) := by
 unfold ref11_flag at hm
 refine Sim.of Tryz.func49 rfl rfl (lE rfl) (fun e0 w0 => ?_)
 refine JC.at ⟨[(0, ov (S rB is_1))], [], []⟩ <| jr <| jc (op_assign lb HasO.nilH) <| jn <| JC.seq <| jr <| jmv rfl rfl <| jn <| jif (.tmp rfl) hm (fun hc1 hm => ?_) (fun hc1 hm => ?_)
 · refine jr <| jc (op_buildF (r := (rU UInt8)) lb tu27 tz5 tZ5 rfl (lE rfl) (.S rfl (HasO.cU (x := (1 : UInt8)) rfl (by decide)) .nil) rfl) <| jc (op_assign lb (.tmp rfl)) <| jn <| JC.ret <| JQ.outR ?_
   obtain rfl := so hm
   exact JQ.done (js := []) (ss := [.val (S (rL (rU UInt8)) ([(1 : UInt8)] : (List UInt8)))]) () (.inl rfl) (.nil rfl) rfl (.cons (.tmp rfl) .nil) rfl rfl rfl
 refine JC.skip <| JQ.then <| jr <| jc (op_buildF (r := (rU UInt8)) lb tu27 tz5 tZ5 rfl (lE rfl) (.S rfl (HasO.cU (x := (0 : UInt8)) rfl (by decide)) .nil) rfl) <| jc (op_assign lb (.tmp rfl)) <| jn <| JC.ret ?_
 obtain rfl := so hm
 exact JQ.done (js := []) (ss := [.val (S (rL (rU UInt8)) ([(0 : UInt8)] : (List UInt8)))]) () (.inl rfl) (.nil rfl) rfl (.cons (.tmp rfl) .nil) rfl rfl rfl

theorem sim_ref01_Blob (k : Nat) (b_1 : (List UInt8)) (r : (List UInt8)) (hm : ref01_Blob k b_1 = some r) : Sim Tryz.prog 77 [S (rL (rU UInt8)) b_1] [] (γ := Option Nat × Nat) (fun q => [cown q.1 (rU UInt8) r 0 q.2]) (fun q => .one (.val (HDR q.1 0 (List.length r) q.2))) := by
 unfold ref01_Blob at hm
 refine Sim.of Tryz.func77 rfl rfl (lE rfl) (fun e0 w0 => ?_)
 refine JC.at ⟨[(0, ov (S (rL (rU UInt8)) b_1))], [], []⟩ <| jr <| jc (op_assign lb HasO.nilH) <| jn <| jr <| jmv rfl rfl <| jc (op_lenL lb tu27 (.tmp rfl)) <| lI hm fun v_2 hv_2 hm => jc (op_convIU lb tu3 tu24 (.tmp rfl) hv_2) <| bI hm fun v_3 hv_3 hm => jx (op_call (js := []) ld cl46 (sim_ref01_Put k v_2 (2 : Int) v_3 hv_3) .func (.cons (.tmp rfl) (.cons .cI .nil)) rfl) fun go_4 => jmv rfl rfl ?_
 obtain ⟨x_5, hv_x_5, hm⟩ := bnd_inv hm
 refine jx (op_appendL (j := 0) lb tu27 tu27 rfl tB5 rfl (Nat.lt_of_lt_of_le Nat.zero_lt_one (lE rfl)) (Nat.lt_of_lt_of_le Nat.zero_lt_one (lE rfl))  rfl (.tmp rfl) (.tmp rfl) hv_x_5) (fun q => ?_)
 obtain ⟨go_6, gc_7⟩ := q
 refine jc (op_assign lb (.tmp rfl)) <| JL.sub ⟨[(2, ov (HDR go_6 0 (List.length x_5) gc_7))], [cown go_6 (rU UInt8) x_5 0 gc_7], []⟩ (.cons rfl .nil) rfl rfl <| jn <| JC.ret ?_
 obtain rfl := so hm
 exact JQ.done (js := [0]) (ss := [.val (HDR go_6 0 (List.length x_5) gc_7)]) (go_6, gc_7) (.inl rfl) (.nil rfl) rfl (.cons (.tmp rfl) .nil) rfl rfl rfl

theorem sim_ref01_Join (k : Nat) (l_1 : (List (List UInt8))) (r : (List UInt8)) (hm : ref01_Join k l_1 = some r) : Sim Tryz.prog 50 [S (rL (rL (rU UInt8))) l_1] [] (γ := Option Nat × Nat) (fun q => [cown q.1 (rU UInt8) r 0 q.2]) (fun q => .one (.val (HDR q.1 0 (List.length r) q.2))) := by
 unfold ref01_Join at hm
 refine Sim.of Tryz.func50 rfl rfl (lE rfl) (fun e0 w0 => ?_)
 refine JC.at ⟨[(0, ov (S (rL (rL (rU UInt8))) l_1))], [], []⟩ <| jr <| jc (op_assign lb HasO.nilH) <| jn <| jr <| jc (op_assign lb HasO.nilH) <| jn <| bI hm fun o_12 hx1 hq1 => JC.seqJ (γ := Option Nat × Nat) (stj := fun q => ⟨[(3, ov (HDR q.1 0 (List.length o_12) q.2))], [cown q.1 (rU UInt8) o_12 0 q.2], []⟩) (fun q => ?_) ?_
 · obtain ⟨go_13, gc_14⟩ := q
   refine JC.at ⟨[(3, ov (HDR go_13 0 (List.length o_12) gc_14))], [cown go_13 (rU UInt8) o_12 0 gc_14], []⟩ <| jr <| jmv rfl rfl <| jc (op_assign lb (.tmp rfl)) <| jn <| JC.ret ?_
   obtain rfl := so hq1
   exact JQ.done (js := [0]) (ss := [.val (HDR go_13 0 (List.length o_12) gc_14)]) (go_13, gc_14) (.inl rfl) (.nil rfl) rfl (.cons (.tmp rfl) .nil) rfl rfl rfl
 refine jr <| jc (op_assign lb .cI) <| jn <| JC.block <| JC.pre (Imp.nilown (rU UInt8)) <| JC.pre ?_ (JC.loop (γ := Option Nat × Nat) (stf := fun s q => ⟨[(0, ov (S (rL (rL (rU UInt8))) l_1)), (3, ov (HDR q.1 0 (List.length s.1) q.2)), (4, ov (S (rI .i64) s.2))], [cown q.1 (rU UInt8) s.1 0 q.2], []⟩) (q := (none, 0)) hx1 ?_)
 · exact (Imp.norm (js := [0]) rfl (.cons rfl (.cons rfl (.cons rfl .nil))))
 intro s q x hx hr
 obtain ⟨o_2, i_3⟩ := s
 obtain ⟨go_4, gc_5⟩ := q
 change ref01_Join.b1 k l_1 o_2 i_3 = some x at hx
 unfold ref01_Join.b1 at hx
 refine JC.at ⟨[(0, ov (S (rL (rL (rU UInt8))) l_1)), (3, ov (HDR go_4 0 (List.length o_2) gc_5)), (4, ov (S (rI .i64) i_3))], [cown go_4 (rU UInt8) o_2 0 gc_5], []⟩ <| JC.seq <| jr <| jmv rfl rfl <| jmv rfl rfl <| jc (op_lenL lb tu77 (.tmp rfl)) <| lI hx fun v_6 hv_6 hx => jc (op_cmpI lb (.tmp rfl) (.tmp rfl) (cs hv_6)) <| jn <| jif (.tmp rfl) hx (fun hc3 hx => ?_) (fun hc3 hx => ?_)
 · refine JC.skip <| JQ.then <| JC.seq <| JC.block <| JC.region <| jmv rfl rfl <| jmv rfl rfl <| jmv rfl rfl <| bI hx fun v_7 hv_7 hx => jc (op_indexAddrLg lb tu77 tz27 (.tmp rfl) (.tmp rfl) hv_7) <| jc (op_loadPSg lb tS27 rfl (.tmp rfl) rfl) <| bI hx fun o_8 hv_o_8 hx => jx (op_appendL (j := 0) lb tu27 tu27 rfl tB5 rfl (Nat.lt_of_lt_of_le Nat.zero_lt_one (lE rfl)) (Nat.lt_of_lt_of_le Nat.zero_lt_one (lE rfl))  rfl (.tmp rfl) (.tmp rfl) hv_o_8) (fun q => ?_)
   obtain ⟨go_9, gc_10⟩ := q
   refine JL.sub ⟨[(0, ov (S (rL (rL (rU UInt8))) l_1)), (4, ov (S (rI .i64) i_3)), (16, ov (HDR go_9 0 (List.length o_8) gc_10))], [cown go_9 (rU UInt8) o_8 0 gc_10], []⟩ (.cons rfl (.cons rfl (.cons rfl .nil))) rfl rfl <| jc (op_assign lb (.tmp rfl)) <| JL.nil <| JQ.outNB <| JQ.then <| JC.region <| jmv rfl rfl <| lI hx fun v_11 hv_11 hx => jc (op_arI lb (.tmp rfl) .cI (cs hv_11)) <| jc (op_assign lb (.tmp rfl)) <| JL.nil ?_
   try obtain rfl := so hx
   exact JQ.next (go_9, gc_10) rfl (Imp.norm (js := [0]) rfl (.cons rfl (.cons rfl (.cons rfl .nil))))
 refine JC.exit <| JQ.outX ?_
 try obtain rfl := so hx
 have ht := hr _ rfl
 have hq2 := cs ht
 clear hr ht
 refine JQ.outX <| JQ.here ?_
 try obtain rfl := so hq2
 exact JQ.join (go_4, gc_5) (Imp.norm (js := [0]) rfl (.cons rfl .nil))

theorem sim_ref11_Items (k : Nat) (l_1 : (List api_Item)) (r : (List UInt8)) (hm : ref11_Items k l_1 = some r) : Sim Tryz.prog 23 [S (rL r_api_Item) l_1] [] (γ := Option Nat × Nat) (fun q => [cown q.1 (rU UInt8) r 0 q.2]) (fun q => .one (.val (HDR q.1 0 (List.length r) q.2))) := by
 unfold ref11_Items at hm
 refine Sim.of Tryz.func23 rfl rfl (lE rfl) (fun e0 w0 => ?_)
 refine JC.at ⟨[(0, ov (S (rL r_api_Item) l_1))], [], []⟩ <| jr <| jc (op_assign lb HasO.nilH) <| jn <| jr <| jmv rfl rfl <| jc (op_lenL lb tu23 (.tmp rfl)) <| lI hm fun v_2 hv_2 hm => jc (op_convIU lb tu3 tu24 (.tmp rfl) hv_2) <| bI hm fun v_3 hv_3 hm => jx (op_call (js := []) ld cl46 (sim_ref01_Put k v_2 (2 : Int) v_3 hv_3) .func (.cons (.tmp rfl) (.cons .cI .nil)) rfl) fun go_4 => JL.pre (Imp.frz (j := 0) rfl (ImpK.slotH (s := 8) rfl ImpK.refl)) <| jx (op_buildO (r := (rL (rU UInt8))) lb tu77 tz27 tZ27 rfl (lE rfl) (.S rfl (HasO.wk (.tmp rfl) wkHL) .nil) rfl) (fun gb_5 => ?_)
 refine JL.nrm ⟨[(0, ov (S (rL r_api_Item) l_1)), (9, ov (HDR (some gb_5) 0 (List.length ([v_3] : (List (List UInt8)))) (1)))], [cown (some gb_5) (rL (rU UInt8)) ([v_3] : (List (List UInt8))) 0 (1)], []⟩ [1] rfl (.cons rfl (.cons rfl .nil)) rfl <| jc (op_assign lb (.tmp rfl)) <| jn <| bI hm fun o_37 hx1 hq1 => JC.seqJ (γ := Option Nat × Nat) (stj := fun q => ⟨[(3, ov (HDR q.1 0 (List.length o_37) q.2))], [cown q.1 (rL (rU UInt8)) o_37 0 q.2], []⟩) (fun q => ?_) ?_
 · obtain ⟨go_38, gc_39⟩ := q
   refine JC.at ⟨[(3, ov (HDR go_38 0 (List.length o_37) gc_39))], [cown go_38 (rL (rU UInt8)) o_37 0 gc_39], []⟩ <| jr <| jmv rfl rfl <| bI hq1 fun v_40 hv_40 hq1 => JL.pre (Imp.frz (j := 0) rfl (ImpK.slotH (s := 3) rfl (ImpK.slotH (s := 56) rfl ImpK.refl))) <| jx (op_call (js := []) ld cl50 (sim_ref01_Join k o_37 v_40 hv_40) .func (.cons (HasO.wk (.tmp rfl) wkHL) .nil) rfl) (fun q => ?_)
   obtain ⟨go_41, gc_42⟩ := q
   refine JL.nrm ⟨[(57, ov (HDR go_41 0 (List.length v_40) gc_42))], [cown go_41 (rU UInt8) v_40 0 gc_42], []⟩ [0] rfl (.cons rfl .nil) rfl <| jc (op_assign lb (.tmp rfl)) <| jn <| JC.ret ?_
   obtain rfl := so hq1
   exact JQ.done (js := [0]) (ss := [.val (HDR go_41 0 (List.length v_40) gc_42)]) (go_41, gc_42) (.inl rfl) (.nil rfl) rfl (.cons (.tmp rfl) .nil) rfl rfl rfl
 refine jr <| jc (op_assign lb .cI) <| jn <| JC.block <| JC.pre ?_ (JC.loop (γ := Option Nat × Nat) (stf := fun s q => ⟨[(0, ov (S (rL r_api_Item) l_1)), (3, ov (HDR q.1 0 (List.length s.1) q.2)), (4, ov (S (rI .i64) s.2))], [cown q.1 (rL (rU UInt8)) s.1 0 q.2], []⟩) (q := ((some gb_5), 1)) hx1 ?_)
 · exact (Imp.norm (js := [0]) rfl (.cons rfl (.cons rfl (.cons rfl .nil))))
 intro s q x hx hr
 obtain ⟨o_6, i_7⟩ := s
 obtain ⟨go_8, gc_9⟩ := q
 change ref11_Items.b1 k l_1 o_6 i_7 = some x at hx
 unfold ref11_Items.b1 at hx
 refine JC.at ⟨[(0, ov (S (rL r_api_Item) l_1)), (3, ov (HDR go_8 0 (List.length o_6) gc_9)), (4, ov (S (rI .i64) i_7))], [cown go_8 (rL (rU UInt8)) o_6 0 gc_9], []⟩ <| JC.seq <| jr <| jmv rfl rfl <| jmv rfl rfl <| jc (op_lenL lb tu23 (.tmp rfl)) <| lI hx fun v_10 hv_10 hx => jc (op_cmpI lb (.tmp rfl) (.tmp rfl) (cs hv_10)) <| jn <| jif (.tmp rfl) hx (fun hc3 hx => ?_) (fun hc3 hx => ?_)
 · refine JC.skip <| JQ.then <| bI hx fun o_33 hx4 hq4 => JC.seqJ (γ := Option Nat × Nat) (stj := fun q => ⟨[(0, ov (S (rL r_api_Item) l_1)), (3, ov (HDR q.1 0 (List.length o_33) q.2)), (4, ov (S (rI .i64) i_7))], [cown q.1 (rL (rU UInt8)) o_33 0 q.2], []⟩) (fun q => ?_) ?_
   · obtain ⟨go_34, gc_35⟩ := q
     refine JC.at ⟨[(0, ov (S (rL r_api_Item) l_1)), (3, ov (HDR go_34 0 (List.length o_33) gc_35)), (4, ov (S (rI .i64) i_7))], [cown go_34 (rL (rU UInt8)) o_33 0 gc_35], []⟩ <| JC.region <| jmv rfl rfl <| lI hq4 fun v_36 hv_36 hq4 => jc (op_arI lb (.tmp rfl) .cI (cs hv_36)) <| jc (op_assign lb (.tmp rfl)) <| JL.nil ?_
     try obtain rfl := so hq4
     exact JQ.next (go_34, gc_35) rfl (Imp.norm (js := [0]) rfl (.cons rfl (.cons rfl (.cons rfl .nil))))
   refine JC.block <| JC.seq <| bI hx4 fun v_11 hv_11 hx4 => bI hx4 fun v_12 hv_12 hx4 => bI hx4 fun v_15 hv_15 hx4 => bI hx4 fun v_16 hv_16 hx4 => ?_
   obtain ⟨o_17, hv_o_17, hx4⟩ := bnd_inv hx4
   refine JC.anyE (kl := [3]) (kk := 15) (base := [(0, ov (S (rL r_api_Item) l_1)), (3, ov (HDR go_8 0 (List.length o_6) gc_9)), (4, ov (S (rI .i64) i_7))])
       (fs := fun γ => [⟨some 16, ov (HDR go_8 0 (List.length o_6) gc_9)⟩, ⟨some 17, ov (S (rL r_api_Item) l_1)⟩, ⟨some 18, ov (S (rI .i64) i_7)⟩, ⟨some 19, ov (PT r_api_Item v_11)⟩, ⟨some 20, ov (PT r_api_Dot v_11.Dot)⟩, ⟨some 21, ov (A r_api_Dot v_11.Dot)⟩, ⟨some 22, ov (S (rL (rU UInt8)) v_12)⟩, ⟨some 23, ov (S (rL r_api_Item) l_1)⟩, ⟨some 24, ov (S (rI .i64) i_7)⟩, ⟨some 25, ov (PT r_api_Item v_15)⟩, ⟨some 26, ov (PT rB v_15.Gone)⟩, ⟨some 27, ov (S rB v_15.Gone)⟩, ⟨some 28, ov (S (rL (rU UInt8)) v_16)⟩, ⟨some 29, ov (S (rL (rL (rU UInt8))) ([v_12, v_16] : (List (List UInt8))))⟩, ⟨some 30, ov (HDR (deo (γ 14 0)) 0 (List.length o_17) (γ 14 1))⟩, ⟨some 3, ov (HDR (deo (γ 14 0)) 0 (List.length o_17) (γ 14 1))⟩])
       (rs := fun γ => [⟨cown go_8 (rL (rU UInt8)) o_6 0 gc_9, none, (some 14), []⟩, ⟨cown (deo (γ 14 0)) (rL (rU UInt8)) o_17 0 (γ 14 1), (some 14), none, []⟩])
       (ds := [16, 17, 18, 19, 20, 21, 22, 23, 24, 25, 26, 27, 28, 29, 30, 3]) (bs := [0, 3, 4]) (afts := [[], [], [], [], [], [], [], [], [], [], [], [], [], [], [14, 15], []]) (js := [0]) mixed (.cons rfl (.cons rfl (.cons rfl .nil))) (fun _ => rfl)
       (by
      refine db 1 3 <| db 2 0 <| db 3 4 <| dS 4 (fun γ ρ B hb hd => op_indexAddrLg lb tu23 tz62 (tl hd 1 17) (tl hd 2 18) hv_11) <| dS 5 (fun γ ρ B hb hd => op_fieldAddrP lb tf62_0 (tl hd 3 19) (comp_api_Item_Dot v_11)) ?_
      refine dS 6 (fun γ ρ B hb hd => op_loadPAg lb tA26 (tl hd 4 20) rfl) <| dS 7 (fun γ ρ B hb hd => (op_call (js := []) ld cl76 (sim_ref01_Dot k v_11.Dot v_12 hv_12) .func (.cons (tl hd 5 21) .nil) rfl).post (fun q => Imp.dropF (j := 0) rfl)) <| db 8 0 <| db 9 4 <| dS 10 (fun γ ρ B hb hd => op_indexAddrLg lb tu23 tz62 (tl hd 7 23) (tl hd 8 24) hv_15) ?_
      refine dS 11 (fun γ ρ B hb hd => op_fieldAddrP lb tf62_2 (tl hd 9 25) (comp_api_Item_Gone v_15)) <| dS 12 (fun γ ρ B hb hd => op_loadPSg lb tS4 rfl (tl hd 10 26) rfl) <| dS 13 (fun γ ρ B hb hd => (op_call (js := []) ld cl49 (sim_ref11_flag k v_15.Gone v_16 hv_16) .func (.cons (tl hd 11 27) .nil) rfl).post (fun _ => Imp.refl)) <| dS 14 (fun γ ρ B hb hd => op_buildF (r := (rL (rU UInt8))) lb tu77 tz27 tZ27 rfl (lE rfl) (.S rfl (tl hd 6 22) (.S rfl (tl hd 12 28) .nil)) rfl) ?_
      refine DSteps.cons (j := 15) rfl (fun _ => rfl) (.runX (fun _ _ => rfl) (fun γ ρ B hb hd => ⟨.none, OpX.ghost (γ := Option Nat × Nat) (st' := fun q => setO ⟨ρ, (cown q.1 (rL (rU UInt8)) o_17 0 q.2) :: B, _⟩ (some 30) (ov (HDR q.1 0 (List.length o_17) q.2))) (fun q c => bif Nat.beq c 0 then eno q.1 else q.2) (op_appendL (j := 0) lb tu77 tu77 rfl tB27 rfl (Nat.lt_of_lt_of_le Nat.zero_lt_one (lE rfl)) (Nat.lt_of_lt_of_le Nat.zero_lt_one (lE rfl))  rfl (tl hd 0 16) (tl hd 13 29) hv_o_17) (fun q => by obtain ⟨q0, q1⟩ := q; cases q0 <;> exact Imp.refl)⟩) (fun _ _ => rfl) (fun _ _ => rfl)) ?_
      refine dS 16 (fun γ ρ B hb hd => op_assign lb (tl hd 14 30)) ?_
      exact DSteps.nil)
       (by decide +kernel) (fun _ => rfl) rfl (fun _ => rfl) (fun _ => rfl) rfl (by decide) (by decide) (by decide +kernel) (fun _ d h => by simp at h; subst h; exact ⟨_, rfl, rfl⟩)
       (ρ' := fun γ => [(0, ov (S (rL r_api_Item) l_1)), (3, ov (HDR (deo (γ 14 0)) 0 (List.length o_17) (γ 14 1))), (4, ov (S (rI .i64) i_7))])
       (X' := fun γ => [cown (deo (γ 14 0)) (rL (rU UInt8)) o_17 0 (γ 14 1)])
       (fun γ ρ hb hd => (.cons (hb 0 _ rfl (by decide)) (.cons (hdq hd 15 3 rfl) (.cons (hb 4 _ rfl (by decide)) .nil)))) (fun _ => rfl) (fun γ => ?_)
   generalize (deo (γ 14 0)) = go_18
   generalize (γ 14 1) = gc_19
   clear γ
   refine JQ.at ⟨[(0, ov (S (rL r_api_Item) l_1)), (3, ov (HDR go_18 0 (List.length o_17) gc_19)), (4, ov (S (rI .i64) i_7))], [cown go_18 (rL (rU UInt8)) o_17 0 gc_19], []⟩ <| JQ.then <| jr <| jmv rfl rfl <| jmv rfl rfl <| bI hx4 fun v_20 hv_20 hx4 => jc (op_indexAddrLg lb tu23 tz62 (.tmp rfl) (.tmp rfl) hv_20) <| jc (op_fieldAddrP lb tf62_2 (.tmp rfl) (comp_api_Item_Gone v_20)) <| jc (op_loadPSg lb tS4 rfl (.tmp rfl) rfl) <| lI hx4 fun v_21 hv_21 hx4 => jc (op_not lb (.tmp rfl) hv_21) <| jn <| jif (.tmp rfl) hx4 (fun hc5 hx4 => ?_) (fun hc5 hx4 => ?_)
   · refine bI hx4 fun v_22 hv_22 hx4 => bI hx4 fun v_23 hv_23 hx4 => bI hx4 fun v_26 hv_26 hx4 => bI hx4 fun v_27 hv_27 hx4 => ?_
     obtain ⟨o_30, hv_o_30, hx4⟩ := bnd_inv hx4
     refine JC.anyE (kl := [3]) (kk := 19) (base := [(0, ov (S (rL r_api_Item) l_1)), (3, ov (HDR go_18 0 (List.length o_17) gc_19)), (4, ov (S (rI .i64) i_7))])
         (fs := fun γ => [⟨some 37, ov (HDR go_18 0 (List.length o_17) gc_19)⟩, ⟨some 38, ov (S (rL r_api_Item) l_1)⟩, ⟨some 39, ov (S (rI .i64) i_7)⟩, ⟨some 40, ov (PT r_api_Item v_22)⟩, ⟨some 41, ov (PT r_api_Key v_22.Key)⟩, ⟨some 42, ov (PT rS v_22.Key.Topic)⟩, ⟨some 43, ov (S rS v_22.Key.Topic)⟩, ⟨some 44, ov (S (rL (rU UInt8)) v_22.Key.Topic)⟩, ⟨some 45, ov (S (rL (rU UInt8)) v_23)⟩, ⟨some 46, ov (S (rL r_api_Item) l_1)⟩, ⟨some 47, ov (S (rI .i64) i_7)⟩, ⟨some 48, ov (PT r_api_Item v_26)⟩, ⟨some 49, ov (PT r_api_Key v_26.Key)⟩, ⟨some 50, ov (PT rS v_26.Key.Device)⟩, ⟨some 51, ov (S rS v_26.Key.Device)⟩, ⟨some 52, ov (S (rL (rU UInt8)) v_26.Key.Device)⟩, ⟨some 53, ov (S (rL (rU UInt8)) v_27)⟩, ⟨some 54, ov (S (rL (rL (rU UInt8))) ([v_23, v_27] : (List (List UInt8))))⟩, ⟨some 55, ov (HDR (deo (γ 18 0)) 0 (List.length o_30) (γ 18 1))⟩, ⟨some 3, ov (HDR (deo (γ 18 0)) 0 (List.length o_30) (γ 18 1))⟩])
         (rs := fun γ => [⟨cown go_18 (rL (rU UInt8)) o_17 0 gc_19, none, (some 18), []⟩, ⟨cown (deo (γ 18 0)) (rL (rU UInt8)) o_30 0 (γ 18 1), (some 18), none, []⟩])
         (ds := [37, 38, 39, 40, 41, 42, 43, 44, 45, 46, 47, 48, 49, 50, 51, 52, 53, 54, 55, 3]) (bs := [0, 3, 4]) (afts := [[], [], [], [], [], [], [], [], [], [], [], [], [], [], [], [], [], [], [18, 19], []]) (js := [0]) mixed (.cons rfl (.cons rfl (.cons rfl .nil))) (fun _ => rfl)
         (by
      refine db 1 3 <| db 2 0 <| db 3 4 <| dS 4 (fun γ ρ B hb hd => op_indexAddrLg lb tu23 tz62 (tl hd 1 38) (tl hd 2 39) hv_22) <| dS 5 (fun γ ρ B hb hd => op_fieldAddrP lb tf62_1 (tl hd 3 40) (comp_api_Item_Key v_22)) ?_
      refine dS 6 (fun γ ρ B hb hd => op_fieldAddrP lb tf60_0 (tl hd 4 41) (comp_api_Key_Topic v_22.Key)) <| dS 7 (fun γ ρ B hb hd => op_loadPSg lb tS9 rfl (tl hd 5 42) rfl) <| dS 8 (fun γ ρ B hb hd => op_convSB lb tu9 tu27 tu5 (tl hd 6 43)) <| dS 9 (fun γ ρ B hb hd => (op_call (js := []) ld cl77 (sim_ref01_Blob k v_22.Key.Topic v_23 hv_23) .func (.cons (tl hd 7 44) .nil) rfl).post (fun q => Imp.dropF (j := 0) rfl)) <| db 10 0 ?_
      refine db 11 4 <| dS 12 (fun γ ρ B hb hd => op_indexAddrLg lb tu23 tz62 (tl hd 9 46) (tl hd 10 47) hv_26) <| dS 13 (fun γ ρ B hb hd => op_fieldAddrP lb tf62_1 (tl hd 11 48) (comp_api_Item_Key v_26)) <| dS 14 (fun γ ρ B hb hd => op_fieldAddrP lb tf60_1 (tl hd 12 49) (comp_api_Key_Device v_26.Key)) <| dS 15 (fun γ ρ B hb hd => op_loadPSg lb tS9 rfl (tl hd 13 50) rfl) ?_
      refine dS 16 (fun γ ρ B hb hd => op_convSB lb tu9 tu27 tu5 (tl hd 14 51)) <| dS 17 (fun γ ρ B hb hd => (op_call (js := []) ld cl77 (sim_ref01_Blob k v_26.Key.Device v_27 hv_27) .func (.cons (tl hd 15 52) .nil) rfl).post (fun q => Imp.dropF (j := 0) rfl)) <| dS 18 (fun γ ρ B hb hd => op_buildF (r := (rL (rU UInt8))) lb tu77 tz27 tZ27 rfl (lE rfl) (.S rfl (tl hd 8 45) (.S rfl (tl hd 16 53) .nil)) rfl) ?_
      refine DSteps.cons (j := 19) rfl (fun _ => rfl) (.runX (fun _ _ => rfl) (fun γ ρ B hb hd => ⟨.none, OpX.ghost (γ := Option Nat × Nat) (st' := fun q => setO ⟨ρ, (cown q.1 (rL (rU UInt8)) o_30 0 q.2) :: B, _⟩ (some 55) (ov (HDR q.1 0 (List.length o_30) q.2))) (fun q c => bif Nat.beq c 0 then eno q.1 else q.2) (op_appendL (j := 0) lb tu77 tu77 rfl tB27 rfl (Nat.lt_of_lt_of_le Nat.zero_lt_one (lE rfl)) (Nat.lt_of_lt_of_le Nat.zero_lt_one (lE rfl))  rfl (tl hd 0 37) (tl hd 17 54) hv_o_30) (fun q => by obtain ⟨q0, q1⟩ := q; cases q0 <;> exact Imp.refl)⟩) (fun _ _ => rfl) (fun _ _ => rfl)) ?_
      refine dS 20 (fun γ ρ B hb hd => op_assign lb (tl hd 18 55)) ?_
      exact DSteps.nil)
         (by decide +kernel) (fun _ => rfl) rfl (fun _ => rfl) (fun _ => rfl) rfl (by decide) (by decide) (by decide +kernel) (fun _ d h => by simp at h; subst h; exact ⟨_, rfl, rfl⟩)
         (ρ' := fun γ => [(0, ov (S (rL r_api_Item) l_1)), (3, ov (HDR (deo (γ 18 0)) 0 (List.length o_30) (γ 18 1))), (4, ov (S (rI .i64) i_7))])
         (X' := fun γ => [cown (deo (γ 18 0)) (rL (rU UInt8)) o_30 0 (γ 18 1)])
         (fun γ ρ hb hd => (.cons (hb 0 _ rfl (by decide)) (.cons (hdq hd 19 3 rfl) (.cons (hb 4 _ rfl (by decide)) .nil)))) (fun _ => rfl) (fun γ => ?_)
     generalize (deo (γ 18 0)) = go_31
     generalize (γ 18 1) = gc_32
     clear γ
     refine JQ.at ⟨[(0, ov (S (rL r_api_Item) l_1)), (3, ov (HDR go_31 0 (List.length o_30) gc_32)), (4, ov (S (rI .i64) i_7))], [cown go_31 (rL (rU UInt8)) o_30 0 gc_32], []⟩ <| JQ.outNB ?_
     try obtain rfl := so hx4
     exact JQ.join (go_31, gc_32) (Imp.norm (js := [0]) rfl (.cons rfl (.cons rfl (.cons rfl .nil))))
   refine JC.skip <| JQ.outNB ?_
   try obtain rfl := so hx4
   exact JQ.join (go_18, gc_19) (Imp.norm (js := [0]) rfl (.cons rfl (.cons rfl (.cons rfl .nil))))
 refine JC.exit <| JQ.outX ?_
 try obtain rfl := so hx
 have ht := hr _ rfl
 have hq2 := cs ht
 clear hr ht
 refine JQ.outX <| JQ.here ?_
 try obtain rfl := so hq2
 exact JQ.join (go_8, gc_9) (Imp.norm (js := [0]) rfl (.cons rfl .nil))

theorem sim_ref01_Vector (k : Nat) (v_1 : (Vector UInt64 16)) (r : (List UInt8)) (hm : ref01_Vector k v_1 = some r) : Sim Tryz.prog 47 [A (rV 16 (rU UInt64)) v_1] [] (γ := Option Nat × Nat) (fun q => [cown q.1 (rU UInt8) r 0 q.2]) (fun q => .one (.val (HDR q.1 0 (List.length r) q.2))) := by
 unfold ref01_Vector at hm
 refine Sim.of Tryz.func47 rfl rfl (lE rfl) (fun e0 w0 => ?_)
 refine JC.at ⟨[(0, ov (A (rV 16 (rU UInt64)) v_1))], [], []⟩ <| jr <| jx (op_boxA lb (.tmp rfl)) fun gb_2 => jc (op_assign lb HasO.nilH) <| jn <| jr <| jc (op_assign lb HasO.nilH) <| jn <| bI hm fun b_16 hx1 hq1 => JC.seqJ (γ := Option Nat × Nat) (stj := fun q => ⟨[(3, ov (HDR q.1 0 (List.length b_16) q.2))], [cown q.1 (rU UInt8) b_16 0 q.2], []⟩) (fun q => ?_) ?_
 · obtain ⟨go_17, gc_18⟩ := q
   refine JC.at ⟨[(3, ov (HDR go_17 0 (List.length b_16) gc_18))], [cown go_17 (rU UInt8) b_16 0 gc_18], []⟩ <| jr <| jmv rfl rfl <| jc (op_assign lb (.tmp rfl)) <| jn <| JC.ret ?_
   obtain rfl := so hq1
   exact JQ.done (js := [0]) (ss := [.val (HDR go_17 0 (List.length b_16) gc_18)]) (go_17, gc_18) (.inl rfl) (.nil rfl) rfl (.cons (.tmp rfl) .nil) rfl rfl rfl
 refine jr <| jc (op_assign lb .cI) <| jn <| JC.block <| JC.pre (Imp.nilown (rU UInt8)) <| JC.pre ?_ (JC.loop (γ := Option Nat × Nat) (stf := fun s q => ⟨[(1, ov (PTR gb_2 0)), (3, ov (HDR q.1 0 (List.length s.1) q.2)), (4, ov (S (rI .i64) s.2))], [cvar gb_2 (rV 16 (rU UInt64)) v_1, cown q.1 (rU UInt8) s.1 0 q.2], []⟩) (q := (none, 0)) hx1 ?_)
 · exact (Imp.norm (js := [0, 0]) rfl (.cons rfl (.cons rfl (.cons rfl .nil))))
 intro s q x hx hr
 obtain ⟨b_3, i_4⟩ := s
 obtain ⟨go_5, gc_6⟩ := q
 change ref01_Vector.b1 k v_1 b_3 i_4 = some x at hx
 unfold ref01_Vector.b1 at hx
 refine JC.at ⟨[(1, ov (PTR gb_2 0)), (3, ov (HDR go_5 0 (List.length b_3) gc_6)), (4, ov (S (rI .i64) i_4))], [cvar gb_2 (rV 16 (rU UInt64)) v_1, cown go_5 (rU UInt8) b_3 0 gc_6], []⟩ <| JC.seq <| jr <| jmv rfl rfl <| lI hx fun v_7 hv_7 hx => jc (op_cmpI lb (.tmp rfl) .cI (cs hv_7)) <| jn <| jif (.tmp rfl) hx (fun hc3 hx => ?_) (fun hc3 hx => ?_)
 · refine JC.skip <| JQ.then <| JC.seq <| JC.block <| JC.region <| jmv rfl rfl <| jmv rfl rfl <| bI hx fun i_8 hv_i_8 hx => jc (op_indexAddrIF lb tr29 (.tmp rfl) (.tmp rfl) hv_i_8) <| lI hx fun v_9 hv_9 hx => jc (op_loadS (j := 0) lb tS24 (.tmp rfl) rfl (Comp.at (Comp.self (rV 16 (rU UInt64)) v_1) i_8.2 rfl) rfl hv_9) <| bI hx fun v_10 hv_10 hx => jx (op_call (js := []) ld cl46 (sim_ref01_Put k v_9 (8 : Int) v_10 hv_10) .func (.cons (.tmp rfl) (.cons .cI .nil)) rfl) (fun go_11 => ?_)
   refine bI hx fun b_12 hv_b_12 hx => jx (op_appendO (j := 2) (j' := 0) lb tu27 tu27 rfl tB5 rfl (Nat.lt_of_lt_of_le Nat.zero_lt_one (lE rfl)) (Nat.lt_of_lt_of_le Nat.zero_lt_one (lE rfl))  rfl (.tmp rfl) rfl (.tmp rfl) hv_b_12) (fun q => ?_)
   obtain ⟨go_13, gc_14⟩ := q
   refine JL.nrm ⟨[(1, ov (PTR gb_2 0)), (4, ov (S (rI .i64) i_4)), (14, ov (HDR go_13 0 (List.length b_12) gc_14))], [cvar gb_2 (rV 16 (rU UInt64)) v_1, cown go_13 (rU UInt8) b_12 0 gc_14], []⟩ [1, 1] rfl (.cons rfl (.cons rfl (.cons rfl .nil))) rfl <| jc (op_assign lb (.tmp rfl)) <| JL.nil <| JQ.outNB <| JQ.then <| JC.region <| jmv rfl rfl <| lI hx fun v_15 hv_15 hx => jc (op_arI lb (.tmp rfl) .cI (cs hv_15)) <| jc (op_assign lb (.tmp rfl)) <| JL.nil ?_
   try obtain rfl := so hx
   exact JQ.next (go_13, gc_14) rfl (Imp.norm (js := [0, 0]) rfl (.cons rfl (.cons rfl (.cons rfl .nil))))
 refine JC.exit <| JQ.outX ?_
 try obtain rfl := so hx
 have ht := hr _ rfl
 have hq2 := cs ht
 clear hr ht
 refine JQ.outX <| JQ.here ?_
 try obtain rfl := so hq2
 exact JQ.join (go_5, gc_6) (Imp.norm (js := [1]) rfl (.cons rfl .nil))

theorem sim_ref09_Bytes (k : Nat) (e_1 : api_Event) (r : (List UInt8)) (hm : ref09_Bytes k e_1 = some r) : Sim Tryz.prog 45 [A r_api_Event e_1] [] (γ := Option Nat × Nat) (fun q => [cown q.1 (rU UInt8) r 0 q.2]) (fun q => .one (.val (HDR q.1 0 (List.length r) q.2))) := by
 unfold ref09_Bytes at hm
 refine Sim.of Tryz.func45 rfl rfl (lE rfl) (fun e0 w0 => ?_)
 refine JC.at ⟨[(0, ov (A r_api_Event e_1))], [], []⟩ <| jr <| jx (op_boxA lb (.tmp rfl)) fun gb_2 => jc (op_assign lb HasO.nilH) <| jn <| JC.seq <| bI hm fun v_3 hv_3 hm => bI hm fun v_6 hv_6 hm => bI hm fun v_9 hv_9 hm => bI hm fun v_12 hv_12 hm => ?_
 obtain ⟨v_15, hv_15, hm⟩ := lt1_inv hm
 obtain ⟨v_16, hv_16, hm⟩ := bnd_inv hm
 refine JC.anyF (base := [(1, ov (PTR gb_2 0))])
     (fs := fun γ => [⟨some 5, ov (PTR gb_2 (0 + 0))⟩, ⟨some 6, ov (A r_api_Dot e_1.ID)⟩, ⟨some 7, ov (S (rL (rU UInt8)) v_3)⟩, ⟨some 8, ov (PTR gb_2 (0 + 2))⟩, ⟨some 9, ov (S rS e_1.Topic)⟩, ⟨some 10, ov (S (rL (rU UInt8)) e_1.Topic)⟩, ⟨some 11, ov (S (rL (rU UInt8)) v_6)⟩, ⟨some 12, ov (PTR gb_2 (0 + 3))⟩, ⟨some 13, ov (S (rL (rU UInt8)) e_1.Payload)⟩, ⟨some 14, ov (S (rL (rU UInt8)) v_9)⟩, ⟨some 15, ov (PTR gb_2 (0 + 4))⟩, ⟨some 16, ov (A (rV 16 (rU UInt64)) e_1.Past)⟩, ⟨some 17, ov (S (rL (rU UInt8)) v_12)⟩, ⟨some 18, ov (PTR gb_2 (0 + 20))⟩, ⟨some 19, ov (S (rL r_api_Dest) e_1.To)⟩, ⟨some 20, ov (S (rI .i64) (List.length e_1.To : Int))⟩, ⟨some 21, ov (S (rU UInt64) v_15)⟩, ⟨some 22, ov (S (rL (rU UInt8)) v_16)⟩, ⟨some 23, ov (HDR (some (γ 18 0)) 0 (List.length ([v_3, v_6, v_9, v_12, v_16] : (List (List UInt8)))) (5))⟩, ⟨some 3, ov (HDR (some (γ 18 0)) 0 (List.length ([v_3, v_6, v_9, v_12, v_16] : (List (List UInt8)))) (5))⟩])
     (rs := fun γ => [⟨cvar gb_2 r_api_Event e_1, none, none, [1, 4, 8, 11, 14]⟩, ⟨zq34 (γ 18 0) v_3 v_6 v_9 v_12 v_16, (some 18), none, []⟩])
     (afts := [[], [], [], [], [], [], [], [], [], [], [], [], [], [], [], [], [], [], [18, 19], []]) (js := [0]) mixed (.cons rfl .nil) (fun _ => rfl)
     (by
      refine dS 1 (fun γ ρ B hb hd => op_fieldAddr (off := 0) lb tf32_0 (.tmp (hb 1 _ rfl))) <| dR 2 (fun γ ρ B hb hd => OpStep.lk ⟨ρ, (cvar gb_2 r_api_Event e_1) :: B, _⟩ (op_loadA (j := 0) lb tA26 (tl hd 0 5) rfl (cT (comp_api_Event_ID e_1) rfl) rfl)) <| dS 3 (fun γ ρ B hb hd => (op_call (js := []) ld cl76 (sim_ref01_Dot k e_1.ID v_3 hv_3) .func (.cons (tl hd 1 6) .nil) rfl).post (fun q => Imp.dropF (j := 0) rfl)) <| dS 4 (fun γ ρ B hb hd => op_fieldAddr (off := 2) lb tf32_1 (.tmp (hb 1 _ rfl))) <| dR 5 (fun γ ρ B hb hd => OpStep.lk ⟨ρ, (cvar gb_2 r_api_Event e_1) :: B, _⟩ (op_loadS (j := 0) lb tS9 (tl hd 3 8) rfl (cT (comp_api_Event_Topic e_1) rfl) rfl rfl)) ?_
      refine dS 6 (fun γ ρ B hb hd => op_convSB lb tu9 tu27 tu5 (tl hd 4 9)) <| dS 7 (fun γ ρ B hb hd => (op_call (js := []) ld cl77 (sim_ref01_Blob k e_1.Topic v_6 hv_6) .func (.cons (tl hd 5 10) .nil) rfl).post (fun q => Imp.dropF (j := 0) rfl)) <| dS 8 (fun γ ρ B hb hd => op_fieldAddr (off := 3) lb tf32_2 (.tmp (hb 1 _ rfl))) <| dR 9 (fun γ ρ B hb hd => OpStep.lk ⟨ρ, (cvar gb_2 r_api_Event e_1) :: B, _⟩ (op_loadS (j := 0) lb tS27 (tl hd 7 12) rfl (cT (comp_api_Event_Payload e_1) rfl) rfl rfl)) <| dS 10 (fun γ ρ B hb hd => (op_call (js := []) ld cl77 (sim_ref01_Blob k e_1.Payload v_9 hv_9) .func (.cons (tl hd 8 13) .nil) rfl).post (fun q => Imp.dropF (j := 0) rfl)) ?_
      refine dS 11 (fun γ ρ B hb hd => op_fieldAddr (off := 4) lb tf32_3 (.tmp (hb 1 _ rfl))) <| dR 12 (fun γ ρ B hb hd => OpStep.lk ⟨ρ, (cvar gb_2 r_api_Event e_1) :: B, _⟩ (op_loadA (j := 0) lb tA29 (tl hd 10 15) rfl (cT (comp_api_Event_Past e_1) rfl) rfl)) <| dS 13 (fun γ ρ B hb hd => (op_call (js := []) ld cl47 (sim_ref01_Vector k e_1.Past v_12 hv_12) .func (.cons (tl hd 11 16) .nil) rfl).post (fun q => Imp.dropF (j := 0) rfl)) <| dS 14 (fun γ ρ B hb hd => op_fieldAddr (off := 20) lb tf32_4 (.tmp (hb 1 _ rfl))) <| dR 15 (fun γ ρ B hb hd => OpStep.lk ⟨ρ, (cvar gb_2 r_api_Event e_1) :: B, _⟩ (op_loadS (j := 0) lb tS30 (tl hd 13 18) rfl (cT (comp_api_Event_To e_1) rfl) rfl rfl)) ?_
      refine dS 16 (fun γ ρ B hb hd => op_lenL lb tu30 (tl hd 14 19)) <| dS 17 (fun γ ρ B hb hd => op_convIU lb tu3 tu24 (tl hd 15 20) hv_15) <| dS 18 (fun γ ρ B hb hd => (op_call (js := []) ld cl46 (sim_ref01_Put k v_15 (2 : Int) v_16 hv_16) .func (.cons (tl hd 16 21) (.cons .cI .nil)) rfl).post (fun q => Imp.dropF (j := 0) rfl)) ?_
      refine DSteps.cons (j := 19) rfl (fun _ => rfl) (.runX (fun _ _ => rfl) (fun γ ρ B hb hd => ⟨.none, OpX.ghost (γ := Nat) (st' := fun q => setO ⟨ρ, (zq34 q v_3 v_6 v_9 v_12 v_16) :: B, _⟩ (some 23) (ov (HDR (some q) 0 (List.length ([v_3, v_6, v_9, v_12, v_16] : (List (List UInt8)))) (5)))) (fun q c => q) (OpX.front (op_buildO (r := (rL (rU UInt8))) lb tu77 tz27 tZ27 rfl (lE rfl) (.S rfl (tl hd 2 7) (.S rfl (tl hd 6 11) (.S rfl (tl hd 9 14) (.S rfl (tl hd 12 17) (.S rfl (tl hd 17 22) .nil))))) rfl)) (fun q => Imp.refl)⟩) (fun _ _ => rfl) (fun _ _ => rfl)) ?_
      refine dS 20 (fun γ ρ B hb hd => op_assign lb (tl hd 18 23)) ?_
      exact DSteps.nil)
     (by decide +kernel) (fun _ => rfl) (fun _ => rfl) (fun _ => rfl) rfl
     (ρ' := fun γ => [(1, ov (PTR gb_2 0)), (3, ov (HDR (some (γ 18 0)) 0 (List.length ([v_3, v_6, v_9, v_12, v_16] : (List (List UInt8)))) (5)))])
     (X' := fun γ => [cvar gb_2 r_api_Event e_1, zq34 (γ 18 0) v_3 v_6 v_9 v_12 v_16])
     (fun γ ρ hb hd => (.cons (hb 1 _ rfl) (.cons (hdq hd 19 3 rfl) .nil))) (fun _ => rfl) (fun γ => ?_)
 generalize (γ 18 0) = gb_18
 clear γ
 refine JQ.at ⟨[(1, ov (PTR gb_2 0)), (3, ov (HDR (some gb_18) 0 (List.length ([v_3, v_6, v_9, v_12, v_16] : (List (List UInt8)))) (5)))], [cvar gb_2 r_api_Event e_1, zq34 gb_18 v_3 v_6 v_9 v_12 v_16], []⟩ <| JQ.then <| bI hm fun l_36 hx1 hq1 => JC.seqJ (γ := Option Nat × Nat) (stj := fun q => ⟨[(3, ov (HDR q.1 0 (List.length l_36) q.2))], [cown q.1 (rL (rU UInt8)) l_36 0 q.2], []⟩) (fun q => ?_) ?_
 · obtain ⟨go_37, gc_38⟩ := q
   refine JC.at ⟨[(3, ov (HDR go_37 0 (List.length l_36) gc_38))], [cown go_37 (rL (rU UInt8)) l_36 0 gc_38], []⟩ <| jr <| jmv rfl rfl <| bI hq1 fun v_39 hv_39 hq1 => JL.pre (Imp.frz (j := 0) rfl (ImpK.slotH (s := 3) rfl (ImpK.slotH (s := 49) rfl ImpK.refl))) <| jx (op_call (js := []) ld cl50 (sim_ref01_Join k l_36 v_39 hv_39) .func (.cons (HasO.wk (.tmp rfl) wkHL) .nil) rfl) (fun q => ?_)
   obtain ⟨go_40, gc_41⟩ := q
   refine JL.nrm ⟨[(50, ov (HDR go_40 0 (List.length v_39) gc_41))], [cown go_40 (rU UInt8) v_39 0 gc_41], []⟩ [0] rfl (.cons rfl .nil) rfl <| jc (op_assign lb (.tmp rfl)) <| jn <| JC.ret ?_
   obtain rfl := so hq1
   exact JQ.done (js := [0]) (ss := [.val (HDR go_40 0 (List.length v_39) gc_41)]) (go_40, gc_41) (.inl rfl) (.nil rfl) rfl (.cons (.tmp rfl) .nil) rfl rfl rfl
 refine jr <| jc (op_assign lb .cI) <| jn <| JC.block <| JC.pre ?_ (JC.loop (γ := Option Nat × Nat) (stf := fun s q => ⟨[(1, ov (PTR gb_2 0)), (3, ov (HDR q.1 0 (List.length s.1) q.2)), (4, ov (S (rI .i64) s.2))], [cvar gb_2 r_api_Event e_1, cown q.1 (rL (rU UInt8)) s.1 0 q.2], []⟩) (q := ((some gb_18), 5)) hx1 ?_)
 · exact (Imp.norm (js := [0, 0]) rfl (.cons rfl (.cons rfl (.cons rfl .nil))))
 intro s q x hx hr
 obtain ⟨l_19, i_20⟩ := s
 obtain ⟨go_21, gc_22⟩ := q
 change ref09_Bytes.b1 k e_1 l_19 i_20 = some x at hx
 unfold ref09_Bytes.b1 at hx
 refine JC.at ⟨[(1, ov (PTR gb_2 0)), (3, ov (HDR go_21 0 (List.length l_19) gc_22)), (4, ov (S (rI .i64) i_20))], [cvar gb_2 r_api_Event e_1, cown go_21 (rL (rU UInt8)) l_19 0 gc_22], []⟩ <| JC.seq <| jr <| jmv rfl rfl <| jc (op_fieldAddr (off := 20) lb tf32_4 (.tmp rfl)) <| jc (op_loadS (j := 0) lb tS30 (.tmp rfl) rfl (cT (comp_api_Event_To e_1) rfl) rfl rfl) <| jc (op_lenL lb tu30 (.tmp rfl)) <| lI hx fun v_23 hv_23 hx => jc (op_cmpI lb (.tmp rfl) (.tmp rfl) (cs hv_23)) <| jn <| jif (.tmp rfl) hx (fun hc3 hx => ?_) (fun hc3 hx => ?_)
 · refine JC.skip <| JQ.then <| JC.seq <| JC.block <| bI hx fun v_24 hv_24 hx => bI hx fun v_25 hv_25 hx => bI hx fun v_28 hv_28 hx => bI hx fun v_29 hv_29 hx => ?_
   obtain ⟨l_32, hv_l_32, hx⟩ := bnd_inv hx
   refine JC.anyE (kl := [3]) (kk := 18) (base := [(1, ov (PTR gb_2 0)), (3, ov (HDR go_21 0 (List.length l_19) gc_22)), (4, ov (S (rI .i64) i_20))])
       (fs := fun γ => [⟨some 31, ov (HDR go_21 0 (List.length l_19) gc_22)⟩, ⟨some 32, ov (PTR gb_2 (0 + 20))⟩, ⟨some 33, ov (S (rL r_api_Dest) e_1.To)⟩, ⟨some 34, ov (S (rI .i64) i_20)⟩, ⟨some 35, ov (PT r_api_Dest v_24)⟩, ⟨some 36, ov (PT r_api_Dot v_24.Dot)⟩, ⟨some 37, ov (A r_api_Dot v_24.Dot)⟩, ⟨some 38, ov (S (rL (rU UInt8)) v_25)⟩, ⟨some 39, ov (PTR gb_2 (0 + 20))⟩, ⟨some 40, ov (S (rL r_api_Dest) e_1.To)⟩, ⟨some 41, ov (S (rI .i64) i_20)⟩, ⟨some 42, ov (PT r_api_Dest v_28)⟩, ⟨some 43, ov (PT rS v_28.Device)⟩, ⟨some 44, ov (S rS v_28.Device)⟩, ⟨some 45, ov (S (rL (rU UInt8)) v_28.Device)⟩, ⟨some 46, ov (S (rL (rU UInt8)) v_29)⟩, ⟨some 47, ov (S (rL (rL (rU UInt8))) ([v_25, v_29] : (List (List UInt8))))⟩, ⟨some 48, ov (HDR (deo (γ 17 0)) 0 (List.length l_32) (γ 17 1))⟩, ⟨some 3, ov (HDR (deo (γ 17 0)) 0 (List.length l_32) (γ 17 1))⟩])
       (rs := fun γ => [⟨cvar gb_2 r_api_Event e_1, none, none, [2, 9]⟩, ⟨cown go_21 (rL (rU UInt8)) l_19 0 gc_22, none, (some 17), []⟩, ⟨cown (deo (γ 17 0)) (rL (rU UInt8)) l_32 0 (γ 17 1), (some 17), none, []⟩])
       (ds := [31, 32, 33, 34, 35, 36, 37, 38, 39, 40, 41, 42, 43, 44, 45, 46, 47, 48, 3]) (bs := [1, 3, 4]) (afts := [[], [], [], [], [], [], [], [], [], [], [], [], [], [], [], [], [], [17, 18], []]) (js := [0, 0]) mixed (.cons rfl (.cons rfl (.cons rfl .nil))) (fun _ => rfl)
       (by
      refine db 1 3 <| dS 2 (fun γ ρ B hb hd => op_fieldAddr (off := 20) lb tf32_4 (.tmp (hb 1 _ rfl))) <| dR 3 (fun γ ρ B hb hd => OpStep.lk ⟨ρ, (cvar gb_2 r_api_Event e_1) :: B, _⟩ (op_loadS (j := 0) lb tS30 (tl hd 1 32) rfl (cT (comp_api_Event_To e_1) rfl) rfl rfl)) <| db 4 4 <| dS 5 (fun γ ρ B hb hd => op_indexAddrLg lb tu30 tz125 (tl hd 2 33) (tl hd 3 34) hv_24) ?_
      refine dS 6 (fun γ ρ B hb hd => op_fieldAddrP lb tf125_0 (tl hd 4 35) (comp_api_Dest_Dot v_24)) <| dS 7 (fun γ ρ B hb hd => op_loadPAg lb tA26 (tl hd 5 36) rfl) <| dS 8 (fun γ ρ B hb hd => (op_call (js := []) ld cl76 (sim_ref01_Dot k v_24.Dot v_25 hv_25) .func (.cons (tl hd 6 37) .nil) rfl).post (fun q => Imp.dropF (j := 0) rfl)) <| dS 9 (fun γ ρ B hb hd => op_fieldAddr (off := 20) lb tf32_4 (.tmp (hb 1 _ rfl))) <| dR 10 (fun γ ρ B hb hd => OpStep.lk ⟨ρ, (cvar gb_2 r_api_Event e_1) :: B, _⟩ (op_loadS (j := 0) lb tS30 (tl hd 8 39) rfl (cT (comp_api_Event_To e_1) rfl) rfl rfl)) ?_
      refine db 11 4 <| dS 12 (fun γ ρ B hb hd => op_indexAddrLg lb tu30 tz125 (tl hd 9 40) (tl hd 10 41) hv_28) <| dS 13 (fun γ ρ B hb hd => op_fieldAddrP lb tf125_1 (tl hd 11 42) (comp_api_Dest_Device v_28)) <| dS 14 (fun γ ρ B hb hd => op_loadPSg lb tS9 rfl (tl hd 12 43) rfl) <| dS 15 (fun γ ρ B hb hd => op_convSB lb tu9 tu27 tu5 (tl hd 13 44)) ?_
      refine dS 16 (fun γ ρ B hb hd => (op_call (js := []) ld cl77 (sim_ref01_Blob k v_28.Device v_29 hv_29) .func (.cons (tl hd 14 45) .nil) rfl).post (fun q => Imp.dropF (j := 0) rfl)) <| dS 17 (fun γ ρ B hb hd => op_buildF (r := (rL (rU UInt8))) lb tu77 tz27 tZ27 rfl (lE rfl) (.S rfl (tl hd 7 38) (.S rfl (tl hd 15 46) .nil)) rfl) ?_
      refine DSteps.cons (j := 18) rfl (fun _ => rfl) (.runX (fun _ _ => rfl) (fun γ ρ B hb hd => ⟨.none, OpX.ghost (γ := Option Nat × Nat) (st' := fun q => setO ⟨ρ, (cown q.1 (rL (rU UInt8)) l_32 0 q.2) :: B, _⟩ (some 48) (ov (HDR q.1 0 (List.length l_32) q.2))) (fun q c => bif Nat.beq c 0 then eno q.1 else q.2) (op_appendL (j := 0) lb tu77 tu77 rfl tB27 rfl (Nat.lt_of_lt_of_le Nat.zero_lt_one (lE rfl)) (Nat.lt_of_lt_of_le Nat.zero_lt_one (lE rfl))  rfl (tl hd 0 31) (tl hd 16 47) hv_l_32) (fun q => by obtain ⟨q0, q1⟩ := q; cases q0 <;> exact Imp.refl)⟩) (fun _ _ => rfl) (fun _ _ => rfl)) ?_
      refine dS 19 (fun γ ρ B hb hd => op_assign lb (tl hd 17 48)) ?_
      exact DSteps.nil)
       (by decide +kernel) (fun _ => rfl) rfl (fun _ => rfl) (fun _ => rfl) rfl (by decide) (by decide) (by decide +kernel) (fun _ d h => by simp at h; subst h; exact ⟨_, rfl, rfl⟩)
       (ρ' := fun γ => [(1, ov (PTR gb_2 0)), (3, ov (HDR (deo (γ 17 0)) 0 (List.length l_32) (γ 17 1))), (4, ov (S (rI .i64) i_20))])
       (X' := fun γ => [cvar gb_2 r_api_Event e_1, cown (deo (γ 17 0)) (rL (rU UInt8)) l_32 0 (γ 17 1)])
       (fun γ ρ hb hd => (.cons (hb 1 _ rfl (by decide)) (.cons (hdq hd 18 3 rfl) (.cons (hb 4 _ rfl (by decide)) .nil)))) (fun _ => rfl) (fun γ => ?_)
   generalize (deo (γ 17 0)) = go_33
   generalize (γ 17 1) = gc_34
   clear γ
   refine JQ.at ⟨[(1, ov (PTR gb_2 0)), (3, ov (HDR go_33 0 (List.length l_32) gc_34)), (4, ov (S (rI .i64) i_20))], [cvar gb_2 r_api_Event e_1, cown go_33 (rL (rU UInt8)) l_32 0 gc_34], []⟩ <| JQ.outNB <| JQ.then <| JC.region <| jmv rfl rfl <| lI hx fun v_35 hv_35 hx => jc (op_arI lb (.tmp rfl) .cI (cs hv_35)) <| jc (op_assign lb (.tmp rfl)) <| JL.nil ?_
   try obtain rfl := so hx
   exact JQ.next (go_33, gc_34) rfl (Imp.norm (js := [0, 0]) rfl (.cons rfl (.cons rfl (.cons rfl .nil))))
 refine JC.exit <| JQ.outX ?_
 try obtain rfl := so hx
 have ht := hr _ rfl
 have hq2 := cs ht
 clear hr ht
 refine JQ.outX <| JQ.here ?_
 try obtain rfl := so hq2
 exact JQ.join (go_21, gc_22) (Imp.norm (js := [1]) rfl (.cons rfl .nil))

theorem sim_ref11_dots (k : Nat) (l_1 : (List api_Dot)) (r : (List UInt8)) (hm : ref11_dots k l_1 = some r) : Sim Tryz.prog 48 [S (rL r_api_Dot) l_1] [] (γ := Option Nat × Nat) (fun q => [cown q.1 (rU UInt8) r 0 q.2]) (fun q => .one (.val (HDR q.1 0 (List.length r) q.2))) := by
 unfold ref11_dots at hm
 refine Sim.of Tryz.func48 rfl rfl (lE rfl) (fun e0 w0 => ?_)
 refine JC.at ⟨[(0, ov (S (rL r_api_Dot) l_1))], [], []⟩ <| jr <| jc (op_assign lb HasO.nilH) <| jn <| jr <| jmv rfl rfl <| jc (op_lenL lb tu33 (.tmp rfl)) <| lI hm fun v_2 hv_2 hm => jc (op_convIU lb tu3 tu24 (.tmp rfl) hv_2) <| bI hm fun v_3 hv_3 hm => jx (op_call (js := []) ld cl46 (sim_ref01_Put k v_2 (2 : Int) v_3 hv_3) .func (.cons (.tmp rfl) (.cons .cI .nil)) rfl) fun go_4 => JL.pre (Imp.frz (j := 0) rfl (ImpK.slotH (s := 8) rfl ImpK.refl)) <| jx (op_buildO (r := (rL (rU UInt8))) lb tu77 tz27 tZ27 rfl (lE rfl) (.S rfl (HasO.wk (.tmp rfl) wkHL) .nil) rfl) (fun gb_5 => ?_)
 refine JL.nrm ⟨[(0, ov (S (rL r_api_Dot) l_1)), (9, ov (HDR (some gb_5) 0 (List.length ([v_3] : (List (List UInt8)))) (1)))], [cown (some gb_5) (rL (rU UInt8)) ([v_3] : (List (List UInt8))) 0 (1)], []⟩ [1] rfl (.cons rfl (.cons rfl .nil)) rfl <| jc (op_assign lb (.tmp rfl)) <| jn <| bI hm fun o_19 hx1 hq1 => JC.seqJ (γ := Option Nat × Nat) (stj := fun q => ⟨[(3, ov (HDR q.1 0 (List.length o_19) q.2))], [cown q.1 (rL (rU UInt8)) o_19 0 q.2], []⟩) (fun q => ?_) ?_
 · obtain ⟨go_20, gc_21⟩ := q
   refine JC.at ⟨[(3, ov (HDR go_20 0 (List.length o_19) gc_21))], [cown go_20 (rL (rU UInt8)) o_19 0 gc_21], []⟩ <| jr <| jmv rfl rfl <| bI hq1 fun v_22 hv_22 hq1 => JL.pre (Imp.frz (j := 0) rfl (ImpK.slotH (s := 3) rfl (ImpK.slotH (s := 24) rfl ImpK.refl))) <| jx (op_call (js := []) ld cl50 (sim_ref01_Join k o_19 v_22 hv_22) .func (.cons (HasO.wk (.tmp rfl) wkHL) .nil) rfl) (fun q => ?_)
   obtain ⟨go_23, gc_24⟩ := q
   refine JL.nrm ⟨[(25, ov (HDR go_23 0 (List.length v_22) gc_24))], [cown go_23 (rU UInt8) v_22 0 gc_24], []⟩ [0] rfl (.cons rfl .nil) rfl <| jc (op_assign lb (.tmp rfl)) <| jn <| JC.ret ?_
   obtain rfl := so hq1
   exact JQ.done (js := [0]) (ss := [.val (HDR go_23 0 (List.length v_22) gc_24)]) (go_23, gc_24) (.inl rfl) (.nil rfl) rfl (.cons (.tmp rfl) .nil) rfl rfl rfl
 refine jr <| jc (op_assign lb .cI) <| jn <| JC.block <| JC.pre ?_ (JC.loop (γ := Option Nat × Nat) (stf := fun s q => ⟨[(0, ov (S (rL r_api_Dot) l_1)), (3, ov (HDR q.1 0 (List.length s.1) q.2)), (4, ov (S (rI .i64) s.2))], [cown q.1 (rL (rU UInt8)) s.1 0 q.2], []⟩) (q := ((some gb_5), 1)) hx1 ?_)
 · exact (Imp.norm (js := [0]) rfl (.cons rfl (.cons rfl (.cons rfl .nil))))
 intro s q x hx hr
 obtain ⟨o_6, i_7⟩ := s
 obtain ⟨go_8, gc_9⟩ := q
 change ref11_dots.b1 k l_1 o_6 i_7 = some x at hx
 unfold ref11_dots.b1 at hx
 refine JC.at ⟨[(0, ov (S (rL r_api_Dot) l_1)), (3, ov (HDR go_8 0 (List.length o_6) gc_9)), (4, ov (S (rI .i64) i_7))], [cown go_8 (rL (rU UInt8)) o_6 0 gc_9], []⟩ <| JC.seq <| jr <| jmv rfl rfl <| jmv rfl rfl <| jc (op_lenL lb tu33 (.tmp rfl)) <| lI hx fun v_10 hv_10 hx => jc (op_cmpI lb (.tmp rfl) (.tmp rfl) (cs hv_10)) <| jn <| jif (.tmp rfl) hx (fun hc3 hx => ?_) (fun hc3 hx => ?_)
 · refine JC.skip <| JQ.then <| JC.seq <| JC.block <| JC.region <| jmv rfl rfl <| jmv rfl rfl <| jmv rfl rfl <| bI hx fun v_11 hv_11 hx => jc (op_indexAddrLg lb tu33 tz26 (.tmp rfl) (.tmp rfl) hv_11) <| jc (op_loadPAg lb tA26 (.tmp rfl) rfl) <| bI hx fun v_12 hv_12 hx => jx (op_call (js := []) ld cl76 (sim_ref01_Dot k v_11 v_12 hv_12) .func (.cons (.tmp rfl) .nil) rfl) (fun q => ?_)
   obtain ⟨go_13, gc_14⟩ := q
   refine JL.sub ⟨[(0, ov (S (rL r_api_Dot) l_1)), (3, ov (HDR go_8 0 (List.length o_6) gc_9)), (4, ov (S (rI .i64) i_7)), (16, ov (HDR go_8 0 (List.length o_6) gc_9)), (21, ov (HDR go_13 0 (List.length v_12) gc_14))], [cown go_13 (rU UInt8) v_12 0 gc_14, cown go_8 (rL (rU UInt8)) o_6 0 gc_9], []⟩ (.cons rfl (.cons rfl (.cons rfl (.cons rfl (.cons rfl .nil))))) rfl rfl <| JL.pre (Imp.frz (j := 0) rfl (ImpK.slotH (s := 21) rfl ImpK.refl)) <| jc (op_buildF (r := (rL (rU UInt8))) lb tu77 tz27 tZ27 rfl (lE rfl) (.S rfl (HasO.wk (.tmp rfl) wkHL) .nil) rfl) <| bI hx fun o_15 hv_o_15 hx => jx (op_appendL (j := 1) lb tu77 tu77 rfl tB27 rfl (Nat.lt_of_lt_of_le Nat.zero_lt_one (lE rfl)) (Nat.lt_of_lt_of_le Nat.zero_lt_one (lE rfl))  rfl (.tmp rfl) (.tmp rfl) hv_o_15) (fun q => ?_)
   obtain ⟨go_16, gc_17⟩ := q
   refine jc (op_assign lb (.tmp rfl)) <| JL.nil <| JQ.outNB <| JQ.then <| JC.region <| jmv rfl rfl <| lI hx fun v_18 hv_18 hx => jc (op_arI lb (.tmp rfl) .cI (cs hv_18)) <| jc (op_assign lb (.tmp rfl)) <| JL.nil ?_
   try obtain rfl := so hx
   exact JQ.next (go_16, gc_17) rfl (Imp.norm (js := [1]) rfl (.cons rfl (.cons rfl (.cons rfl .nil))))
 refine JC.exit <| JQ.outX ?_
 try obtain rfl := so hx
 have ht := hr _ rfl
 have hq2 := cs ht
 clear hr ht
 refine JQ.outX <| JQ.here ?_
 try obtain rfl := so hq2
 exact JQ.join (go_8, gc_9) (Imp.norm (js := [0]) rfl (.cons rfl .nil))

theorem sim_ref02_taps (k : Nat) (r : Unit) (hm : ref02_taps k = some r) : Sim Tryz.prog 121 [] [] (γ := Unit) (fun q => []) (fun q => .one (.val (S rS ([48, 48, 48, 49, 49, 49, 49, 48, 49, 49, 48, 49, 49, 49, 48, 48, 48, 49, 49, 48, 49, 49, 49, 49, 48, 49, 48, 48, 48, 48, 48, 49] : List UInt8)))) := by
 unfold ref02_taps at hm
 refine Sim.of Tryz.func121 rfl rfl (lE rfl) (fun e0 w0 => ?_)
 exact JC.at ⟨[], [], []⟩ <| jr <| jc (op_assign lb (HasO.cS (l := []) rfl)) <| jn <| jr <| jc (op_assign lb (HasO.cS (l := [48, 48, 48, 49, 49, 49, 49, 48, 49, 49, 48, 49, 49, 49, 48, 48, 48, 49, 49, 48, 49, 49, 49, 49, 48, 49, 48, 48, 48, 48, 48, 49]) rfl)) <| jn <| JC.ret <| jd (.val (S rS ([48, 48, 48, 49, 49, 49, 49, 48, 49, 49, 48, 49, 49, 49, 48, 48, 48, 49, 49, 48, 49, 49, 49, 49, 48, 49, 48, 48, 48, 48, 48, 49] : List UInt8))) rfl rfl rfl rfl rfl rfl

theorem sim_ref02_Bits_in (k : Nat) (x_1 : (Vector Bool 32)) (bit_2 : Bool) (r : (Vector Bool 32)) (hm : ref02_Bits_in k x_1 bit_2 = some r) : Sim Tryz.prog 88 [A (rV 32 rB) x_1, S rB bit_2] [] (γ := Unit) (fun q => []) (fun q => .one (.val (A (rV 32 rB) r))) := by
 unfold ref02_Bits_in at hm
 refine Sim.of Tryz.func88 rfl rfl (lE rfl) (fun e0 w0 => ?_)
 refine JC.at ⟨[(0, ov (A (rV 32 rB) x_1)), (1, ov (S rB bit_2))], [], []⟩ <| jr <| jx (op_boxA lb (.tmp rfl)) fun gb_3 => jx (op_alloc lb tZ135 zr135) fun gb_4 => jn <| jr <| jx (op_alloc lb tZ135 zr135) fun gb_5 => jn <| jr <| bI hm fun i_6 hv_i_6 hm => jc (op_indexAddrIF lb tr135 (.tmp rfl) .cI hv_i_6) ?_
 refine lI hm fun v_7 hv_7 hm => jc (op_loadS (j := 0) lb tS4 (.tmp rfl) rfl (Comp.at (Comp.self (rV 32 rB) x_1) i_6.2 rfl) rfl hv_7) <| jmv rfl rfl <| JL.sub ⟨[(2, ov (PTR gb_3 0)), (4, ov (PTR gb_4 0)), (5, ov (PTR gb_5 0)), (11, ov (S rB v_7)), (12, ov (S rB bit_2))], [cvar gb_3 (rV 32 rB) x_1, cvar gb_4 (rV 32 rB) (Vector.replicate 32 false), cvar gb_5 (rV 32 rB) (Vector.replicate 32 false)], []⟩ (.cons rfl (.cons rfl (.cons rfl (.cons rfl (.cons rfl .nil))))) rfl rfl <| lI hm fun v_8 hv_8 hm => jc (op_neB lb tu4 (.tmp rfl) (.tmp rfl) hv_8) <| jc (op_assign lb (.tmp rfl)) <| jn <| jr <| bI hm fun _ hv_u_9 hm => jx (op_call (js := []) ld cl121 (sim_ref02_taps k () hv_u_9) .func .nil rfl) fun _ => jc (op_assign lb (.tmp rfl)) <| jn ?_
 obtain ⟨o_26, hx1, hq1⟩ := bnd_inv hm
 refine JC.seqJ (γ := Unit) (stj := fun _ => ⟨[(4, ov (PTR gb_4 0)), (5, ov (PTR gb_5 0))], [cvar gb_4 (rV 32 rB) (Vector.replicate 32 false), cvar gb_5 (rV 32 rB) o_26], []⟩) (fun _ => ?_) ?_
 · refine jr <| jc (op_loadA (j := 1) lb tA135 (.tmp rfl) rfl (Comp.self (rV 32 rB) o_26) rfl) <| jc (op_storeA (j := 0) tA135 (.tmp rfl) (.tmp rfl) rfl (UpdR.self (by rfl)) rfl) <| jn <| JC.ret ?_
   obtain rfl := so hq1
   exact JQ.done (js := []) (ss := [.val (A (rV 32 rB) o_26)]) () (.inl rfl) (.nil rfl) rfl (.cons (.cellA (j := 0) tA135 rfl rfl) .nil) rfl rfl rfl
 refine jr <| jc (op_assign lb .cI) <| jn <| JC.block <| JC.pre ?_ (JC.loop (γ := Unit) (stf := fun s q => ⟨[(2, ov (PTR gb_3 0)), (4, ov (PTR gb_4 0)), (5, ov (PTR gb_5 0)), (6, ov (S rB v_8)), (7, ov (S rS ([48, 48, 48, 49, 49, 49, 49, 48, 49, 49, 48, 49, 49, 49, 48, 48, 48, 49, 49, 48, 49, 49, 49, 49, 48, 49, 48, 48, 48, 48, 48, 49] : List UInt8))), (8, ov (S (rI .i64) s.2))], [cvar gb_3 (rV 32 rB) x_1, cvar gb_4 (rV 32 rB) (Vector.replicate 32 false), cvar gb_5 (rV 32 rB) s.1], []⟩) (q := ()) hx1 ?_)
 · exact (Imp.norm (js := [0, 0, 0]) rfl (.cons rfl (.cons rfl (.cons rfl (.cons rfl (.cons rfl (.cons rfl .nil)))))))
 intro s q x hx hr
 obtain ⟨o_10, i_11⟩ := s
 obtain _ := q
 change ref02_Bits_in.b1 k x_1 v_8 o_10 i_11 = some x at hx
 unfold ref02_Bits_in.b1 at hx
 refine JC.at ⟨[(2, ov (PTR gb_3 0)), (4, ov (PTR gb_4 0)), (5, ov (PTR gb_5 0)), (6, ov (S rB v_8)), (7, ov (S rS ([48, 48, 48, 49, 49, 49, 49, 48, 49, 49, 48, 49, 49, 49, 48, 48, 48, 49, 49, 48, 49, 49, 49, 49, 48, 49, 48, 48, 48, 48, 48, 49] : List UInt8))), (8, ov (S (rI .i64) i_11))], [cvar gb_3 (rV 32 rB) x_1, cvar gb_4 (rV 32 rB) (Vector.replicate 32 false), cvar gb_5 (rV 32 rB) o_10], []⟩ <| JC.seq <| jr <| jmv rfl rfl <| lI hx fun v_12 hv_12 hx => jc (op_cmpI lb (.tmp rfl) .cI (cs hv_12)) <| jn <| jif (.tmp rfl) hx (fun hc3 hx => ?_) (fun hc3 hx => ?_)
 · refine JC.skip <| JQ.then <| bI hx fun o_24 hx4 hq4 => JC.seqJ (γ := Unit) (stj := fun _ => ⟨[(2, ov (PTR gb_3 0)), (4, ov (PTR gb_4 0)), (5, ov (PTR gb_5 0)), (6, ov (S rB v_8)), (7, ov (S rS ([48, 48, 48, 49, 49, 49, 49, 48, 49, 49, 48, 49, 49, 49, 48, 48, 48, 49, 49, 48, 49, 49, 49, 49, 48, 49, 48, 48, 48, 48, 48, 49] : List UInt8))), (8, ov (S (rI .i64) i_11))], [cvar gb_3 (rV 32 rB) x_1, cvar gb_4 (rV 32 rB) (Vector.replicate 32 false), cvar gb_5 (rV 32 rB) o_24], []⟩) (fun _ => ?_) ?_
   · refine JC.region <| jmv rfl rfl <| lI hq4 fun v_25 hv_25 hq4 => jc (op_arI lb (.tmp rfl) .cI (cs hv_25)) <| jc (op_assign lb (.tmp rfl)) <| JL.nil ?_
     try obtain rfl := so hq4
     exact JQ.next () rfl (Imp.norm (js := [0, 0, 0]) rfl (.cons rfl (.cons rfl (.cons rfl (.cons rfl (.cons rfl (.cons rfl .nil)))))))
   refine JC.block <| bI hx4 fun next_17 hx5 hq5 => JC.seqJ (γ := Unit) (stj := fun _ => ⟨[(2, ov (PTR gb_3 0)), (4, ov (PTR gb_4 0)), (5, ov (PTR gb_5 0)), (6, ov (S rB v_8)), (7, ov (S rS ([48, 48, 48, 49, 49, 49, 49, 48, 49, 49, 48, 49, 49, 49, 48, 48, 48, 49, 49, 48, 49, 49, 49, 49, 48, 49, 48, 48, 48, 48, 48, 49] : List UInt8))), (8, ov (S (rI .i64) i_11)), (9, ov (S rB next_17))], [cvar gb_3 (rV 32 rB) x_1, cvar gb_4 (rV 32 rB) (Vector.replicate 32 false), cvar gb_5 (rV 32 rB) o_10], []⟩) (fun _ => ?_) ?_
   · refine JC.region <| jmv rfl rfl <| jmv rfl rfl <| jmv rfl rfl <| jmv rfl rfl <| jT (ov (S rS ([48, 48, 48, 49, 49, 49, 49, 48, 49, 49, 48, 49, 49, 49, 48, 48, 48, 49, 49, 48, 49, 49, 49, 49, 48, 49, 48, 48, 48, 48, 48, 49] : List UInt8))) rfl rfl rfl rfl (fun hq_10 => op_move lb (.tmp rfl)) <| jT (ov (S (rI .i64) i_11)) rfl rfl rfl rfl (fun hq_11 => op_move lb (.tmp rfl)) <| bI hq5 fun v_18 hv_18 hq5 => jT (ov (S (rU UInt8) v_18)) rfl rfl rfl rfl (fun hq_12 => op_indexStrg lb tu9 (HasO.cnd (.tmp rfl) hq_12) (HasO.cnd (.tmp rfl) hq_12) (ifT hv_18 hq_12)) <| lI hq5 fun v_19 hv_19 hq5 => jT (ov (S rB v_19)) rfl rfl rfl rfl (fun hq_13 => op_cmpU lb (HasO.cnd (.tmp rfl) hq_13) (HasO.cU (x := (49 : UInt8)) rfl (by decide)) (cs hv_19)) <| lI hq5 fun v_20 hv_20 hq5 => jc (op_pickCS lb (.tmp rfl) (fun hb14 => (HasO.cnd (.tmp rfl) hb14)) (fun hb14 => .cB) hv_20) ?_
     refine lI hq5 fun v_21 hv_21 hq5 => jc (op_neB lb tu4 (.tmp rfl) (.tmp rfl) hv_21) <| bI hq5 fun i_22 hv_i_22 hq5 => jc (op_indexAddrIF lb tr135 (.tmp rfl) (.tmp rfl) hv_i_22) <| lI hq5 fun o_23 hv_o_23 hq5 => jc (op_storeS (j := 2) tS4 (.tmp rfl) (.tmp rfl) rfl rfl (Upd.at (Comp.self (rV 32 rB) o_10) i_22.2 rfl (Upd.self (rV 32 rB) o_10 _)).R hv_o_23) <| JL.sub ⟨[(2, ov (PTR gb_3 0)), (4, ov (PTR gb_4 0)), (5, ov (PTR gb_5 0)), (6, ov (S rB v_8)), (7, ov (S rS ([48, 48, 48, 49, 49, 49, 49, 48, 49, 49, 48, 49, 49, 49, 48, 48, 48, 49, 49, 48, 49, 49, 49, 49, 48, 49, 48, 48, 48, 48, 48, 49] : List UInt8))), (8, ov (S (rI .i64) i_11))], [cvar gb_3 (rV 32 rB) x_1, cvar gb_4 (rV 32 rB) (Vector.replicate 32 false), cvar gb_5 (rV 32 rB) o_23], []⟩ (.cons rfl (.cons rfl (.cons rfl (.cons rfl (.cons rfl (.cons rfl .nil)))))) rfl rfl <| JL.nil <| JQ.outNB ?_
     try obtain rfl := so hq5
     exact JQ.join () (Imp.norm (js := [0, 0, 0]) rfl (.cons rfl (.cons rfl (.cons rfl (.cons rfl (.cons rfl (.cons rfl .nil)))))))
   refine JC.region <| jmv rfl rfl <| lI hx5 fun v_13 hv_13 hx5 => jc (op_cmpI lb (.tmp rfl) .cI (cs hv_13)) <| jmv rfl rfl <| jT (ov (S (rI .i64) i_11)) rfl rfl rfl rfl (fun hq_6 => op_move lb (.tmp rfl)) <| lI hx5 fun v_14 hv_14 hx5 => jT (ov (S (rI .i64) v_14)) rfl rfl rfl rfl (fun hq_7 => op_arI lb (HasO.cnd (.tmp rfl) hq_7) .cI (cs hv_14)) ?_
   rcases iteB_inv hx5 with ⟨hc9, hx5⟩ | ⟨hc9, hx5⟩
   · refine bI hx5 fun i_15 hv_i_15 hx5 => JL.run (.yes rfl (ltB rfl) rfl hc9) (op_indexAddrIF lb tr135 (.tmp rfl) (HasO.cnd (.tmp rfl) hc9) hv_i_15) <| lI hx5 fun v_16 hv_16 hx5 => JL.run (.yes rfl (ltB rfl) rfl hc9) (op_loadS (j := 0) lb tS4 (.tmp rfl) rfl (Comp.at (Comp.self (rV 32 rB) x_1) i_15.2 rfl) rfl hv_16) <| jc (op_pickT lb (.tmp rfl) hc9 (.tmp rfl)) <| jc (op_assign lb (.tmp rfl)) <| JL.nil ?_
     try obtain rfl := so hx5
     exact JQ.join () (Imp.norm (js := [0, 0, 0]) rfl (.cons rfl (.cons rfl (.cons rfl (.cons rfl (.cons rfl (.cons rfl (.cons rfl .nil))))))))
   refine jk rfl hc9 <| jk rfl hc9 <| jc (op_pickF lb (.tmp rfl) hc9 .cB) <| jc (op_assign lb (.tmp rfl)) <| JL.nil ?_
   try obtain rfl := so hx5
   exact JQ.join () (Imp.norm (js := [0, 0, 0]) rfl (.cons rfl (.cons rfl (.cons rfl (.cons rfl (.cons rfl (.cons rfl (.cons rfl .nil))))))))
 refine JC.exit <| JQ.outX ?_
 try obtain rfl := so hx
 have ht := hr _ rfl
 have hq2 := cs ht
 clear hr ht
 refine JQ.outX <| JQ.here ?_
 try obtain rfl := so hq2
 exact JQ.join () (Imp.norm (js := [1, 1]) rfl (.cons rfl (.cons rfl .nil)))

end Go.Proofs.YtklnihlchhhhlaaGreat
