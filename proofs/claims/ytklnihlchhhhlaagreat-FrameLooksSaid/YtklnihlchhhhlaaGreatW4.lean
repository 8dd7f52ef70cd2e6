/- Walks. -/
import Derived.Test.YtklnihlchhhhlaaGreatT
import Derived.Test.YtklnihlchhhhlaaGreatW0
import Derived.Test.YtklnihlchhhhlaaGreatW1
import Derived.Test.YtklnihlchhhhlaaGreatW2
import Derived.Test.YtklnihlchhhhlaaGreatW3
namespace Go.Proofs.YtklnihlchhhhlaaGreat
open Go Fw
set_option linter.unusedVariables false
set_option maxRecDepth 100000
set_option maxHeartbeats 4000000

theorem sim_frame_May (k : Nat) (t_1 : api_Frame) (r : Bool) (hm : frame_May k t_1 = some r) : Sim Tryz.prog 11 [A r_api_Frame t_1] [] (γ := Unit) (fun q => []) (fun q => .one (.val (S rB r))) := by
 unfold frame_May at hm
 refine Sim.of Tryz.func11 rfl rfl (lE rfl) (fun e0 w0 => ?_)
 refine JC.at ⟨[(0, ov (A r_api_Frame t_1))], [], []⟩ ?_
 refine jr ?_
 refine jx (op_boxA lb (.tmp rfl)) (fun gb_2 => ?_)
 refine jc (op_assign lb .cB) <| jn <| JC.seq ?_
 obtain ⟨x_12, hx1, hq1⟩ := bnd_inv hm
 refine JC.seqJ (γ := Unit) (stj := fun _ => ⟨[(1, ov (PTR gb_2 0)), (41, ov (S rB x_12))], [cvar gb_2 r_api_Frame t_1], []⟩) (fun _ => ?_) ?_
 · rcases iteB_inv hq1 with ⟨hc16, hq1⟩ | ⟨hc16, hq1⟩
   · refine JC.condT (.tmp rfl) hc16 ?_
     refine jr <| jc (op_assign lb .cB) <| jn ?_
     refine JC.ret ?_
     refine JQ.outR ?_
     obtain rfl := so hq1
     exact jd (.val (S rB false)) rfl rfl rfl rfl rfl rfl
   refine JC.condF (.tmp rfl) hc16 ?_
   refine JC.skip ?_
   refine JQ.then <| jr <| jc (op_assign lb .func) <| jn ?_
   obtain ⟨tv17, hx17, hq17⟩ := bnd_inv hq1
   refine JC.seqK (α := Unit) (γ := Unit) (stj := fun v q => ⟨[], [], []⟩) (p := fun v => tv17 = (.inl v)) (fun v q hv => ?_) ?_
   · subst hv
     skip
     obtain _ := q
     dsimp only at hq17
     refine JC.at ⟨[], [], []⟩ ?_
     refine jr <| jc (op_assign lb .cB) <| jn ?_
     refine JC.ret ?_
     obtain rfl := so hq17
     exact jd (.val (S rB false)) rfl rfl rfl rfl rfl rfl
   refine jr <| jc (op_fieldAddr (off := 0) lb tf39_0 (.tmp rfl)) <| jc (op_loadS (j := 0) lb tS22 (.tmp rfl) rfl (cT (comp_api_Frame_Kind t_1) rfl) rfl rfl) <| jn <| JC.block ?_
   refine jr ?_
   obtain ⟨v_13, hv_13, hx17⟩ := lt1_inv hx17
   refine jc (op_cmpI lb (.tmp rfl) .cI (cs hv_13)) <| jc (op_assign lb (.tmp rfl)) <| jn ?_
   rcases iteB_inv hx17 with ⟨hc18, hx17⟩ | ⟨hc18, hx17⟩
   · refine JC.condT (.tmp rfl) hc18 ?_
     obtain ⟨x_17, hx19, hq19⟩ := bnd_inv hx17
     refine JC.seqJ (γ := Unit) (stj := fun _ => ⟨[(2, ov (S rB x_17))], [], []⟩) (fun _ => ?_) ?_
     · refine JC.ret ?_
       refine JQ.outRB ?_
       try obtain rfl := so hq19
       dsimp only at hq17
       refine JQ.outR ?_
       obtain rfl := so hq17
       exact jd (.val (S rB x_17)) rfl rfl rfl rfl rfl rfl
     refine JC.region <| jc (op_fieldAddr (off := 3) lb tf39_3 (.tmp rfl)) <| jc (op_loadS (j := 0) lb tS23 (.tmp rfl) rfl (cT (comp_api_Frame_Items t_1) rfl) rfl rfl) <| jc (op_lenL lb tu23 (.tmp rfl)) ?_
     obtain ⟨v_14, hv_14, hx19⟩ := lt1_inv hx19
     refine jc (op_cmpI lb (.tmp rfl) .cI (cs hv_14)) <| jmv rfl rfl ?_
     refine JL.cnd (sv := ov (A r_api_Frame t_1)) (Guard.isT (ltB rfl) rfl rfl) rfl (ltB rfl) (fun hq_20 => op_loadA (j := 0) lb tA39 (.tmp rfl) rfl (Comp.self r_api_Frame t_1) rfl) ?_
     obtain ⟨v_15, hv_15, hx19⟩ := bnd_inv hx19
     refine JL.cnd (sv := ov (S rB v_15)) (Guard.isT (ltB rfl) rfl rfl) rfl (ltB rfl) (fun hq_21 => (op_call (js := []) ld cl30 (sim_frame_items k t_1 v_15 (ifT hv_15 hq_21)) .func (.cons (HasO.cnd (.tmp rfl) hq_21) .nil) rfl).post (fun _ => Imp.refl)) ?_
     refine JL.nrm ⟨[(50, ov (S rB v_14)), (52, bif v_14 then ov (S rB v_15) else .one .und)], [], []⟩ [] rfl (.cons rfl (.cons rfl .nil)) rfl ?_
     obtain ⟨v_16, hv_16, hx19⟩ := lt1_inv hx19
     refine jc (op_pickCS lb (.tmp rfl) (fun hb22 => (HasO.cnd (.tmp rfl) hb22)) (fun hb22 => .cB) hv_16) <| jc (op_assign lb (.tmp rfl)) <| JL.nil ?_
     try obtain rfl := so hx19
     exact jo rfl rfl rfl
   refine JC.condF (.tmp rfl) hc18 ?_
   refine jr ?_
   obtain ⟨v_18, hv_18, hx17⟩ := lt1_inv hx17
   refine jc (op_cmpI lb (.tmp rfl) .cI (cs hv_18)) <| jc (op_assign lb (.tmp rfl)) <| jn ?_
   rcases iteB_inv hx17 with ⟨hc23, hx17⟩ | ⟨hc23, hx17⟩
   · refine JC.condT (.tmp rfl) hc23 ?_
     refine jr <| jc (op_fieldAddr (off := 4) lb tf39_4 (.tmp rfl)) <| jc (op_loadA (j := 0) lb tA32 (.tmp rfl) rfl (cT (comp_api_Frame_Event t_1) rfl) rfl) ?_
     obtain ⟨v_19, hv_19, hx17⟩ := bnd_inv hx17
     refine jx (op_call (js := []) ld cl31 (sim_event_May k t_1.Event v_19 hv_19) .func (.cons (.tmp rfl) .nil) rfl) (fun _ => ?_)
     refine jc (op_assign lb (.tmp rfl)) <| jn ?_
     refine JC.ret ?_
     refine JQ.outRB ?_
     try obtain rfl := so hx17
     dsimp only at hq17
     refine JQ.outR ?_
     obtain rfl := so hq17
     exact jd (.val (S rB v_19)) rfl rfl rfl rfl rfl rfl
   refine JC.condF (.tmp rfl) hc23 ?_
   refine jr ?_
   obtain ⟨v_20, hv_20, hx17⟩ := lt1_inv hx17
   refine jc (op_cmpI lb (.tmp rfl) .cI (cs hv_20)) <| jc (op_assign lb (.tmp rfl)) <| jn ?_
   rcases iteB_inv hx17 with ⟨hc24, hx17⟩ | ⟨hc24, hx17⟩
   · refine JC.condT (.tmp rfl) hc24 ?_
     refine jr <| jc (op_fieldAddr (off := 25) lb tf39_5 (.tmp rfl)) ?_
     obtain ⟨v_21, hv_21, hx17⟩ := bnd_inv hx17
     refine JL.pre (Imp.frzVar (j := 0) rfl (ImpK.slotP (s := 1) rfl (Comp.self r_api_Frame t_1) (ImpK.slotP (s := 42) rfl (cT (comp_api_Frame_Kind t_1) rfl) (ImpK.slotP (s := 61) rfl (cT (comp_api_Frame_Past t_1) rfl) ImpK.refl)))) ?_
     refine jc (op_sliceP lb tu29 tz24 (.tmp rfl) .none .none hv_21) ?_
     refine JL.sub ⟨[(62, ov (S (rL (rU UInt64)) v_21))], [], []⟩ (.cons rfl .nil) rfl rfl ?_
     obtain ⟨v_22, hv_22, hx17⟩ := bnd_inv hx17
     refine jx (op_call (js := []) ld cl32 (sim_slices_ContainsFuncuint64_uint64'2 k v_21 v_22 hv_22) .func (.cons (.tmp rfl) (.cons .func .nil)) rfl) (fun _ => ?_)
     obtain ⟨v_23, hv_23, hx17⟩ := lt1_inv hx17
     refine jc (op_not lb (.tmp rfl) hv_23) <| jc (op_assign lb (.tmp rfl)) <| jn ?_
     refine JC.ret ?_
     refine JQ.outRB ?_
     try obtain rfl := so hx17
     dsimp only at hq17
     refine JQ.outR ?_
     obtain rfl := so hq17
     exact jd (.val (S rB v_23)) rfl rfl rfl rfl rfl rfl
   refine JC.condF (.tmp rfl) hc24 ?_
   refine jr ?_
   obtain ⟨v_24, hv_24, hx17⟩ := lt1_inv hx17
   refine jc (op_cmpI lb (.tmp rfl) .cI (cs hv_24)) <| jc (op_assign lb (.tmp rfl)) <| jn ?_
   rcases iteB_inv hx17 with ⟨hc25, hx17⟩ | ⟨hc25, hx17⟩
   · refine JC.condT (.tmp rfl) hc25 ?_
     obtain ⟨tv26, hx26, hq26⟩ := bnd_inv hx17
     refine JC.seqK (α := Unit) (γ := Unit) (stj := fun v q => ⟨[(1, ov (PTR gb_2 0))], [cvar gb_2 r_api_Frame t_1], []⟩) (p := fun v => tv26 = (.inl v)) (fun v q hv => ?_) ?_
     · subst hv
       skip
       obtain _ := q
       dsimp only at hq26
       refine JC.at ⟨[(1, ov (PTR gb_2 0))], [cvar gb_2 r_api_Frame t_1], []⟩ ?_
       obtain ⟨x_44, hx40, hq40⟩ := bnd_inv hq26
       refine JC.seqJ (γ := Unit) (stj := fun _ => ⟨[(2, ov (S rB x_44))], [], []⟩) (fun _ => ?_) ?_
       · refine JC.ret ?_
         refine JQ.outRB ?_
         try obtain rfl := so hq40
         dsimp only at hq17
         refine JQ.outR ?_
         obtain rfl := so hq17
         exact jd (.val (S rB x_44)) rfl rfl rfl rfl rfl rfl
       refine JC.region <| jc (op_fieldAddr (off := 58) lb tf39_8 (.tmp rfl)) <| jc (op_loadS (j := 0) lb tS33 (.tmp rfl) rfl (cT (comp_api_Frame_Live t_1) rfl) rfl rfl) <| jc (op_lenL lb tu33 (.tmp rfl)) ?_
       obtain ⟨v_41, hv_41, hx40⟩ := lt1_inv hx40
       refine jc (op_cmpI lb (.tmp rfl) .cI (cs hv_41)) <| jmv rfl rfl ?_
       refine JL.cnd (sv := ov (A r_api_Frame t_1)) (Guard.isT (ltB rfl) rfl rfl) rfl (ltB rfl) (fun hq_41 => op_loadA (j := 0) lb tA39 (.tmp rfl) rfl (Comp.self r_api_Frame t_1) rfl) ?_
       obtain ⟨v_42, hv_42, hx40⟩ := bnd_inv hx40
       refine JL.cnd (sv := ov (S rB v_42)) (Guard.isT (ltB rfl) rfl rfl) rfl (ltB rfl) (fun hq_42 => (op_call (js := []) ld cl36 (sim_frame_seen k t_1 v_42 (ifT hv_42 hq_42)) .func (.cons (HasO.cnd (.tmp rfl) hq_42) .nil) rfl).post (fun _ => Imp.refl)) ?_
       obtain ⟨v_43, hv_43, hx40⟩ := lt1_inv hx40
       refine jc (op_pickCS lb (.tmp rfl) (fun hb43 => (HasO.cnd (.tmp rfl) hb43)) (fun hb43 => .cB) hv_43) <| jc (op_assign lb (.tmp rfl)) <| JL.nil ?_
       try obtain rfl := so hx40
       exact jo rfl rfl rfl
     refine jr <| jc (op_fieldAddr (off := 58) lb tf39_8 (.tmp rfl)) ?_
     refine JL.sub ⟨[(1, ov (PTR gb_2 0)), (3, ov (CLO 29 [])), (67, ov (PTR gb_2 (0 + 58)))], [cvar gb_2 r_api_Frame t_1], []⟩ (.cons rfl (.cons rfl (.cons rfl .nil))) rfl rfl ?_
     refine jc (op_loadS (j := 0) lb tS33 (.tmp rfl) rfl (cT (comp_api_Frame_Live t_1) rfl) rfl rfl) <| jc (op_lenL lb tu33 (.tmp rfl)) <| jc (op_move lb .cI) <| jn <| JC.block ?_
     obtain ⟨tv27, hL27, hq27⟩ := bnd_inv hx26
     refine JC.pre ?_ (JC.loop (γ := Unit) (stf := fun s q => ⟨[(1, ov (PTR gb_2 0)), (3, ov (CLO 29 [])), (68, ov (S (rL r_api_Dot) t_1.Live)), (69, ov (S (rI .i64) (List.length t_1.Live : Int))), (70, ov (S (rI .i64) s))], [cvar gb_2 r_api_Frame t_1], []⟩) (q := ()) hL27 ?_)
     · exact (Imp.norm (js := [0]) rfl (.cons rfl (.cons rfl (.cons rfl (.cons rfl (.cons rfl .nil))))))
     intro x_25 q x hx hr
     obtain _ := q
     change frame_May.b1 k t_1 x_25 = some x at hx
     unfold frame_May.b1 at hx
     refine JC.at ⟨[(1, ov (PTR gb_2 0)), (3, ov (CLO 29 [])), (68, ov (S (rL r_api_Dot) t_1.Live)), (69, ov (S (rI .i64) (List.length t_1.Live : Int))), (70, ov (S (rI .i64) x_25))], [cvar gb_2 r_api_Frame t_1], []⟩ ?_
     refine jr ?_
     obtain ⟨v_26, hv_26, hx⟩ := lt1_inv hx
     refine jc (op_cmpI lb (.tmp rfl) (.tmp rfl) (cs hv_26)) <| jn <| JC.seq ?_
     rcases iteB_inv hx with ⟨hc28, hx⟩ | ⟨hc28, hx⟩
     · refine JC.condT (.tmp rfl) hc28 ?_
       refine JC.skip ?_
       refine JQ.then <| JC.seq <| JC.block <| jr <| jmv rfl rfl ?_
       obtain ⟨v_27, hv_27, hx⟩ := bnd_inv hx
       refine jc (op_indexAddrLg lb tu33 tz26 (.tmp rfl) (.tmp rfl) hv_27) <| jc (op_loadPAg lb tA26 (.tmp rfl) rfl) ?_
       refine jx (op_alloc lb tZ26 zr26) (fun gb_28 => ?_)
       refine jc (op_assign lb (.tmp rfl)) <| jc (op_storeA (j := 1) tA26 (.tmp rfl) (.tmp rfl) rfl (UpdR.self (by rfl)) rfl) <| jn ?_
       obtain ⟨x_39, hx29, hq29⟩ := bnd_inv hx
       refine JC.seqJ (γ := Unit) (stj := fun _ => ⟨[(1, ov (PTR gb_2 0)), (3, ov (CLO 29 [])), (68, ov (S (rL r_api_Dot) t_1.Live)), (69, ov (S (rI .i64) (List.length t_1.Live : Int))), (70, ov (S (rI .i64) x_25)), (95, ov (S rB x_39))], [cvar gb_2 r_api_Frame t_1], []⟩) (fun _ => ?_) ?_
       · rcases iteB_inv hq29 with ⟨hc39, hq29⟩ | ⟨hc39, hq29⟩
         · refine JC.condT (.tmp rfl) hc39 ?_
           refine jr <| jc (op_assign lb .cB) <| jn ?_
           refine JC.ret ?_
           refine JQ.outRB ?_
           refine JQ.outR ?_
           try obtain rfl := so hq29
           have ht := hr _ rfl
           clear hr
           first | subst ht | clear ht
           dsimp only at hq27
           refine JQ.outR ?_
           refine JQ.outRB ?_
           try obtain rfl := so hq27
           dsimp only at hq26
           refine JQ.outR ?_
           refine JQ.outRB ?_
           try obtain rfl := so hq26
           dsimp only at hq17
           refine JQ.outR ?_
           obtain rfl := so hq17
           exact jd (.val (S rB false)) rfl rfl rfl rfl rfl rfl
         refine JC.condF (.tmp rfl) hc39 ?_
         refine JC.skip ?_
         refine JQ.outNB ?_
         refine JQ.then <| JC.region ?_
         obtain ⟨v_40, hv_40, hq29⟩ := lt1_inv hq29
         refine jc (op_arI lb (.tmp rfl) .cI (cs hv_40)) <| jmv rfl rfl <| JL.nil ?_
         try obtain rfl := so hq29
         exact JQ.next () rfl (Imp.norm (js := [0]) rfl (.cons rfl (.cons rfl (.cons rfl (.cons rfl (.cons rfl .nil))))))
       obtain ⟨v_29, hv_29, hx29⟩ := bnd_inv hx29
       obtain ⟨v_30, hv_30, hx29⟩ := lt1_inv hx29
       obtain ⟨v_31, hv_31, hx29⟩ := lt1_inv hx29
       rcases iteB_inv hx29 with ⟨hc36, hx29⟩ | ⟨hc36, hx29⟩
       · refine JC.anyF (base := [(1, ov (PTR gb_2 0)), (3, ov (CLO 29 [])), (4, ov (S (rI .i64) x_25)), (5, ov (PTR gb_28 0)), (68, ov (S (rL r_api_Dot) t_1.Live)), (69, ov (S (rI .i64) (List.length t_1.Live : Int))), (70, ov (S (rI .i64) x_25))])
             (fs := fun γ => [⟨some 75, ov (A r_api_Dot v_27)⟩, ⟨some 76, ov (S rB v_29)⟩, ⟨some 77, ov (S rB v_30)⟩, ⟨some 78, ov (S rB v_30)⟩, ⟨some 79, bif (!v_30) then ov (CLO 29 []) else .one .und⟩, ⟨some 80, bif (!v_30) then ov (S (rI .i64) x_25) else .one .und⟩, ⟨some 81, bif (!v_30) then ov (S (rI .i64) x_25) else .one .und⟩, ⟨some 82, bif (!v_30) then ov (S rB v_31) else .one .und⟩, ⟨some 83, bif (!v_30) then ov (S rB v_31) else .one .und⟩, ⟨some 84, .one .und⟩, ⟨some 85, .one .und⟩, ⟨some 86, .one .und⟩, ⟨some 87, .one .und⟩, ⟨some 88, .one .und⟩, ⟨some 89, .one .und⟩, ⟨some 90, .one .und⟩, ⟨some 91, .one .und⟩, ⟨some 92, .one .und⟩, ⟨some 93, .one .und⟩, ⟨some 94, .one .und⟩, ⟨some 95, ov (S rB true)⟩])
             (rs := fun γ => [⟨cvar gb_2 r_api_Frame t_1, none, none, []⟩, ⟨cvar gb_28 r_api_Dot v_27, none, none, [0]⟩])
             (afts := nn 21) (js := [0, 0]) mixed (.cons rfl (.cons rfl (.cons rfl (.cons rfl (.cons rfl (.cons rfl (.cons rfl .nil))))))) (fun _ => rfl)
             (by
      refine dR 1 (fun γ ρ B hb hd => OpStep.lk ⟨ρ, (cvar gb_28 r_api_Dot v_27) :: B, _⟩ (op_loadA (j := 0) lb tA26 (.tmp (hb 5 _ rfl)) rfl (Comp.self r_api_Dot v_27) rfl)) <| dS 2 (fun γ ρ B hb hd => (op_call (js := []) ld cl34 (sim_ctx_May k v_27 v_29 hv_29) .func (.cons (tl hd 0 75) .nil) rfl).post (fun _ => Imp.refl)) <| dS 3 (fun γ ρ B hb hd => op_not lb (tl hd 1 76) hv_30) <| dm 4 2 77 ?_
      refine dC 5 (!v_30) (fun γ => ov (CLO 29 [])) (fun γ ρ B hb hd => ⟨(Guard.isF (ltB rfl) rfl (hl hd 3 78 rfl)), fun hq_30 => op_move lb (.tmp (hb 3 _ rfl))⟩) ?_
      refine dC 6 (!v_30) (fun γ => ov (S (rI .i64) x_25)) (fun γ ρ B hb hd => ⟨(Guard.isF (ltB rfl) rfl (hl hd 3 78 rfl)), fun hq_31 => op_move lb (.tmp (hb 4 _ rfl))⟩) ?_
      refine dC 7 (!v_30) (fun γ => ov (S (rI .i64) x_25)) (fun γ ρ B hb hd => ⟨(Guard.isF (ltB rfl) rfl (hl hd 3 78 rfl)), fun hq_32 => op_move lb (.tmp (hb 4 _ rfl))⟩) ?_
      refine dC 8 (!v_30) (fun γ => ov (S rB v_31)) (fun γ ρ B hb hd => ⟨(Guard.isF (ltB rfl) rfl (hl hd 3 78 rfl)), fun hq_33 => op_cmpI lb (HasO.cnd (tl hd 6 81) (notT (notF hq_33))) .cI (cs hv_31)⟩) ?_
      refine dC 9 (!v_30) (fun γ => ov (S rB v_31)) (fun γ ρ B hb hd => ⟨(Guard.isF (ltB rfl) rfl (hl hd 3 78 rfl)), fun hq_34 => op_move lb (HasO.cnd (tl hd 7 82) (notT (notF hq_34)))⟩) ?_
      refine dK 10 (fun γ ρ B hb hd => (Guard.eqB (Guard.cT (q := (!v_30)) (ltB rfl) rfl (hl hd 8 83 rfl)) (andFL (notF' hc36)))) <| dK 11 (fun γ ρ B hb hd => (Guard.eqB (Guard.cT (q := (!v_30)) (ltB rfl) rfl (hl hd 8 83 rfl)) (andFL (notF' hc36)))) <| dK 12 (fun γ ρ B hb hd => (Guard.eqB (Guard.cT (q := (!v_30)) (ltB rfl) rfl (hl hd 8 83 rfl)) (andFL (notF' hc36)))) <| dK 13 (fun γ ρ B hb hd => (Guard.eqB (Guard.cT (q := (!v_30)) (ltB rfl) rfl (hl hd 8 83 rfl)) (andFL (notF' hc36)))) <| dK 14 (fun γ ρ B hb hd => (Guard.eqB (Guard.cT (q := (!v_30)) (ltB rfl) rfl (hl hd 8 83 rfl)) (andFL (notF' hc36)))) ?_
      refine dK 15 (fun γ ρ B hb hd => (Guard.eqB (Guard.cT (q := (!v_30)) (ltB rfl) rfl (hl hd 8 83 rfl)) (andFL (notF' hc36)))) <| dK 16 (fun γ ρ B hb hd => (Guard.eqB (Guard.cT (q := (!v_30)) (ltB rfl) rfl (hl hd 8 83 rfl)) (andFL (notF' hc36)))) <| dK 17 (fun γ ρ B hb hd => (Guard.eqB (Guard.cT (q := (!v_30)) (ltB rfl) rfl (hl hd 8 83 rfl)) (andFL (notF' hc36)))) <| kn 18 3 78 rfl hc36 <| kn 19 3 78 rfl hc36 ?_
      refine kn 20 3 78 rfl hc36 <| dS 21 (fun γ ρ B hb hd => op_pickT lb (tl hd 3 78) hc36 .cB) ?_
      exact DSteps.nil)
             (by decide +kernel) (fun _ => rfl) (fun _ => rfl) (fun _ => rfl) rfl
             (ρ' := fun γ => [(1, ov (PTR gb_2 0)), (3, ov (CLO 29 [])), (68, ov (S (rL r_api_Dot) t_1.Live)), (69, ov (S (rI .i64) (List.length t_1.Live : Int))), (70, ov (S (rI .i64) x_25)), (95, ov (S rB true))])
             (X' := fun γ => [cvar gb_2 r_api_Frame t_1, cvar gb_28 r_api_Dot v_27])
             (fun γ ρ hb hd => (.cons (hb 1 _ rfl) (.cons (hb 3 _ rfl) (.cons (hb 68 _ rfl) (.cons (hb 69 _ rfl) (.cons (hb 70 _ rfl) (.cons (hdq hd 20 95 rfl) .nil))))))) (fun _ => rfl) (fun γ => ?_)
         refine JQ.at ⟨[(1, ov (PTR gb_2 0)), (3, ov (CLO 29 [])), (68, ov (S (rL r_api_Dot) t_1.Live)), (69, ov (S (rI .i64) (List.length t_1.Live : Int))), (70, ov (S (rI .i64) x_25)), (95, ov (S rB true))], [cvar gb_2 r_api_Frame t_1, cvar gb_28 r_api_Dot v_27], []⟩ ?_
         try obtain rfl := so hx29
         exact JQ.join () (Imp.norm (js := [0]) rfl (.cons rfl (.cons rfl (.cons rfl (.cons rfl (.cons rfl (.cons rfl .nil)))))))
       rcases iteB_inv hx29 with ⟨hc38, hx29⟩ | ⟨hc38, hx29⟩
       · obtain ⟨v_32, hv_32, hx29⟩ := lt1_inv hx29
         obtain ⟨v_33, hv_33, hx29⟩ := bnd_inv hx29
         obtain ⟨v_34, hv_34, hx29⟩ := bnd_inv hx29
         obtain ⟨v_35, hv_35, hx29⟩ := bnd_inv hx29
         obtain ⟨v_36, hv_36, hx29⟩ := lt1_inv hx29
         refine JC.anyF (base := [(1, ov (PTR gb_2 0)), (3, ov (CLO 29 [])), (4, ov (S (rI .i64) x_25)), (5, ov (PTR gb_28 0)), (68, ov (S (rL r_api_Dot) t_1.Live)), (69, ov (S (rI .i64) (List.length t_1.Live : Int))), (70, ov (S (rI .i64) x_25))])
             (fs := fun γ => [⟨some 75, ov (A r_api_Dot v_27)⟩, ⟨some 76, ov (S rB v_29)⟩, ⟨some 77, ov (S rB v_30)⟩, ⟨some 78, ov (S rB v_30)⟩, ⟨some 79, bif (!v_30) then ov (CLO 29 []) else .one .und⟩, ⟨some 80, bif (!v_30) then ov (S (rI .i64) x_25) else .one .und⟩, ⟨some 81, bif (!v_30) then ov (S (rI .i64) x_25) else .one .und⟩, ⟨some 82, bif (!v_30) then ov (S rB v_31) else .one .und⟩, ⟨some 83, bif (!v_30) then ov (S rB v_31) else .one .und⟩, ⟨some 84, ov (PTR gb_2 (0 + 58))⟩, ⟨some 85, ov (S (rL r_api_Dot) t_1.Live)⟩, ⟨some 86, ov (S (rI .i64) x_25)⟩, ⟨some 87, ov (S (rI .i64) v_32)⟩, ⟨some 88, ov (PT r_api_Dot v_33)⟩, ⟨some 89, ov (A r_api_Dot v_33)⟩, ⟨some 90, ov (A r_api_Dot v_27)⟩, ⟨some 91, ov (S rB v_34)⟩, ⟨some 92, ov (S rB v_34)⟩, ⟨some 93, ov (S rB v_35)⟩, ⟨some 94, ov (S rB v_36)⟩, ⟨some 95, ov (S rB v_36)⟩])
             (rs := fun γ => [⟨cvar gb_2 r_api_Frame t_1, none, none, [10]⟩, ⟨cvar gb_28 r_api_Dot v_27, none, none, [0, 15]⟩])
             (afts := nn 21) (js := [0, 0]) mixed (.cons rfl (.cons rfl (.cons rfl (.cons rfl (.cons rfl (.cons rfl (.cons rfl .nil))))))) (fun _ => rfl)
             (by
      refine dR 1 (fun γ ρ B hb hd => OpStep.lk ⟨ρ, (cvar gb_28 r_api_Dot v_27) :: B, _⟩ (op_loadA (j := 0) lb tA26 (.tmp (hb 5 _ rfl)) rfl (Comp.self r_api_Dot v_27) rfl)) <| dS 2 (fun γ ρ B hb hd => (op_call (js := []) ld cl34 (sim_ctx_May k v_27 v_29 hv_29) .func (.cons (tl hd 0 75) .nil) rfl).post (fun _ => Imp.refl)) <| dS 3 (fun γ ρ B hb hd => op_not lb (tl hd 1 76) hv_30) <| dm 4 2 77 ?_
      refine dC 5 (!v_30) (fun γ => ov (CLO 29 [])) (fun γ ρ B hb hd => ⟨(Guard.isF (ltB rfl) rfl (hl hd 3 78 rfl)), fun hq_30 => op_move lb (.tmp (hb 3 _ rfl))⟩) ?_
      refine dC 6 (!v_30) (fun γ => ov (S (rI .i64) x_25)) (fun γ ρ B hb hd => ⟨(Guard.isF (ltB rfl) rfl (hl hd 3 78 rfl)), fun hq_31 => op_move lb (.tmp (hb 4 _ rfl))⟩) ?_
      refine dC 7 (!v_30) (fun γ => ov (S (rI .i64) x_25)) (fun γ ρ B hb hd => ⟨(Guard.isF (ltB rfl) rfl (hl hd 3 78 rfl)), fun hq_32 => op_move lb (.tmp (hb 4 _ rfl))⟩) ?_
      refine dC 8 (!v_30) (fun γ => ov (S rB v_31)) (fun γ ρ B hb hd => ⟨(Guard.isF (ltB rfl) rfl (hl hd 3 78 rfl)), fun hq_33 => op_cmpI lb (HasO.cnd (tl hd 6 81) (notT (notF hq_33))) .cI (cs hv_31)⟩) ?_
      refine dC 9 (!v_30) (fun γ => ov (S rB v_31)) (fun γ ρ B hb hd => ⟨(Guard.isF (ltB rfl) rfl (hl hd 3 78 rfl)), fun hq_34 => op_move lb (HasO.cnd (tl hd 7 82) (notT (notF hq_34)))⟩) ?_
      refine DSteps.cons (j := 10) rfl (fun _ => rfl) (.run (fun γ ρ B hb hd => ⟨(Guard.eqB (Guard.cT (q := (!v_30)) (ltB rfl) rfl (hl hd 8 83 rfl)) (andI (notT hc36) hc38)), lkB (op_fieldAddr (off := 58) lb tf39_8 (.tmp (hb 1 _ rfl)))⟩)) ?_
      refine DSteps.cons (j := 11) rfl (fun _ => rfl) (.run (fun γ ρ B hb hd => ⟨(Guard.eqB (Guard.cT (q := (!v_30)) (ltB rfl) rfl (hl hd 8 83 rfl)) (andI (notT hc36) hc38)), OpStep.lk ⟨ρ, (cvar gb_2 r_api_Frame t_1) :: B, _⟩ (op_loadS (j := 0) lb tS33 (tl hd 9 84) rfl (cT (comp_api_Frame_Live t_1) rfl) rfl rfl)⟩)) ?_
      refine DSteps.cons (j := 12) rfl (fun _ => rfl) (.run (fun γ ρ B hb hd => ⟨(Guard.eqB (Guard.cT (q := (!v_30)) (ltB rfl) rfl (hl hd 8 83 rfl)) (andI (notT hc36) hc38)), lkB (op_move lb (.tmp (hb 4 _ rfl)))⟩)) ?_
      refine DSteps.cons (j := 13) rfl (fun _ => rfl) (.run (fun γ ρ B hb hd => ⟨(Guard.eqB (Guard.cT (q := (!v_30)) (ltB rfl) rfl (hl hd 8 83 rfl)) (andI (notT hc36) hc38)), lkB (op_arI lb (tl hd 11 86) .cI (cs hv_32))⟩)) ?_
      refine DSteps.cons (j := 14) rfl (fun _ => rfl) (.run (fun γ ρ B hb hd => ⟨(Guard.eqB (Guard.cT (q := (!v_30)) (ltB rfl) rfl (hl hd 8 83 rfl)) (andI (notT hc36) hc38)), lkB (op_indexAddrLg lb tu33 tz26 (tl hd 10 85) (tl hd 12 87) hv_33)⟩)) ?_
      refine DSteps.cons (j := 15) rfl (fun _ => rfl) (.run (fun γ ρ B hb hd => ⟨(Guard.eqB (Guard.cT (q := (!v_30)) (ltB rfl) rfl (hl hd 8 83 rfl)) (andI (notT hc36) hc38)), lkB (op_loadPAg lb tA26 (tl hd 13 88) rfl)⟩)) ?_
      refine DSteps.cons (j := 16) rfl (fun _ => rfl) (.run (fun γ ρ B hb hd => ⟨(Guard.eqB (Guard.cT (q := (!v_30)) (ltB rfl) rfl (hl hd 8 83 rfl)) (andI (notT hc36) hc38)), OpStep.lk ⟨ρ, (cvar gb_28 r_api_Dot v_27) :: B, _⟩ (op_loadA (j := 0) lb tA26 (.tmp (hb 5 _ rfl)) rfl (Comp.self r_api_Dot v_27) rfl)⟩)) ?_
      refine DSteps.cons (j := 17) rfl (fun _ => rfl) (.run (fun γ ρ B hb hd => ⟨(Guard.eqB (Guard.cT (q := (!v_30)) (ltB rfl) rfl (hl hd 8 83 rfl)) (andI (notT hc36) hc38)), lkB ((op_call (js := []) ld cl35 (sim_ctx_Less k v_33 v_27 v_34 hv_34) .func (.cons (tl hd 14 89) (.cons (tl hd 15 90) .nil)) rfl).post (fun _ => Imp.refl))⟩)) ?_
      refine dY 18 (fun γ ρ B hb hd => ⟨.yes rfl (ltB rfl) (hl hd 3 78 rfl) hc36, lkB (op_pickT lb (HasO.cnd (tl hd 8 83) (notT hc36)) hc38 (tl hd 16 91))⟩) <| dY 19 (fun γ ρ B hb hd => ⟨.yes rfl (ltB rfl) (hl hd 3 78 rfl) hc36, lkB ((op_call (js := []) ld cl29 (sim_frame_May_1 k x_25 v_34 v_35 hv_35) (HasO.cnd (tl hd 4 79) (notT hc36)) (.cons (HasO.cnd (tl hd 5 80) (notT hc36)) (.cons (tl hd 17 92) .nil)) rfl).post (fun _ => Imp.refl))⟩) <| dY 20 (fun γ ρ B hb hd => ⟨.yes rfl (ltB rfl) (hl hd 3 78 rfl) hc36, lkB (op_not lb (tl hd 18 93) hv_36)⟩) <| dS 21 (fun γ ρ B hb hd => op_pickF lb (tl hd 3 78) hc36 (tl hd 19 94)) ?_
      exact DSteps.nil)
             (by decide +kernel) (fun _ => rfl) (fun _ => rfl) (fun _ => rfl) rfl
             (ρ' := fun γ => [(1, ov (PTR gb_2 0)), (3, ov (CLO 29 [])), (68, ov (S (rL r_api_Dot) t_1.Live)), (69, ov (S (rI .i64) (List.length t_1.Live : Int))), (70, ov (S (rI .i64) x_25)), (95, ov (S rB v_36))])
             (X' := fun γ => [cvar gb_2 r_api_Frame t_1, cvar gb_28 r_api_Dot v_27])
             (fun γ ρ hb hd => (.cons (hb 1 _ rfl) (.cons (hb 3 _ rfl) (.cons (hb 68 _ rfl) (.cons (hb 69 _ rfl) (.cons (hb 70 _ rfl) (.cons (hdq hd 20 95 rfl) .nil))))))) (fun _ => rfl) (fun γ => ?_)
         refine JQ.at ⟨[(1, ov (PTR gb_2 0)), (3, ov (CLO 29 [])), (68, ov (S (rL r_api_Dot) t_1.Live)), (69, ov (S (rI .i64) (List.length t_1.Live : Int))), (70, ov (S (rI .i64) x_25)), (95, ov (S rB v_36))], [cvar gb_2 r_api_Frame t_1, cvar gb_28 r_api_Dot v_27], []⟩ ?_
         try obtain rfl := so hx29
         exact JQ.join () (Imp.norm (js := [0]) rfl (.cons rfl (.cons rfl (.cons rfl (.cons rfl (.cons rfl (.cons rfl .nil)))))))
       obtain ⟨v_37, hv_37, hx29⟩ := bnd_inv hx29
       obtain ⟨v_38, hv_38, hx29⟩ := lt1_inv hx29
       refine JC.anyF (base := [(1, ov (PTR gb_2 0)), (3, ov (CLO 29 [])), (4, ov (S (rI .i64) x_25)), (5, ov (PTR gb_28 0)), (68, ov (S (rL r_api_Dot) t_1.Live)), (69, ov (S (rI .i64) (List.length t_1.Live : Int))), (70, ov (S (rI .i64) x_25))])
           (fs := fun γ => [⟨some 75, ov (A r_api_Dot v_27)⟩, ⟨some 76, ov (S rB v_29)⟩, ⟨some 77, ov (S rB v_30)⟩, ⟨some 78, ov (S rB v_30)⟩, ⟨some 79, bif (!v_30) then ov (CLO 29 []) else .one .und⟩, ⟨some 80, bif (!v_30) then ov (S (rI .i64) x_25) else .one .und⟩, ⟨some 81, bif (!v_30) then ov (S (rI .i64) x_25) else .one .und⟩, ⟨some 82, bif (!v_30) then ov (S rB v_31) else .one .und⟩, ⟨some 83, bif (!v_30) then ov (S rB v_31) else .one .und⟩, ⟨some 84, .one .und⟩, ⟨some 85, .one .und⟩, ⟨some 86, .one .und⟩, ⟨some 87, .one .und⟩, ⟨some 88, .one .und⟩, ⟨some 89, .one .und⟩, ⟨some 90, .one .und⟩, ⟨some 91, .one .und⟩, ⟨some 92, ov (S rB false)⟩, ⟨some 93, ov (S rB v_37)⟩, ⟨some 94, ov (S rB v_38)⟩, ⟨some 95, ov (S rB v_38)⟩])
           (rs := fun γ => [⟨cvar gb_2 r_api_Frame t_1, none, none, []⟩, ⟨cvar gb_28 r_api_Dot v_27, none, none, [0]⟩])
           (afts := nn 21) (js := [0, 0]) mixed (.cons rfl (.cons rfl (.cons rfl (.cons rfl (.cons rfl (.cons rfl (.cons rfl .nil))))))) (fun _ => rfl)
           (by
      refine dR 1 (fun γ ρ B hb hd => OpStep.lk ⟨ρ, (cvar gb_28 r_api_Dot v_27) :: B, _⟩ (op_loadA (j := 0) lb tA26 (.tmp (hb 5 _ rfl)) rfl (Comp.self r_api_Dot v_27) rfl)) <| dS 2 (fun γ ρ B hb hd => (op_call (js := []) ld cl34 (sim_ctx_May k v_27 v_29 hv_29) .func (.cons (tl hd 0 75) .nil) rfl).post (fun _ => Imp.refl)) <| dS 3 (fun γ ρ B hb hd => op_not lb (tl hd 1 76) hv_30) <| dm 4 2 77 ?_
      refine dC 5 (!v_30) (fun γ => ov (CLO 29 [])) (fun γ ρ B hb hd => ⟨(Guard.isF (ltB rfl) rfl (hl hd 3 78 rfl)), fun hq_30 => op_move lb (.tmp (hb 3 _ rfl))⟩) ?_
      refine dC 6 (!v_30) (fun γ => ov (S (rI .i64) x_25)) (fun γ ρ B hb hd => ⟨(Guard.isF (ltB rfl) rfl (hl hd 3 78 rfl)), fun hq_31 => op_move lb (.tmp (hb 4 _ rfl))⟩) ?_
      refine dC 7 (!v_30) (fun γ => ov (S (rI .i64) x_25)) (fun γ ρ B hb hd => ⟨(Guard.isF (ltB rfl) rfl (hl hd 3 78 rfl)), fun hq_32 => op_move lb (.tmp (hb 4 _ rfl))⟩) ?_
      refine dC 8 (!v_30) (fun γ => ov (S rB v_31)) (fun γ ρ B hb hd => ⟨(Guard.isF (ltB rfl) rfl (hl hd 3 78 rfl)), fun hq_33 => op_cmpI lb (HasO.cnd (tl hd 6 81) (notT (notF hq_33))) .cI (cs hv_31)⟩) ?_
      refine dC 9 (!v_30) (fun γ => ov (S rB v_31)) (fun γ ρ B hb hd => ⟨(Guard.isF (ltB rfl) rfl (hl hd 3 78 rfl)), fun hq_34 => op_move lb (HasO.cnd (tl hd 7 82) (notT (notF hq_34)))⟩) ?_
      refine dK 10 (fun γ ρ B hb hd => (Guard.eqB (Guard.cT (q := (!v_30)) (ltB rfl) rfl (hl hd 8 83 rfl)) (andFR hc38))) <| dK 11 (fun γ ρ B hb hd => (Guard.eqB (Guard.cT (q := (!v_30)) (ltB rfl) rfl (hl hd 8 83 rfl)) (andFR hc38))) <| dK 12 (fun γ ρ B hb hd => (Guard.eqB (Guard.cT (q := (!v_30)) (ltB rfl) rfl (hl hd 8 83 rfl)) (andFR hc38))) <| dK 13 (fun γ ρ B hb hd => (Guard.eqB (Guard.cT (q := (!v_30)) (ltB rfl) rfl (hl hd 8 83 rfl)) (andFR hc38))) <| dK 14 (fun γ ρ B hb hd => (Guard.eqB (Guard.cT (q := (!v_30)) (ltB rfl) rfl (hl hd 8 83 rfl)) (andFR hc38))) ?_
      refine dK 15 (fun γ ρ B hb hd => (Guard.eqB (Guard.cT (q := (!v_30)) (ltB rfl) rfl (hl hd 8 83 rfl)) (andFR hc38))) <| dK 16 (fun γ ρ B hb hd => (Guard.eqB (Guard.cT (q := (!v_30)) (ltB rfl) rfl (hl hd 8 83 rfl)) (andFR hc38))) <| dK 17 (fun γ ρ B hb hd => (Guard.eqB (Guard.cT (q := (!v_30)) (ltB rfl) rfl (hl hd 8 83 rfl)) (andFR hc38))) <| dY 18 (fun γ ρ B hb hd => ⟨.yes rfl (ltB rfl) (hl hd 3 78 rfl) hc36, lkB (op_pickF lb (HasO.cnd (tl hd 8 83) (notT hc36)) hc38 .cB)⟩) <| dY 19 (fun γ ρ B hb hd => ⟨.yes rfl (ltB rfl) (hl hd 3 78 rfl) hc36, lkB ((op_call (js := []) ld cl29 (sim_frame_May_1 k x_25 false v_37 hv_37) (HasO.cnd (tl hd 4 79) (notT hc36)) (.cons (HasO.cnd (tl hd 5 80) (notT hc36)) (.cons (tl hd 17 92) .nil)) rfl).post (fun _ => Imp.refl))⟩) ?_
      refine dY 20 (fun γ ρ B hb hd => ⟨.yes rfl (ltB rfl) (hl hd 3 78 rfl) hc36, lkB (op_not lb (tl hd 18 93) hv_38)⟩) <| dS 21 (fun γ ρ B hb hd => op_pickF lb (tl hd 3 78) hc36 (tl hd 19 94)) ?_
      exact DSteps.nil)
           (by decide +kernel) (fun _ => rfl) (fun _ => rfl) (fun _ => rfl) rfl
           (ρ' := fun γ => [(1, ov (PTR gb_2 0)), (3, ov (CLO 29 [])), (68, ov (S (rL r_api_Dot) t_1.Live)), (69, ov (S (rI .i64) (List.length t_1.Live : Int))), (70, ov (S (rI .i64) x_25)), (95, ov (S rB v_38))])
           (X' := fun γ => [cvar gb_2 r_api_Frame t_1, cvar gb_28 r_api_Dot v_27])
           (fun γ ρ hb hd => (.cons (hb 1 _ rfl) (.cons (hb 3 _ rfl) (.cons (hb 68 _ rfl) (.cons (hb 69 _ rfl) (.cons (hb 70 _ rfl) (.cons (hdq hd 20 95 rfl) .nil))))))) (fun _ => rfl) (fun γ => ?_)
       refine JQ.at ⟨[(1, ov (PTR gb_2 0)), (3, ov (CLO 29 [])), (68, ov (S (rL r_api_Dot) t_1.Live)), (69, ov (S (rI .i64) (List.length t_1.Live : Int))), (70, ov (S (rI .i64) x_25)), (95, ov (S rB v_38))], [cvar gb_2 r_api_Frame t_1, cvar gb_28 r_api_Dot v_27], []⟩ ?_
       try obtain rfl := so hx29
       exact JQ.join () (Imp.norm (js := [0]) rfl (.cons rfl (.cons rfl (.cons rfl (.cons rfl (.cons rfl (.cons rfl .nil)))))))
     refine JC.condF (.tmp rfl) hc28 ?_
     refine JC.exit ?_
     refine JQ.outX ?_
     try obtain rfl := so hx
     have ht := hr _ rfl
     clear hr
     first | subst ht | clear ht
     dsimp only at hq27
     refine JQ.outX ?_
     refine JQ.here ?_
     try obtain rfl := so hq27
     exact JQ.joinK () () rfl (Imp.norm (js := [0]) rfl (.cons rfl .nil))
   refine JC.condF (.tmp rfl) hc25 ?_
   refine jr ?_
   obtain ⟨v_45, hv_45, hx17⟩ := lt1_inv hx17
   refine jc (op_cmpI lb (.tmp rfl) .cI (cs hv_45)) ?_
   refine JL.sub ⟨[(1, ov (PTR gb_2 0)), (3, ov (CLO 29 [])), (43, ov (S (rI .i64) t_1.Kind)), (106, ov (S rB v_45))], [cvar gb_2 r_api_Frame t_1], []⟩ (.cons rfl (.cons rfl (.cons rfl (.cons rfl .nil)))) rfl rfl ?_
   refine jc (op_assign lb (.tmp rfl)) <| jn ?_
   rcases iteB_inv hx17 with ⟨hc44, hx17⟩ | ⟨hc44, hx17⟩
   · refine JC.condT (.tmp rfl) hc44 ?_
     refine jr <| jc (op_assign lb .cB) <| jn ?_
     refine JC.ret ?_
     refine JQ.outRB ?_
     try obtain rfl := so hx17
     dsimp only at hq17
     refine JQ.outR ?_
     obtain rfl := so hq17
     exact jd (.val (S rB true)) rfl rfl rfl rfl rfl rfl
   refine JC.condF (.tmp rfl) hc44 ?_
   refine jr ?_
   obtain ⟨v_46, hv_46, hx17⟩ := lt1_inv hx17
   refine jc (op_cmpI lb (.tmp rfl) .cI (cs hv_46)) <| jc (op_assign lb (.tmp rfl)) <| jn ?_
   rcases iteB_inv hx17 with ⟨hc45, hx17⟩ | ⟨hc45, hx17⟩
   · refine JC.condT (.tmp rfl) hc45 ?_
     refine jr <| jc (op_fieldAddr (off := 91) lb tf39_10 (.tmp rfl)) <| jc (op_loadS (j := 0) lb tS36 (.tmp rfl) rfl (cT (comp_api_Frame_Leaves t_1) rfl) rfl rfl) <| jc (op_lenL lb tu36 (.tmp rfl)) ?_
     obtain ⟨v_47, hv_47, hx17⟩ := lt1_inv hx17
     refine jc (op_cmpI lb (.tmp rfl) .cI (cs hv_47)) <| jc (op_assign lb (.tmp rfl)) <| jn ?_
     refine JC.ret ?_
     refine JQ.outRB ?_
     try obtain rfl := so hx17
     dsimp only at hq17
     refine JQ.outR ?_
     obtain rfl := so hq17
     exact jd (.val (S rB v_47)) rfl rfl rfl rfl rfl rfl
   refine JC.condF (.tmp rfl) hc45 ?_
   refine jr ?_
   obtain ⟨v_48, hv_48, hx17⟩ := lt1_inv hx17
   refine jc (op_cmpI lb (.tmp rfl) .cI (cs hv_48)) <| jc (op_assign lb (.tmp rfl)) <| jn ?_
   rcases iteB_inv hx17 with ⟨hc46, hx17⟩ | ⟨hc46, hx17⟩
   · refine JC.condT (.tmp rfl) hc46 ?_
     obtain ⟨tv47, hx47, hq47⟩ := bnd_inv hx17
     refine JC.seqK (α := Unit) (γ := Unit) (stj := fun v q => ⟨[(1, ov (PTR gb_2 0)), (3, ov (CLO 29 []))], [cvar gb_2 r_api_Frame t_1], []⟩) (p := fun v => tv47 = (.inl v)) (fun v q hv => ?_) ?_
     · subst hv
       skip
       obtain _ := q
       dsimp only at hq47
       refine JC.at ⟨[(1, ov (PTR gb_2 0)), (3, ov (CLO 29 []))], [cvar gb_2 r_api_Frame t_1], []⟩ ?_
       obtain ⟨tv64, hx64, hq64⟩ := bnd_inv hq47
       refine JC.seqK (α := Unit) (γ := Unit) (stj := fun v q => ⟨[(1, ov (PTR gb_2 0))], [cvar gb_2 r_api_Frame t_1], []⟩) (p := fun v => tv64 = (.inl v)) (fun v q hv => ?_) ?_
       · subst hv
         skip
         obtain _ := q
         dsimp only at hq64
         refine JC.at ⟨[(1, ov (PTR gb_2 0))], [cvar gb_2 r_api_Frame t_1], []⟩ ?_
         obtain ⟨x_84, hx71, hq71⟩ := bnd_inv hq64
         refine JC.seqJ (γ := Unit) (stj := fun _ => ⟨[(2, ov (S rB x_84))], [], []⟩) (fun _ => ?_) ?_
         · refine JC.ret ?_
           refine JQ.outRB ?_
           try obtain rfl := so hq71
           dsimp only at hq17
           refine JQ.outR ?_
           obtain rfl := so hq17
           exact jd (.val (S rB x_84)) rfl rfl rfl rfl rfl rfl
         refine JC.region <| jc (op_fieldAddr (off := 92) lb tf39_11 (.tmp rfl)) <| jc (op_loadS (j := 0) lb tS37 (.tmp rfl) rfl (cT (comp_api_Frame_Buckets t_1) rfl) rfl rfl) <| jc (op_lenL lb tu37 (.tmp rfl)) ?_
         obtain ⟨v_79, hv_79, hx71⟩ := lt1_inv hx71
         refine jc (op_cmpI lb (.tmp rfl) .cI (cs hv_79)) <| jmv rfl rfl ?_
         refine JL.cnd (sv := ov (A r_api_Frame t_1)) (Guard.isT (ltB rfl) rfl rfl) rfl (ltB rfl) (fun hq_72 => op_loadA (j := 0) lb tA39 (.tmp rfl) rfl (Comp.self r_api_Frame t_1) rfl) ?_
         obtain ⟨v_80, hv_80, hx71⟩ := bnd_inv hx71
         refine JL.cnd (sv := ov (S rB v_80)) (Guard.isT (ltB rfl) rfl rfl) rfl (ltB rfl) (fun hq_73 => (op_call (js := []) ld cl30 (sim_frame_items k t_1 v_80 (ifT hv_80 hq_73)) .func (.cons (HasO.cnd (.tmp rfl) hq_73) .nil) rfl).post (fun _ => Imp.refl)) ?_
         obtain ⟨v_81, hv_81, hx71⟩ := lt1_inv hx71
         refine jc (op_pickCS lb (.tmp rfl) (fun hb74 => (HasO.cnd (.tmp rfl) hb74)) (fun hb74 => .cB) hv_81) <| jmv rfl rfl ?_
         refine JL.cnd (sv := ov (A r_api_Frame t_1)) (Guard.isT (ltB rfl) rfl rfl) rfl (ltB rfl) (fun hq_75 => op_loadA (j := 0) lb tA39 (.tmp rfl) rfl (Comp.self r_api_Frame t_1) rfl) ?_
         obtain ⟨v_82, hv_82, hx71⟩ := bnd_inv hx71
         refine JL.cnd (sv := ov (S rB v_82)) (Guard.isT (ltB rfl) rfl rfl) rfl (ltB rfl) (fun hq_76 => (op_call (js := []) ld cl36 (sim_frame_seen k t_1 v_82 (ifT hv_82 hq_76)) .func (.cons (HasO.cnd (.tmp rfl) hq_76) .nil) rfl).post (fun _ => Imp.refl)) ?_
         obtain ⟨v_83, hv_83, hx71⟩ := lt1_inv hx71
         refine jc (op_pickCS lb (.tmp rfl) (fun hb77 => (HasO.cnd (.tmp rfl) hb77)) (fun hb77 => .cB) hv_83) ?_
         refine JL.nrm ⟨[(186, ov (S rB v_83))], [], []⟩ [] rfl (.cons rfl .nil) rfl ?_
         refine jc (op_assign lb (.tmp rfl)) <| JL.nil ?_
         try obtain rfl := so hx71
         exact jo rfl rfl rfl
       refine jr <| jc (op_fieldAddr (off := 3) lb tf39_3 (.tmp rfl)) <| jc (op_loadS (j := 0) lb tS23 (.tmp rfl) rfl (cT (comp_api_Frame_Items t_1) rfl) rfl rfl) <| jc (op_lenL lb tu23 (.tmp rfl)) <| jc (op_move lb .cI) ?_
       refine jn <| JC.block ?_
       obtain ⟨tv65, hL65, hq65⟩ := bnd_inv hx64
       refine JC.pre ?_ (JC.loop (γ := Unit) (stf := fun s q => ⟨[(1, ov (PTR gb_2 0)), (3, ov (CLO 29 [])), (149, ov (S (rL r_api_Item) t_1.Items)), (150, ov (S (rI .i64) (List.length t_1.Items : Int))), (151, ov (S (rI .i64) s))], [cvar gb_2 r_api_Frame t_1], []⟩) (q := ()) hL65 ?_)
       · exact (Imp.norm (js := [0]) rfl (.cons rfl (.cons rfl (.cons rfl (.cons rfl (.cons rfl .nil))))))
       intro x_65 q x hx hr
       obtain _ := q
       change frame_May.b3 k t_1 x_65 = some x at hx
       unfold frame_May.b3 at hx
       refine JC.at ⟨[(1, ov (PTR gb_2 0)), (3, ov (CLO 29 [])), (149, ov (S (rL r_api_Item) t_1.Items)), (150, ov (S (rI .i64) (List.length t_1.Items : Int))), (151, ov (S (rI .i64) x_65))], [cvar gb_2 r_api_Frame t_1], []⟩ ?_
       refine jr ?_
       obtain ⟨v_66, hv_66, hx⟩ := lt1_inv hx
       refine jc (op_cmpI lb (.tmp rfl) (.tmp rfl) (cs hv_66)) <| jn <| JC.seq ?_
       rcases iteB_inv hx with ⟨hc66, hx⟩ | ⟨hc66, hx⟩
       · refine JC.condT (.tmp rfl) hc66 ?_
         refine JC.skip ?_
         refine JQ.then <| JC.seq <| JC.block <| jr <| jmv rfl rfl ?_
         obtain ⟨v_67, hv_67, hx⟩ := bnd_inv hx
         refine jc (op_indexAddrLg lb tu23 tz62 (.tmp rfl) (.tmp rfl) hv_67) <| jc (op_loadPAg lb tA62 (.tmp rfl) rfl) ?_
         refine jx (op_alloc lb tZ62 zr62) (fun gb_68 => ?_)
         refine jc (op_assign lb (.tmp rfl)) <| jc (op_storeA (j := 1) tA62 (.tmp rfl) (.tmp rfl) rfl (UpdR.self (by rfl)) rfl) <| jn ?_
         obtain ⟨x_77, hx67, hq67⟩ := bnd_inv hx
         refine JC.seqJ (γ := Unit) (stj := fun _ => ⟨[(1, ov (PTR gb_2 0)), (3, ov (CLO 29 [])), (149, ov (S (rL r_api_Item) t_1.Items)), (150, ov (S (rI .i64) (List.length t_1.Items : Int))), (151, ov (S (rI .i64) x_65)), (173, ov (S rB x_77))], [cvar gb_2 r_api_Frame t_1], []⟩) (fun _ => ?_) ?_
         · rcases iteB_inv hq67 with ⟨hc70, hq67⟩ | ⟨hc70, hq67⟩
           · refine JC.condT (.tmp rfl) hc70 ?_
             refine jr <| jc (op_assign lb .cB) <| jn ?_
             refine JC.ret ?_
             refine JQ.outRB ?_
             refine JQ.outR ?_
             try obtain rfl := so hq67
             have ht := hr _ rfl
             clear hr
             first | subst ht | clear ht
             dsimp only at hq65
             refine JQ.outR ?_
             refine JQ.outRB ?_
             try obtain rfl := so hq65
             dsimp only at hq64
             refine JQ.outR ?_
             refine JQ.outRB ?_
             try obtain rfl := so hq64
             dsimp only at hq17
             refine JQ.outR ?_
             obtain rfl := so hq17
             exact jd (.val (S rB false)) rfl rfl rfl rfl rfl rfl
           refine JC.condF (.tmp rfl) hc70 ?_
           refine JC.skip ?_
           refine JQ.outNB ?_
           refine JQ.then <| JC.region ?_
           obtain ⟨v_78, hv_78, hq67⟩ := lt1_inv hq67
           refine jc (op_arI lb (.tmp rfl) .cI (cs hv_78)) <| jmv rfl rfl <| JL.nil ?_
           try obtain rfl := so hq67
           exact JQ.next () rfl (Imp.norm (js := [0]) rfl (.cons rfl (.cons rfl (.cons rfl (.cons rfl (.cons rfl .nil))))))
         obtain ⟨v_69, hv_69, hx67⟩ := lt1_inv hx67
         rcases iteB_inv hx67 with ⟨hc69, hx67⟩ | ⟨hc69, hx67⟩
         · obtain ⟨v_70, hv_70, hx67⟩ := lt1_inv hx67
           obtain ⟨v_71, hv_71, hx67⟩ := bnd_inv hx67
           obtain ⟨v_72, hv_72, hx67⟩ := bnd_inv hx67
           obtain ⟨v_73, hv_73, hx67⟩ := bnd_inv hx67
           obtain ⟨v_74, hv_74, hx67⟩ := lt1_inv hx67
           refine JC.anyF (base := [(1, ov (PTR gb_2 0)), (3, ov (CLO 29 [])), (8, ov (S (rI .i64) x_65)), (9, ov (PTR gb_68 0)), (149, ov (S (rL r_api_Item) t_1.Items)), (150, ov (S (rI .i64) (List.length t_1.Items : Int))), (151, ov (S (rI .i64) x_65))])
               (fs := fun γ => [⟨some 156, ov (CLO 29 [])⟩, ⟨some 157, ov (S (rI .i64) x_65)⟩, ⟨some 158, ov (S (rI .i64) x_65)⟩, ⟨some 159, ov (S rB v_69)⟩, ⟨some 160, ov (S rB v_69)⟩, ⟨some 161, ov (PTR gb_2 (0 + 3))⟩, ⟨some 162, ov (S (rL r_api_Item) t_1.Items)⟩, ⟨some 163, ov (S (rI .i64) x_65)⟩, ⟨some 164, ov (S (rI .i64) v_70)⟩, ⟨some 165, ov (PT r_api_Item v_71)⟩, ⟨some 166, ov (PT r_api_Dot v_71.Dot)⟩, ⟨some 167, ov (A r_api_Dot v_71.Dot)⟩, ⟨some 168, ov (PTR gb_68 (0 + 0))⟩, ⟨some 169, ov (A r_api_Dot v_67.Dot)⟩, ⟨some 170, ov (S rB v_72)⟩, ⟨some 171, ov (S rB v_72)⟩, ⟨some 172, ov (S rB v_73)⟩, ⟨some 173, ov (S rB v_74)⟩])
               (rs := fun γ => [⟨cvar gb_2 r_api_Frame t_1, none, none, [6]⟩, ⟨cvar gb_68 r_api_Item v_67, none, none, [13]⟩])
               (afts := nn 18) (js := [0, 0]) mixed (.cons rfl (.cons rfl (.cons rfl (.cons rfl (.cons rfl (.cons rfl (.cons rfl .nil))))))) (fun _ => rfl)
               (by
      refine db 1 3 <| db 2 8 <| db 3 8 <| dS 4 (fun γ ρ B hb hd => op_cmpI lb (tl hd 2 158) .cI (cs hv_69)) <| dm 5 3 159 ?_
      refine dY 6 (fun γ ρ B hb hd => ⟨.yes rfl (ltB rfl) (hl hd 4 160 rfl) hc69, lkB (op_fieldAddr (off := 3) lb tf39_3 (.tmp (hb 1 _ rfl)))⟩) <| dY 7 (fun γ ρ B hb hd => ⟨.yes rfl (ltB rfl) (hl hd 4 160 rfl) hc69, OpStep.lk ⟨ρ, (cvar gb_2 r_api_Frame t_1) :: B, _⟩ (op_loadS (j := 0) lb tS23 (tl hd 5 161) rfl (cT (comp_api_Frame_Items t_1) rfl) rfl rfl)⟩) <| dY 8 (fun γ ρ B hb hd => ⟨.yes rfl (ltB rfl) (hl hd 4 160 rfl) hc69, lkB (op_move lb (.tmp (hb 8 _ rfl)))⟩) <| dY 9 (fun γ ρ B hb hd => ⟨.yes rfl (ltB rfl) (hl hd 4 160 rfl) hc69, lkB (op_arI lb (tl hd 7 163) .cI (cs hv_70))⟩) <| dY 10 (fun γ ρ B hb hd => ⟨.yes rfl (ltB rfl) (hl hd 4 160 rfl) hc69, lkB (op_indexAddrLg lb tu23 tz62 (tl hd 6 162) (tl hd 8 164) hv_71)⟩) ?_
      refine dY 11 (fun γ ρ B hb hd => ⟨.yes rfl (ltB rfl) (hl hd 4 160 rfl) hc69, lkB (op_fieldAddrP lb tf62_0 (tl hd 9 165) (comp_api_Item_Dot v_71))⟩) <| dY 12 (fun γ ρ B hb hd => ⟨.yes rfl (ltB rfl) (hl hd 4 160 rfl) hc69, lkB (op_loadPAg lb tA26 (tl hd 10 166) rfl)⟩) <| dY 13 (fun γ ρ B hb hd => ⟨.yes rfl (ltB rfl) (hl hd 4 160 rfl) hc69, lkB (op_fieldAddr (off := 0) lb tf62_0 (.tmp (hb 9 _ rfl)))⟩) <| dY 14 (fun γ ρ B hb hd => ⟨.yes rfl (ltB rfl) (hl hd 4 160 rfl) hc69, OpStep.lk ⟨ρ, (cvar gb_68 r_api_Item v_67) :: B, _⟩ (op_loadA (j := 0) lb tA26 (tl hd 12 168) rfl (cT (comp_api_Item_Dot v_67) rfl) rfl)⟩) <| dY 15 (fun γ ρ B hb hd => ⟨.yes rfl (ltB rfl) (hl hd 4 160 rfl) hc69, lkB ((op_call (js := []) ld cl35 (sim_ctx_Less k v_71.Dot v_67.Dot v_72 hv_72) .func (.cons (tl hd 11 167) (.cons (tl hd 13 169) .nil)) rfl).post (fun _ => Imp.refl))⟩) ?_
      refine dS 16 (fun γ ρ B hb hd => op_pickT lb (tl hd 4 160) hc69 (tl hd 14 170)) <| dS 17 (fun γ ρ B hb hd => (op_call (js := []) ld cl29 (sim_frame_May_1 k x_65 v_72 v_73 hv_73) (tl hd 0 156) (.cons (tl hd 1 157) (.cons (tl hd 15 171) .nil)) rfl).post (fun _ => Imp.refl)) <| dS 18 (fun γ ρ B hb hd => op_not lb (tl hd 16 172) hv_74) ?_
      exact DSteps.nil)
               (by decide +kernel) (fun _ => rfl) (fun _ => rfl) (fun _ => rfl) rfl
               (ρ' := fun γ => [(1, ov (PTR gb_2 0)), (3, ov (CLO 29 [])), (149, ov (S (rL r_api_Item) t_1.Items)), (150, ov (S (rI .i64) (List.length t_1.Items : Int))), (151, ov (S (rI .i64) x_65)), (173, ov (S rB v_74))])
               (X' := fun γ => [cvar gb_2 r_api_Frame t_1, cvar gb_68 r_api_Item v_67])
               (fun γ ρ hb hd => (.cons (hb 1 _ rfl) (.cons (hb 3 _ rfl) (.cons (hb 149 _ rfl) (.cons (hb 150 _ rfl) (.cons (hb 151 _ rfl) (.cons (hdq hd 17 173 rfl) .nil))))))) (fun _ => rfl) (fun γ => ?_)
           refine JQ.at ⟨[(1, ov (PTR gb_2 0)), (3, ov (CLO 29 [])), (149, ov (S (rL r_api_Item) t_1.Items)), (150, ov (S (rI .i64) (List.length t_1.Items : Int))), (151, ov (S (rI .i64) x_65)), (173, ov (S rB v_74))], [cvar gb_2 r_api_Frame t_1, cvar gb_68 r_api_Item v_67], []⟩ ?_
           try obtain rfl := so hx67
           exact JQ.join () (Imp.norm (js := [0]) rfl (.cons rfl (.cons rfl (.cons rfl (.cons rfl (.cons rfl (.cons rfl .nil)))))))
         obtain ⟨v_75, hv_75, hx67⟩ := bnd_inv hx67
         obtain ⟨v_76, hv_76, hx67⟩ := lt1_inv hx67
         refine JC.anyF (base := [(1, ov (PTR gb_2 0)), (3, ov (CLO 29 [])), (8, ov (S (rI .i64) x_65)), (149, ov (S (rL r_api_Item) t_1.Items)), (150, ov (S (rI .i64) (List.length t_1.Items : Int))), (151, ov (S (rI .i64) x_65))])
             (fs := fun γ => [⟨some 156, ov (CLO 29 [])⟩, ⟨some 157, ov (S (rI .i64) x_65)⟩, ⟨some 158, ov (S (rI .i64) x_65)⟩, ⟨some 159, ov (S rB v_69)⟩, ⟨some 160, ov (S rB v_69)⟩, ⟨some 161, .one .und⟩, ⟨some 162, .one .und⟩, ⟨some 163, .one .und⟩, ⟨some 164, .one .und⟩, ⟨some 165, .one .und⟩, ⟨some 166, .one .und⟩, ⟨some 167, .one .und⟩, ⟨some 168, .one .und⟩, ⟨some 169, .one .und⟩, ⟨some 170, .one .und⟩, ⟨some 171, ov (S rB false)⟩, ⟨some 172, ov (S rB v_75)⟩, ⟨some 173, ov (S rB v_76)⟩])
             (rs := fun γ => [⟨cvar gb_2 r_api_Frame t_1, none, none, []⟩, ⟨cvar gb_68 r_api_Item v_67, none, none, []⟩])
             (afts := nn 18) (js := [0, 0]) mixed (.cons rfl (.cons rfl (.cons rfl (.cons rfl (.cons rfl (.cons rfl .nil)))))) (fun _ => rfl)
             (by
      refine db 1 3 <| db 2 8 <| db 3 8 <| dS 4 (fun γ ρ B hb hd => op_cmpI lb (tl hd 2 158) .cI (cs hv_69)) <| dm 5 3 159 ?_
      refine kn 6 4 160 rfl hc69 <| kn 7 4 160 rfl hc69 <| kn 8 4 160 rfl hc69 <| kn 9 4 160 rfl hc69 <| kn 10 4 160 rfl hc69 ?_
      refine kn 11 4 160 rfl hc69 <| kn 12 4 160 rfl hc69 <| kn 13 4 160 rfl hc69 <| kn 14 4 160 rfl hc69 <| kn 15 4 160 rfl hc69 ?_
      refine dS 16 (fun γ ρ B hb hd => op_pickF lb (tl hd 4 160) hc69 .cB) <| dS 17 (fun γ ρ B hb hd => (op_call (js := []) ld cl29 (sim_frame_May_1 k x_65 false v_75 hv_75) (tl hd 0 156) (.cons (tl hd 1 157) (.cons (tl hd 15 171) .nil)) rfl).post (fun _ => Imp.refl)) <| dS 18 (fun γ ρ B hb hd => op_not lb (tl hd 16 172) hv_76) ?_
      exact DSteps.nil)
             (by decide +kernel) (fun _ => rfl) (fun _ => rfl) (fun _ => rfl) rfl
             (ρ' := fun γ => [(1, ov (PTR gb_2 0)), (3, ov (CLO 29 [])), (149, ov (S (rL r_api_Item) t_1.Items)), (150, ov (S (rI .i64) (List.length t_1.Items : Int))), (151, ov (S (rI .i64) x_65)), (173, ov (S rB v_76))])
             (X' := fun γ => [cvar gb_2 r_api_Frame t_1, cvar gb_68 r_api_Item v_67])
             (fun γ ρ hb hd => (.cons (hb 1 _ rfl) (.cons (hb 3 _ rfl) (.cons (hb 149 _ rfl) (.cons (hb 150 _ rfl) (.cons (hb 151 _ rfl) (.cons (hdq hd 17 173 rfl) .nil))))))) (fun _ => rfl) (fun γ => ?_)
         refine JQ.at ⟨[(1, ov (PTR gb_2 0)), (3, ov (CLO 29 [])), (149, ov (S (rL r_api_Item) t_1.Items)), (150, ov (S (rI .i64) (List.length t_1.Items : Int))), (151, ov (S (rI .i64) x_65)), (173, ov (S rB v_76))], [cvar gb_2 r_api_Frame t_1, cvar gb_68 r_api_Item v_67], []⟩ ?_
         try obtain rfl := so hx67
         exact JQ.join () (Imp.norm (js := [0]) rfl (.cons rfl (.cons rfl (.cons rfl (.cons rfl (.cons rfl (.cons rfl .nil)))))))
       refine JC.condF (.tmp rfl) hc66 ?_
       refine JC.exit ?_
       refine JQ.outX ?_
       try obtain rfl := so hx
       have ht := hr _ rfl
       clear hr
       first | subst ht | clear ht
       dsimp only at hq65
       refine JQ.outX ?_
       refine JQ.here ?_
       try obtain rfl := so hq65
       exact JQ.joinK () () rfl (Imp.norm (js := [0]) rfl (.cons rfl .nil))
     refine jr <| jc (op_fieldAddr (off := 92) lb tf39_11 (.tmp rfl)) <| jc (op_loadS (j := 0) lb tS37 (.tmp rfl) rfl (cT (comp_api_Frame_Buckets t_1) rfl) rfl rfl) <| jc (op_lenL lb tu37 (.tmp rfl)) <| jc (op_move lb .cI) ?_
     refine jn <| JC.block ?_
     obtain ⟨tv48, hL48, hq48⟩ := bnd_inv hx47
     refine JC.pre ?_ (JC.loop (γ := Unit) (stf := fun s q => ⟨[(1, ov (PTR gb_2 0)), (3, ov (CLO 29 [])), (116, ov (S (rL (rI .i64)) t_1.Buckets)), (117, ov (S (rI .i64) (List.length t_1.Buckets : Int))), (118, ov (S (rI .i64) s))], [cvar gb_2 r_api_Frame t_1], []⟩) (q := ()) hL48 ?_)
     · exact (Imp.norm (js := [0]) rfl (.cons rfl (.cons rfl (.cons rfl (.cons rfl (.cons rfl .nil))))))
     intro x_49 q x hx hr
     obtain _ := q
     change frame_May.b2 k t_1 x_49 = some x at hx
     unfold frame_May.b2 at hx
     refine JC.at ⟨[(1, ov (PTR gb_2 0)), (3, ov (CLO 29 [])), (116, ov (S (rL (rI .i64)) t_1.Buckets)), (117, ov (S (rI .i64) (List.length t_1.Buckets : Int))), (118, ov (S (rI .i64) x_49))], [cvar gb_2 r_api_Frame t_1], []⟩ ?_
     refine jr ?_
     obtain ⟨v_50, hv_50, hx⟩ := lt1_inv hx
     refine jc (op_cmpI lb (.tmp rfl) (.tmp rfl) (cs hv_50)) <| jn <| JC.seq ?_
     rcases iteB_inv hx with ⟨hc49, hx⟩ | ⟨hc49, hx⟩
     · refine JC.condT (.tmp rfl) hc49 ?_
       refine JC.skip ?_
       refine JQ.then <| JC.seq <| JC.block <| jr <| jmv rfl rfl ?_
       obtain ⟨v_51, hv_51, hx⟩ := bnd_inv hx
       refine jc (op_indexAddrLg lb tu37 tz3 (.tmp rfl) (.tmp rfl) hv_51) <| jc (op_loadPSg lb tS3 rfl (.tmp rfl) rfl) <| jc (op_assign lb (.tmp rfl)) <| jc (op_assign lb (.tmp rfl)) <| jn ?_
       obtain ⟨x_63, hx50, hq50⟩ := bnd_inv hx
       refine JC.seqJ (γ := Unit) (stj := fun _ => ⟨[(1, ov (PTR gb_2 0)), (3, ov (CLO 29 [])), (116, ov (S (rL (rI .i64)) t_1.Buckets)), (117, ov (S (rI .i64) (List.length t_1.Buckets : Int))), (118, ov (S (rI .i64) x_49)), (146, ov (S rB x_63))], [cvar gb_2 r_api_Frame t_1], []⟩) (fun _ => ?_) ?_
       · rcases iteB_inv hq50 with ⟨hc63, hq50⟩ | ⟨hc63, hq50⟩
         · refine JC.condT (.tmp rfl) hc63 ?_
           refine jr <| jc (op_assign lb .cB) <| jn ?_
           refine JC.ret ?_
           refine JQ.outRB ?_
           refine JQ.outR ?_
           try obtain rfl := so hq50
           have ht := hr _ rfl
           clear hr
           first | subst ht | clear ht
           dsimp only at hq48
           refine JQ.outR ?_
           refine JQ.outRB ?_
           try obtain rfl := so hq48
           dsimp only at hq47
           refine JQ.outR ?_
           refine JQ.outRB ?_
           try obtain rfl := so hq47
           dsimp only at hq17
           refine JQ.outR ?_
           obtain rfl := so hq17
           exact jd (.val (S rB false)) rfl rfl rfl rfl rfl rfl
         refine JC.condF (.tmp rfl) hc63 ?_
         refine JC.skip ?_
         refine JQ.outNB ?_
         refine JQ.then <| JC.region ?_
         obtain ⟨v_64, hv_64, hq50⟩ := lt1_inv hq50
         refine jc (op_arI lb (.tmp rfl) .cI (cs hv_64)) <| jmv rfl rfl <| JL.nil ?_
         try obtain rfl := so hq50
         exact JQ.next () rfl (Imp.norm (js := [0]) rfl (.cons rfl (.cons rfl (.cons rfl (.cons rfl (.cons rfl .nil))))))
       refine JC.region <| jmv rfl rfl ?_
       obtain ⟨v_52, hv_52, hx50⟩ := lt1_inv hx50
       refine jc (op_cmpI lb (.tmp rfl) .cI (cs hv_52)) <| jmv rfl rfl ?_
       refine JL.cnd (sv := ov (S (rI .i64) v_51)) (Guard.isF (ltB rfl) rfl rfl) rfl (ltB rfl) (fun hq_51 => op_move lb (.tmp rfl)) ?_
       obtain ⟨v_53, hv_53, hx50⟩ := lt1_inv hx50
       refine JL.cnd (sv := ov (S rB v_53)) (Guard.isF (ltB rfl) rfl rfl) rfl (ltB rfl) (fun hq_52 => op_cmpI lb (HasO.cnd (.tmp rfl) (notT (notF hq_52))) .cI (cs hv_53)) ?_
       obtain ⟨v_54, hv_54, hx50⟩ := lt1_inv hx50
       refine jc (op_pickCS lb (.tmp rfl) (fun hb53 => .cB) (fun hb53 => (HasO.cnd (.tmp rfl) (notT hb53))) hv_54) ?_
       refine JL.sub ⟨[(1, ov (PTR gb_2 0)), (3, ov (CLO 29 [])), (6, ov (S (rI .i64) x_49)), (7, ov (S (rI .i64) v_51)), (116, ov (S (rL (rI .i64)) t_1.Buckets)), (117, ov (S (rI .i64) (List.length t_1.Buckets : Int))), (118, ov (S (rI .i64) x_49)), (128, ov (S rB v_54))], [cvar gb_2 r_api_Frame t_1], []⟩ (.cons rfl (.cons rfl (.cons rfl (.cons rfl (.cons rfl (.cons rfl (.cons rfl (.cons rfl .nil)))))))) rfl rfl ?_
       refine jmv rfl rfl ?_
       refine JL.cnd (sv := ov (CLO 29 [])) (Guard.isF (ltB rfl) rfl rfl) rfl (ltB rfl) (fun hq_54 => op_move lb (.tmp rfl)) ?_
       refine JL.cnd (sv := ov (S (rI .i64) x_49)) (Guard.isF (ltB rfl) rfl rfl) rfl (ltB rfl) (fun hq_55 => op_move lb (.tmp rfl)) ?_
       refine JL.cnd (sv := ov (S (rI .i64) x_49)) (Guard.isF (ltB rfl) rfl rfl) rfl (ltB rfl) (fun hq_56 => op_move lb (.tmp rfl)) ?_
       obtain ⟨v_55, hv_55, hx50⟩ := lt1_inv hx50
       refine JL.cnd (sv := ov (S rB v_55)) (Guard.isF (ltB rfl) rfl rfl) rfl (ltB rfl) (fun hq_57 => op_cmpI lb (HasO.cnd (.tmp rfl) (notT (notF hq_57))) .cI (cs hv_55)) ?_
       refine JL.cnd (sv := ov (S rB v_55)) (Guard.isF (ltB rfl) rfl rfl) rfl (ltB rfl) (fun hq_58 => op_move lb (HasO.cnd (.tmp rfl) (notT (notF hq_58)))) ?_
       rcases iteB_inv hx50 with ⟨hc60, hx50⟩ | ⟨hc60, hx50⟩
       · refine JL.sk ((Guard.eqB (Guard.cT (q := (!v_54)) (ltB rfl) rfl rfl) (andFL (notF' hc60)))) <| JL.sk ((Guard.eqB (Guard.cT (q := (!v_54)) (ltB rfl) rfl rfl) (andFL (notF' hc60)))) <| JL.sk ((Guard.eqB (Guard.cT (q := (!v_54)) (ltB rfl) rfl rfl) (andFL (notF' hc60)))) <| JL.sk ((Guard.eqB (Guard.cT (q := (!v_54)) (ltB rfl) rfl rfl) (andFL (notF' hc60)))) <| JL.sk ((Guard.eqB (Guard.cT (q := (!v_54)) (ltB rfl) rfl rfl) (andFL (notF' hc60)))) ?_
         refine JL.sk ((Guard.eqB (Guard.cT (q := (!v_54)) (ltB rfl) rfl rfl) (andFL (notF' hc60)))) <| JL.sk ((Guard.eqB (Guard.cT (q := (!v_54)) (ltB rfl) rfl rfl) (andFL (notF' hc60)))) <| JL.sk ((Guard.eqB (Guard.cT (q := (!v_54)) (ltB rfl) rfl rfl) (andFL (notF' hc60)))) <| jk rfl hc60 <| jk rfl hc60 ?_
         refine jk rfl hc60 <| jc (op_pickT lb (.tmp rfl) hc60 .cB) <| JL.nil ?_
         try obtain rfl := so hx50
         exact JQ.join () (Imp.norm (js := [0]) rfl (.cons rfl (.cons rfl (.cons rfl (.cons rfl (.cons rfl (.cons rfl .nil)))))))
       rcases iteB_inv hx50 with ⟨hc62, hx50⟩ | ⟨hc62, hx50⟩
       · refine JL.run ((Guard.eqB (Guard.cT (q := (!v_54)) (ltB rfl) rfl rfl) (andI (notT hc60) hc62))) (op_fieldAddr (off := 92) lb tf39_11 (.tmp rfl)) ?_
         refine JL.run ((Guard.eqB (Guard.cT (q := (!v_54)) (ltB rfl) rfl rfl) (andI (notT hc60) hc62))) (op_loadS (j := 0) lb tS37 (.tmp rfl) rfl (cT (comp_api_Frame_Buckets t_1) rfl) rfl rfl) ?_
         refine JL.run ((Guard.eqB (Guard.cT (q := (!v_54)) (ltB rfl) rfl rfl) (andI (notT hc60) hc62))) (op_move lb (.tmp rfl)) ?_
         obtain ⟨v_56, hv_56, hx50⟩ := lt1_inv hx50
         refine JL.run ((Guard.eqB (Guard.cT (q := (!v_54)) (ltB rfl) rfl rfl) (andI (notT hc60) hc62))) (op_arI lb (.tmp rfl) .cI (cs hv_56)) ?_
         obtain ⟨v_57, hv_57, hx50⟩ := bnd_inv hx50
         refine JL.run ((Guard.eqB (Guard.cT (q := (!v_54)) (ltB rfl) rfl rfl) (andI (notT hc60) hc62))) (op_indexAddrLg lb tu37 tz3 (.tmp rfl) (.tmp rfl) hv_57) ?_
         refine JL.run ((Guard.eqB (Guard.cT (q := (!v_54)) (ltB rfl) rfl rfl) (andI (notT hc60) hc62))) (op_loadPSg lb tS3 rfl (.tmp rfl) rfl) ?_
         refine JL.sub ⟨[(1, ov (PTR gb_2 0)), (3, ov (CLO 29 [])), (7, ov (S (rI .i64) v_51)), (116, ov (S (rL (rI .i64)) t_1.Buckets)), (117, ov (S (rI .i64) (List.length t_1.Buckets : Int))), (118, ov (S (rI .i64) x_49)), (129, ov (S rB v_54)), (130, bif (!v_54) then ov (CLO 29 []) else .one .und), (131, bif (!v_54) then ov (S (rI .i64) x_49) else .one .und), (134, bif (!v_54) then ov (S rB v_55) else .one .und), (140, ov (S (rI .i64) v_57))], [cvar gb_2 r_api_Frame t_1], []⟩ (.cons rfl (.cons rfl (.cons rfl (.cons rfl (.cons rfl (.cons rfl (.cons rfl (.cons rfl (.cons rfl (.cons rfl (.cons rfl .nil))))))))))) rfl rfl ?_
         refine JL.run ((Guard.eqB (Guard.cT (q := (!v_54)) (ltB rfl) rfl rfl) (andI (notT hc60) hc62))) (op_move lb (.tmp rfl)) ?_
         obtain ⟨v_58, hv_58, hx50⟩ := lt1_inv hx50
         refine JL.run ((Guard.eqB (Guard.cT (q := (!v_54)) (ltB rfl) rfl rfl) (andI (notT hc60) hc62))) (op_cmpI lb (.tmp rfl) (.tmp rfl) (cs hv_58)) ?_
         refine JL.run (.yes rfl (ltB rfl) rfl hc60) (op_pickT lb (HasO.cnd (.tmp rfl) (notT hc60)) hc62 (.tmp rfl)) ?_
         obtain ⟨v_59, hv_59, hx50⟩ := bnd_inv hx50
         refine JL.runX (.yes rfl (ltB rfl) rfl hc60) (op_call (js := []) ld cl29 (sim_frame_May_1 k x_49 v_58 v_59 hv_59) (HasO.cnd (.tmp rfl) (notT hc60)) (.cons (HasO.cnd (.tmp rfl) (notT hc60)) (.cons (.tmp rfl) .nil)) rfl) (fun _ => ?_)
         obtain ⟨v_60, hv_60, hx50⟩ := lt1_inv hx50
         refine JL.run (.yes rfl (ltB rfl) rfl hc60) (op_not lb (.tmp rfl) hv_60) ?_
         refine jc (op_pickF lb (.tmp rfl) hc60 (.tmp rfl)) <| JL.nil ?_
         try obtain rfl := so hx50
         exact JQ.join () (Imp.norm (js := [0]) rfl (.cons rfl (.cons rfl (.cons rfl (.cons rfl (.cons rfl (.cons rfl .nil)))))))
       refine JL.sk ((Guard.eqB (Guard.cT (q := (!v_54)) (ltB rfl) rfl rfl) (andFR hc62))) <| JL.sk ((Guard.eqB (Guard.cT (q := (!v_54)) (ltB rfl) rfl rfl) (andFR hc62))) <| JL.sk ((Guard.eqB (Guard.cT (q := (!v_54)) (ltB rfl) rfl rfl) (andFR hc62))) <| JL.sk ((Guard.eqB (Guard.cT (q := (!v_54)) (ltB rfl) rfl rfl) (andFR hc62))) <| JL.sk ((Guard.eqB (Guard.cT (q := (!v_54)) (ltB rfl) rfl rfl) (andFR hc62))) ?_
       refine JL.sk ((Guard.eqB (Guard.cT (q := (!v_54)) (ltB rfl) rfl rfl) (andFR hc62))) <| JL.sk ((Guard.eqB (Guard.cT (q := (!v_54)) (ltB rfl) rfl rfl) (andFR hc62))) <| JL.sk ((Guard.eqB (Guard.cT (q := (!v_54)) (ltB rfl) rfl rfl) (andFR hc62))) ?_
       refine JL.run (.yes rfl (ltB rfl) rfl hc60) (op_pickF lb (HasO.cnd (.tmp rfl) (notT hc60)) hc62 .cB) ?_
       obtain ⟨v_61, hv_61, hx50⟩ := bnd_inv hx50
       refine JL.runX (.yes rfl (ltB rfl) rfl hc60) (op_call (js := []) ld cl29 (sim_frame_May_1 k x_49 false v_61 hv_61) (HasO.cnd (.tmp rfl) (notT hc60)) (.cons (HasO.cnd (.tmp rfl) (notT hc60)) (.cons (.tmp rfl) .nil)) rfl) (fun _ => ?_)
       obtain ⟨v_62, hv_62, hx50⟩ := lt1_inv hx50
       refine JL.run (.yes rfl (ltB rfl) rfl hc60) (op_not lb (.tmp rfl) hv_62) ?_
       refine jc (op_pickF lb (.tmp rfl) hc60 (.tmp rfl)) <| JL.nil ?_
       try obtain rfl := so hx50
       exact JQ.join () (Imp.norm (js := [0]) rfl (.cons rfl (.cons rfl (.cons rfl (.cons rfl (.cons rfl (.cons rfl .nil)))))))
     refine JC.condF (.tmp rfl) hc49 ?_
     refine JC.exit ?_
     refine JQ.outX ?_
     try obtain rfl := so hx
     have ht := hr _ rfl
     clear hr
     first | subst ht | clear ht
     dsimp only at hq48
     refine JQ.outX ?_
     refine JQ.here ?_
     try obtain rfl := so hq48
     exact JQ.joinK () () rfl (Imp.norm (js := [0]) rfl (.cons rfl (.cons rfl .nil)))
   refine JC.condF (.tmp rfl) hc46 ?_
   refine JC.skip ?_
   refine JQ.outNB ?_
   try obtain rfl := so hx17
   exact JQ.joinK () () rfl (Imp.norm (js := []) rfl .nil)
 obtain ⟨v_3, hv_3, hx1⟩ := lt1_inv hx1
 rcases iteB_inv hx1 with ⟨hc3, hx1⟩ | ⟨hc3, hx1⟩
 · refine JC.anyF (base := [(1, ov (PTR gb_2 0))])
       (fs := fun γ => [⟨some 10, ov (PTR gb_2 (0 + 1))⟩, ⟨some 11, ov (S (rI .i64) t_1.From)⟩, ⟨some 12, ov (S rB v_3)⟩, ⟨some 13, ov (S rB v_3)⟩, ⟨some 14, .one .und⟩, ⟨some 15, .one .und⟩, ⟨some 16, .one .und⟩, ⟨some 17, ov (S rB true)⟩, ⟨some 18, ov (S rB true)⟩, ⟨some 19, .one .und⟩, ⟨some 20, .one .und⟩, ⟨some 21, .one .und⟩, ⟨some 22, ov (S rB true)⟩, ⟨some 23, ov (S rB true)⟩, ⟨some 24, .one .und⟩, ⟨some 25, .one .und⟩, ⟨some 26, .one .und⟩, ⟨some 27, ov (S rB true)⟩, ⟨some 28, ov (S rB true)⟩, ⟨some 29, .one .und⟩, ⟨some 30, .one .und⟩, ⟨some 31, .one .und⟩, ⟨some 32, .one .und⟩, ⟨some 33, .one .und⟩, ⟨some 34, ov (S rB true)⟩, ⟨some 35, ov (S rB true)⟩, ⟨some 36, .one .und⟩, ⟨some 37, .one .und⟩, ⟨some 38, .one .und⟩, ⟨some 39, .one .und⟩, ⟨some 40, .one .und⟩, ⟨some 41, ov (S rB true)⟩])
       (rs := fun γ => [⟨cvar gb_2 r_api_Frame t_1, none, none, [1]⟩])
       (afts := nn 32) (js := [0]) mixed (.cons rfl .nil) (fun _ => rfl)
       (by
      refine dS 1 (fun γ ρ B hb hd => op_fieldAddr (off := 1) lb tf39_1 (.tmp (hb 1 _ rfl))) <| dR 2 (fun γ ρ B hb hd => OpStep.lk ⟨ρ, (cvar gb_2 r_api_Frame t_1) :: B, _⟩ (op_loadS (j := 0) lb tS3 (tl hd 0 10) rfl (cT (comp_api_Frame_From t_1) rfl) rfl rfl)) <| dS 3 (fun γ ρ B hb hd => op_cmpI lb (tl hd 1 11) .cI (cs hv_3)) <| dm 4 2 12 <| kn 5 3 13 rfl hc3 ?_
      refine kn 6 3 13 rfl hc3 <| kn 7 3 13 rfl hc3 <| dS 8 (fun γ ρ B hb hd => op_pickT lb (tl hd 3 13) hc3 .cB) <| dm 9 7 17 <| kn 10 8 18 rfl rfl ?_
      refine kn 11 8 18 rfl rfl <| kn 12 8 18 rfl rfl <| dS 13 (fun γ ρ B hb hd => op_pickT lb (tl hd 8 18) rfl .cB) <| dm 14 12 22 <| kn 15 13 23 rfl rfl ?_
      refine kn 16 13 23 rfl rfl <| kn 17 13 23 rfl rfl <| dS 18 (fun γ ρ B hb hd => op_pickT lb (tl hd 13 23) rfl .cB) <| dm 19 17 27 <| kn 20 18 28 rfl rfl ?_
      refine kn 21 18 28 rfl rfl <| kn 22 18 28 rfl rfl <| kn 23 18 28 rfl rfl <| kn 24 18 28 rfl rfl <| dS 25 (fun γ ρ B hb hd => op_pickT lb (tl hd 18 28) rfl .cB) ?_
      refine dm 26 24 34 <| kn 27 25 35 rfl rfl <| kn 28 25 35 rfl rfl <| kn 29 25 35 rfl rfl <| kn 30 25 35 rfl rfl ?_
      refine kn 31 25 35 rfl rfl <| dS 32 (fun γ ρ B hb hd => op_pickT lb (tl hd 25 35) rfl .cB) ?_
      exact DSteps.nil)
       (by decide +kernel) (fun _ => rfl) (fun _ => rfl) (fun _ => rfl) rfl
       (ρ' := fun γ => [(1, ov (PTR gb_2 0)), (41, ov (S rB true))])
       (X' := fun γ => [cvar gb_2 r_api_Frame t_1])
       (fun γ ρ hb hd => (.cons (hb 1 _ rfl) (.cons (hdq hd 31 41 rfl) .nil))) (fun _ => rfl) (fun γ => ?_)
   refine JQ.at ⟨[(1, ov (PTR gb_2 0)), (41, ov (S rB true))], [cvar gb_2 r_api_Frame t_1], []⟩ ?_
   try obtain rfl := so hx1
   exact JQ.join () (Imp.norm (js := [0]) rfl (.cons rfl (.cons rfl .nil)))
 obtain ⟨v_4, hv_4, hx1⟩ := lt1_inv hx1
 rcases iteB_inv hx1 with ⟨hc5, hx1⟩ | ⟨hc5, hx1⟩
 · refine JC.anyF (base := [(1, ov (PTR gb_2 0))])
       (fs := fun γ => [⟨some 10, ov (PTR gb_2 (0 + 1))⟩, ⟨some 11, ov (S (rI .i64) t_1.From)⟩, ⟨some 12, ov (S rB v_3)⟩, ⟨some 13, ov (S rB v_3)⟩, ⟨some 14, ov (PTR gb_2 (0 + 1))⟩, ⟨some 15, ov (S (rI .i64) t_1.From)⟩, ⟨some 16, ov (S rB v_4)⟩, ⟨some 17, ov (S rB v_4)⟩, ⟨some 18, ov (S rB v_4)⟩, ⟨some 19, .one .und⟩, ⟨some 20, .one .und⟩, ⟨some 21, .one .und⟩, ⟨some 22, ov (S rB true)⟩, ⟨some 23, ov (S rB true)⟩, ⟨some 24, .one .und⟩, ⟨some 25, .one .und⟩, ⟨some 26, .one .und⟩, ⟨some 27, ov (S rB true)⟩, ⟨some 28, ov (S rB true)⟩, ⟨some 29, .one .und⟩, ⟨some 30, .one .und⟩, ⟨some 31, .one .und⟩, ⟨some 32, .one .und⟩, ⟨some 33, .one .und⟩, ⟨some 34, ov (S rB true)⟩, ⟨some 35, ov (S rB true)⟩, ⟨some 36, .one .und⟩, ⟨some 37, .one .und⟩, ⟨some 38, .one .und⟩, ⟨some 39, .one .und⟩, ⟨some 40, .one .und⟩, ⟨some 41, ov (S rB true)⟩])
       (rs := fun γ => [⟨cvar gb_2 r_api_Frame t_1, none, none, [1, 5]⟩])
       (afts := nn 32) (js := [0]) mixed (.cons rfl .nil) (fun _ => rfl)
       (by
      refine dS 1 (fun γ ρ B hb hd => op_fieldAddr (off := 1) lb tf39_1 (.tmp (hb 1 _ rfl))) <| dR 2 (fun γ ρ B hb hd => OpStep.lk ⟨ρ, (cvar gb_2 r_api_Frame t_1) :: B, _⟩ (op_loadS (j := 0) lb tS3 (tl hd 0 10) rfl (cT (comp_api_Frame_From t_1) rfl) rfl rfl)) <| dS 3 (fun γ ρ B hb hd => op_cmpI lb (tl hd 1 11) .cI (cs hv_3)) <| dm 4 2 12 <| dY 5 (fun γ ρ B hb hd => ⟨.yes rfl (ltB rfl) (hl hd 3 13 rfl) hc3, lkB (op_fieldAddr (off := 1) lb tf39_1 (.tmp (hb 1 _ rfl)))⟩) ?_
      refine dY 6 (fun γ ρ B hb hd => ⟨.yes rfl (ltB rfl) (hl hd 3 13 rfl) hc3, OpStep.lk ⟨ρ, (cvar gb_2 r_api_Frame t_1) :: B, _⟩ (op_loadS (j := 0) lb tS3 (tl hd 4 14) rfl (cT (comp_api_Frame_From t_1) rfl) rfl rfl)⟩) <| dY 7 (fun γ ρ B hb hd => ⟨.yes rfl (ltB rfl) (hl hd 3 13 rfl) hc3, lkB (op_cmpI lb (tl hd 5 15) .cI (cs hv_4))⟩) <| dS 8 (fun γ ρ B hb hd => op_pickF lb (tl hd 3 13) hc3 (tl hd 6 16)) <| dm 9 7 17 <| kn 10 8 18 rfl hc5 ?_
      refine kn 11 8 18 rfl hc5 <| kn 12 8 18 rfl hc5 <| dS 13 (fun γ ρ B hb hd => op_pickT lb (tl hd 8 18) hc5 .cB) <| dm 14 12 22 <| kn 15 13 23 rfl rfl ?_
      refine kn 16 13 23 rfl rfl <| kn 17 13 23 rfl rfl <| dS 18 (fun γ ρ B hb hd => op_pickT lb (tl hd 13 23) rfl .cB) <| dm 19 17 27 <| kn 20 18 28 rfl rfl ?_
      refine kn 21 18 28 rfl rfl <| kn 22 18 28 rfl rfl <| kn 23 18 28 rfl rfl <| kn 24 18 28 rfl rfl <| dS 25 (fun γ ρ B hb hd => op_pickT lb (tl hd 18 28) rfl .cB) ?_
      refine dm 26 24 34 <| kn 27 25 35 rfl rfl <| kn 28 25 35 rfl rfl <| kn 29 25 35 rfl rfl <| kn 30 25 35 rfl rfl ?_
      refine kn 31 25 35 rfl rfl <| dS 32 (fun γ ρ B hb hd => op_pickT lb (tl hd 25 35) rfl .cB) ?_
      exact DSteps.nil)
       (by decide +kernel) (fun _ => rfl) (fun _ => rfl) (fun _ => rfl) rfl
       (ρ' := fun γ => [(1, ov (PTR gb_2 0)), (41, ov (S rB true))])
       (X' := fun γ => [cvar gb_2 r_api_Frame t_1])
       (fun γ ρ hb hd => (.cons (hb 1 _ rfl) (.cons (hdq hd 31 41 rfl) .nil))) (fun _ => rfl) (fun γ => ?_)
   refine JQ.at ⟨[(1, ov (PTR gb_2 0)), (41, ov (S rB true))], [cvar gb_2 r_api_Frame t_1], []⟩ ?_
   try obtain rfl := so hx1
   exact JQ.join () (Imp.norm (js := [0]) rfl (.cons rfl (.cons rfl .nil)))
 obtain ⟨v_5, hv_5, hx1⟩ := lt1_inv hx1
 rcases iteB_inv hx1 with ⟨hc7, hx1⟩ | ⟨hc7, hx1⟩
 · refine JC.anyF (base := [(1, ov (PTR gb_2 0))])
       (fs := fun γ => [⟨some 10, ov (PTR gb_2 (0 + 1))⟩, ⟨some 11, ov (S (rI .i64) t_1.From)⟩, ⟨some 12, ov (S rB v_3)⟩, ⟨some 13, ov (S rB v_3)⟩, ⟨some 14, ov (PTR gb_2 (0 + 1))⟩, ⟨some 15, ov (S (rI .i64) t_1.From)⟩, ⟨some 16, ov (S rB v_4)⟩, ⟨some 17, ov (S rB v_4)⟩, ⟨some 18, ov (S rB v_4)⟩, ⟨some 19, ov (PTR gb_2 (0 + 2))⟩, ⟨some 20, ov (S (rI .i64) t_1.To)⟩, ⟨some 21, ov (S rB v_5)⟩, ⟨some 22, ov (S rB v_5)⟩, ⟨some 23, ov (S rB v_5)⟩, ⟨some 24, .one .und⟩, ⟨some 25, .one .und⟩, ⟨some 26, .one .und⟩, ⟨some 27, ov (S rB true)⟩, ⟨some 28, ov (S rB true)⟩, ⟨some 29, .one .und⟩, ⟨some 30, .one .und⟩, ⟨some 31, .one .und⟩, ⟨some 32, .one .und⟩, ⟨some 33, .one .und⟩, ⟨some 34, ov (S rB true)⟩, ⟨some 35, ov (S rB true)⟩, ⟨some 36, .one .und⟩, ⟨some 37, .one .und⟩, ⟨some 38, .one .und⟩, ⟨some 39, .one .und⟩, ⟨some 40, .one .und⟩, ⟨some 41, ov (S rB true)⟩])
       (rs := fun γ => [⟨cvar gb_2 r_api_Frame t_1, none, none, [1, 5, 10]⟩])
       (afts := nn 32) (js := [0]) mixed (.cons rfl .nil) (fun _ => rfl)
       (by
      refine dS 1 (fun γ ρ B hb hd => op_fieldAddr (off := 1) lb tf39_1 (.tmp (hb 1 _ rfl))) <| dR 2 (fun γ ρ B hb hd => OpStep.lk ⟨ρ, (cvar gb_2 r_api_Frame t_1) :: B, _⟩ (op_loadS (j := 0) lb tS3 (tl hd 0 10) rfl (cT (comp_api_Frame_From t_1) rfl) rfl rfl)) <| dS 3 (fun γ ρ B hb hd => op_cmpI lb (tl hd 1 11) .cI (cs hv_3)) <| dm 4 2 12 <| dY 5 (fun γ ρ B hb hd => ⟨.yes rfl (ltB rfl) (hl hd 3 13 rfl) hc3, lkB (op_fieldAddr (off := 1) lb tf39_1 (.tmp (hb 1 _ rfl)))⟩) ?_
      refine dY 6 (fun γ ρ B hb hd => ⟨.yes rfl (ltB rfl) (hl hd 3 13 rfl) hc3, OpStep.lk ⟨ρ, (cvar gb_2 r_api_Frame t_1) :: B, _⟩ (op_loadS (j := 0) lb tS3 (tl hd 4 14) rfl (cT (comp_api_Frame_From t_1) rfl) rfl rfl)⟩) <| dY 7 (fun γ ρ B hb hd => ⟨.yes rfl (ltB rfl) (hl hd 3 13 rfl) hc3, lkB (op_cmpI lb (tl hd 5 15) .cI (cs hv_4))⟩) <| dS 8 (fun γ ρ B hb hd => op_pickF lb (tl hd 3 13) hc3 (tl hd 6 16)) <| dm 9 7 17 <| dY 10 (fun γ ρ B hb hd => ⟨.yes rfl (ltB rfl) (hl hd 8 18 rfl) hc5, lkB (op_fieldAddr (off := 2) lb tf39_2 (.tmp (hb 1 _ rfl)))⟩) ?_
      refine dY 11 (fun γ ρ B hb hd => ⟨.yes rfl (ltB rfl) (hl hd 8 18 rfl) hc5, OpStep.lk ⟨ρ, (cvar gb_2 r_api_Frame t_1) :: B, _⟩ (op_loadS (j := 0) lb tS3 (tl hd 9 19) rfl (cT (comp_api_Frame_To t_1) rfl) rfl rfl)⟩) <| dY 12 (fun γ ρ B hb hd => ⟨.yes rfl (ltB rfl) (hl hd 8 18 rfl) hc5, lkB (op_cmpI lb (tl hd 10 20) .cI (cs hv_5))⟩) <| dS 13 (fun γ ρ B hb hd => op_pickF lb (tl hd 8 18) hc5 (tl hd 11 21)) <| dm 14 12 22 <| kn 15 13 23 rfl hc7 ?_
      refine kn 16 13 23 rfl hc7 <| kn 17 13 23 rfl hc7 <| dS 18 (fun γ ρ B hb hd => op_pickT lb (tl hd 13 23) hc7 .cB) <| dm 19 17 27 <| kn 20 18 28 rfl rfl ?_
      refine kn 21 18 28 rfl rfl <| kn 22 18 28 rfl rfl <| kn 23 18 28 rfl rfl <| kn 24 18 28 rfl rfl <| dS 25 (fun γ ρ B hb hd => op_pickT lb (tl hd 18 28) rfl .cB) ?_
      refine dm 26 24 34 <| kn 27 25 35 rfl rfl <| kn 28 25 35 rfl rfl <| kn 29 25 35 rfl rfl <| kn 30 25 35 rfl rfl ?_
      refine kn 31 25 35 rfl rfl <| dS 32 (fun γ ρ B hb hd => op_pickT lb (tl hd 25 35) rfl .cB) ?_
      exact DSteps.nil)
       (by decide +kernel) (fun _ => rfl) (fun _ => rfl) (fun _ => rfl) rfl
       (ρ' := fun γ => [(1, ov (PTR gb_2 0)), (41, ov (S rB true))])
       (X' := fun γ => [cvar gb_2 r_api_Frame t_1])
       (fun γ ρ hb hd => (.cons (hb 1 _ rfl) (.cons (hdq hd 31 41 rfl) .nil))) (fun _ => rfl) (fun γ => ?_)
   refine JQ.at ⟨[(1, ov (PTR gb_2 0)), (41, ov (S rB true))], [cvar gb_2 r_api_Frame t_1], []⟩ ?_
   try obtain rfl := so hx1
   exact JQ.join () (Imp.norm (js := [0]) rfl (.cons rfl (.cons rfl .nil)))
 obtain ⟨v_6, hv_6, hx1⟩ := lt1_inv hx1
 rcases iteB_inv hx1 with ⟨hc9, hx1⟩ | ⟨hc9, hx1⟩
 · refine JC.anyF (base := [(1, ov (PTR gb_2 0))])
       (fs := fun γ => [⟨some 10, ov (PTR gb_2 (0 + 1))⟩, ⟨some 11, ov (S (rI .i64) t_1.From)⟩, ⟨some 12, ov (S rB v_3)⟩, ⟨some 13, ov (S rB v_3)⟩, ⟨some 14, ov (PTR gb_2 (0 + 1))⟩, ⟨some 15, ov (S (rI .i64) t_1.From)⟩, ⟨some 16, ov (S rB v_4)⟩, ⟨some 17, ov (S rB v_4)⟩, ⟨some 18, ov (S rB v_4)⟩, ⟨some 19, ov (PTR gb_2 (0 + 2))⟩, ⟨some 20, ov (S (rI .i64) t_1.To)⟩, ⟨some 21, ov (S rB v_5)⟩, ⟨some 22, ov (S rB v_5)⟩, ⟨some 23, ov (S rB v_5)⟩, ⟨some 24, ov (PTR gb_2 (0 + 2))⟩, ⟨some 25, ov (S (rI .i64) t_1.To)⟩, ⟨some 26, ov (S rB v_6)⟩, ⟨some 27, ov (S rB v_6)⟩, ⟨some 28, ov (S rB v_6)⟩, ⟨some 29, .one .und⟩, ⟨some 30, .one .und⟩, ⟨some 31, .one .und⟩, ⟨some 32, .one .und⟩, ⟨some 33, .one .und⟩, ⟨some 34, ov (S rB true)⟩, ⟨some 35, ov (S rB true)⟩, ⟨some 36, .one .und⟩, ⟨some 37, .one .und⟩, ⟨some 38, .one .und⟩, ⟨some 39, .one .und⟩, ⟨some 40, .one .und⟩, ⟨some 41, ov (S rB true)⟩])
       (rs := fun γ => [⟨cvar gb_2 r_api_Frame t_1, none, none, [1, 5, 10, 15]⟩])
       (afts := nn 32) (js := [0]) mixed (.cons rfl .nil) (fun _ => rfl)
       (by
      refine dS 1 (fun γ ρ B hb hd => op_fieldAddr (off := 1) lb tf39_1 (.tmp (hb 1 _ rfl))) <| dR 2 (fun γ ρ B hb hd => OpStep.lk ⟨ρ, (cvar gb_2 r_api_Frame t_1) :: B, _⟩ (op_loadS (j := 0) lb tS3 (tl hd 0 10) rfl (cT (comp_api_Frame_From t_1) rfl) rfl rfl)) <| dS 3 (fun γ ρ B hb hd => op_cmpI lb (tl hd 1 11) .cI (cs hv_3)) <| dm 4 2 12 <| dY 5 (fun γ ρ B hb hd => ⟨.yes rfl (ltB rfl) (hl hd 3 13 rfl) hc3, lkB (op_fieldAddr (off := 1) lb tf39_1 (.tmp (hb 1 _ rfl)))⟩) ?_
      refine dY 6 (fun γ ρ B hb hd => ⟨.yes rfl (ltB rfl) (hl hd 3 13 rfl) hc3, OpStep.lk ⟨ρ, (cvar gb_2 r_api_Frame t_1) :: B, _⟩ (op_loadS (j := 0) lb tS3 (tl hd 4 14) rfl (cT (comp_api_Frame_From t_1) rfl) rfl rfl)⟩) <| dY 7 (fun γ ρ B hb hd => ⟨.yes rfl (ltB rfl) (hl hd 3 13 rfl) hc3, lkB (op_cmpI lb (tl hd 5 15) .cI (cs hv_4))⟩) <| dS 8 (fun γ ρ B hb hd => op_pickF lb (tl hd 3 13) hc3 (tl hd 6 16)) <| dm 9 7 17 <| dY 10 (fun γ ρ B hb hd => ⟨.yes rfl (ltB rfl) (hl hd 8 18 rfl) hc5, lkB (op_fieldAddr (off := 2) lb tf39_2 (.tmp (hb 1 _ rfl)))⟩) ?_
      refine dY 11 (fun γ ρ B hb hd => ⟨.yes rfl (ltB rfl) (hl hd 8 18 rfl) hc5, OpStep.lk ⟨ρ, (cvar gb_2 r_api_Frame t_1) :: B, _⟩ (op_loadS (j := 0) lb tS3 (tl hd 9 19) rfl (cT (comp_api_Frame_To t_1) rfl) rfl rfl)⟩) <| dY 12 (fun γ ρ B hb hd => ⟨.yes rfl (ltB rfl) (hl hd 8 18 rfl) hc5, lkB (op_cmpI lb (tl hd 10 20) .cI (cs hv_5))⟩) <| dS 13 (fun γ ρ B hb hd => op_pickF lb (tl hd 8 18) hc5 (tl hd 11 21)) <| dm 14 12 22 <| dY 15 (fun γ ρ B hb hd => ⟨.yes rfl (ltB rfl) (hl hd 13 23 rfl) hc7, lkB (op_fieldAddr (off := 2) lb tf39_2 (.tmp (hb 1 _ rfl)))⟩) ?_
      refine dY 16 (fun γ ρ B hb hd => ⟨.yes rfl (ltB rfl) (hl hd 13 23 rfl) hc7, OpStep.lk ⟨ρ, (cvar gb_2 r_api_Frame t_1) :: B, _⟩ (op_loadS (j := 0) lb tS3 (tl hd 14 24) rfl (cT (comp_api_Frame_To t_1) rfl) rfl rfl)⟩) <| dY 17 (fun γ ρ B hb hd => ⟨.yes rfl (ltB rfl) (hl hd 13 23 rfl) hc7, lkB (op_cmpI lb (tl hd 15 25) .cI (cs hv_6))⟩) <| dS 18 (fun γ ρ B hb hd => op_pickF lb (tl hd 13 23) hc7 (tl hd 16 26)) <| dm 19 17 27 <| kn 20 18 28 rfl hc9 ?_
      refine kn 21 18 28 rfl hc9 <| kn 22 18 28 rfl hc9 <| kn 23 18 28 rfl hc9 <| kn 24 18 28 rfl hc9 <| dS 25 (fun γ ρ B hb hd => op_pickT lb (tl hd 18 28) hc9 .cB) ?_
      refine dm 26 24 34 <| kn 27 25 35 rfl rfl <| kn 28 25 35 rfl rfl <| kn 29 25 35 rfl rfl <| kn 30 25 35 rfl rfl ?_
      refine kn 31 25 35 rfl rfl <| dS 32 (fun γ ρ B hb hd => op_pickT lb (tl hd 25 35) rfl .cB) ?_
      exact DSteps.nil)
       (by decide +kernel) (fun _ => rfl) (fun _ => rfl) (fun _ => rfl) rfl
       (ρ' := fun γ => [(1, ov (PTR gb_2 0)), (41, ov (S rB true))])
       (X' := fun γ => [cvar gb_2 r_api_Frame t_1])
       (fun γ ρ hb hd => (.cons (hb 1 _ rfl) (.cons (hdq hd 31 41 rfl) .nil))) (fun _ => rfl) (fun γ => ?_)
   refine JQ.at ⟨[(1, ov (PTR gb_2 0)), (41, ov (S rB true))], [cvar gb_2 r_api_Frame t_1], []⟩ ?_
   try obtain rfl := so hx1
   exact JQ.join () (Imp.norm (js := [0]) rfl (.cons rfl (.cons rfl .nil)))
 obtain ⟨v_7, hv_7, hx1⟩ := lt1_inv hx1
 obtain ⟨v_8, hv_8, hx1⟩ := bnd_inv hx1
 obtain ⟨v_9, hv_9, hx1⟩ := bnd_inv hx1
 obtain ⟨v_10, hv_10, hx1⟩ := lt1_inv hx1
 obtain ⟨v_11, hv_11, hx1⟩ := lt1_inv hx1
 refine JC.anyF (base := [(1, ov (PTR gb_2 0))])
     (fs := fun γ => [⟨some 10, ov (PTR gb_2 (0 + 1))⟩, ⟨some 11, ov (S (rI .i64) t_1.From)⟩, ⟨some 12, ov (S rB v_3)⟩, ⟨some 13, ov (S rB v_3)⟩, ⟨some 14, ov (PTR gb_2 (0 + 1))⟩, ⟨some 15, ov (S (rI .i64) t_1.From)⟩, ⟨some 16, ov (S rB v_4)⟩, ⟨some 17, ov (S rB v_4)⟩, ⟨some 18, ov (S rB v_4)⟩, ⟨some 19, ov (PTR gb_2 (0 + 2))⟩, ⟨some 20, ov (S (rI .i64) t_1.To)⟩, ⟨some 21, ov (S rB v_5)⟩, ⟨some 22, ov (S rB v_5)⟩, ⟨some 23, ov (S rB v_5)⟩, ⟨some 24, ov (PTR gb_2 (0 + 2))⟩, ⟨some 25, ov (S (rI .i64) t_1.To)⟩, ⟨some 26, ov (S rB v_6)⟩, ⟨some 27, ov (S rB v_6)⟩, ⟨some 28, ov (S rB v_6)⟩, ⟨some 29, ov (PTR gb_2 (0 + 1))⟩, ⟨some 30, ov (S (rI .i64) t_1.From)⟩, ⟨some 31, ov (PTR gb_2 (0 + 2))⟩, ⟨some 32, ov (S (rI .i64) t_1.To)⟩, ⟨some 33, ov (S rB v_7)⟩, ⟨some 34, ov (S rB v_7)⟩, ⟨some 35, ov (S rB v_7)⟩, ⟨some 36, bif (!v_7) then ov (A r_api_Frame t_1) else .one .und⟩, ⟨some 37, bif (!v_7) then ov (A r_api_Frame t_1) else .one .und⟩, ⟨some 38, bif (!v_7) then ov (A r_api_Frame v_8) else .one .und⟩, ⟨some 39, bif (!v_7) then ov (S rB v_9) else .one .und⟩, ⟨some 40, bif (!v_7) then ov (S rB v_10) else .one .und⟩, ⟨some 41, ov (S rB v_11)⟩])
     (rs := fun γ => [⟨cvar gb_2 r_api_Frame t_1, none, none, [1, 5, 10, 15, 20, 22, 26, 27]⟩])
     (afts := nn 32) (js := [0]) mixed (.cons rfl .nil) (fun _ => rfl)
     (by
      refine dS 1 (fun γ ρ B hb hd => op_fieldAddr (off := 1) lb tf39_1 (.tmp (hb 1 _ rfl))) <| dR 2 (fun γ ρ B hb hd => OpStep.lk ⟨ρ, (cvar gb_2 r_api_Frame t_1) :: B, _⟩ (op_loadS (j := 0) lb tS3 (tl hd 0 10) rfl (cT (comp_api_Frame_From t_1) rfl) rfl rfl)) <| dS 3 (fun γ ρ B hb hd => op_cmpI lb (tl hd 1 11) .cI (cs hv_3)) <| dm 4 2 12 <| dY 5 (fun γ ρ B hb hd => ⟨.yes rfl (ltB rfl) (hl hd 3 13 rfl) hc3, lkB (op_fieldAddr (off := 1) lb tf39_1 (.tmp (hb 1 _ rfl)))⟩) ?_
      refine dY 6 (fun γ ρ B hb hd => ⟨.yes rfl (ltB rfl) (hl hd 3 13 rfl) hc3, OpStep.lk ⟨ρ, (cvar gb_2 r_api_Frame t_1) :: B, _⟩ (op_loadS (j := 0) lb tS3 (tl hd 4 14) rfl (cT (comp_api_Frame_From t_1) rfl) rfl rfl)⟩) <| dY 7 (fun γ ρ B hb hd => ⟨.yes rfl (ltB rfl) (hl hd 3 13 rfl) hc3, lkB (op_cmpI lb (tl hd 5 15) .cI (cs hv_4))⟩) <| dS 8 (fun γ ρ B hb hd => op_pickF lb (tl hd 3 13) hc3 (tl hd 6 16)) <| dm 9 7 17 <| dY 10 (fun γ ρ B hb hd => ⟨.yes rfl (ltB rfl) (hl hd 8 18 rfl) hc5, lkB (op_fieldAddr (off := 2) lb tf39_2 (.tmp (hb 1 _ rfl)))⟩) ?_
      refine dY 11 (fun γ ρ B hb hd => ⟨.yes rfl (ltB rfl) (hl hd 8 18 rfl) hc5, OpStep.lk ⟨ρ, (cvar gb_2 r_api_Frame t_1) :: B, _⟩ (op_loadS (j := 0) lb tS3 (tl hd 9 19) rfl (cT (comp_api_Frame_To t_1) rfl) rfl rfl)⟩) <| dY 12 (fun γ ρ B hb hd => ⟨.yes rfl (ltB rfl) (hl hd 8 18 rfl) hc5, lkB (op_cmpI lb (tl hd 10 20) .cI (cs hv_5))⟩) <| dS 13 (fun γ ρ B hb hd => op_pickF lb (tl hd 8 18) hc5 (tl hd 11 21)) <| dm 14 12 22 <| dY 15 (fun γ ρ B hb hd => ⟨.yes rfl (ltB rfl) (hl hd 13 23 rfl) hc7, lkB (op_fieldAddr (off := 2) lb tf39_2 (.tmp (hb 1 _ rfl)))⟩) ?_
      refine dY 16 (fun γ ρ B hb hd => ⟨.yes rfl (ltB rfl) (hl hd 13 23 rfl) hc7, OpStep.lk ⟨ρ, (cvar gb_2 r_api_Frame t_1) :: B, _⟩ (op_loadS (j := 0) lb tS3 (tl hd 14 24) rfl (cT (comp_api_Frame_To t_1) rfl) rfl rfl)⟩) <| dY 17 (fun γ ρ B hb hd => ⟨.yes rfl (ltB rfl) (hl hd 13 23 rfl) hc7, lkB (op_cmpI lb (tl hd 15 25) .cI (cs hv_6))⟩) <| dS 18 (fun γ ρ B hb hd => op_pickF lb (tl hd 13 23) hc7 (tl hd 16 26)) <| dm 19 17 27 <| dY 20 (fun γ ρ B hb hd => ⟨.yes rfl (ltB rfl) (hl hd 18 28 rfl) hc9, lkB (op_fieldAddr (off := 1) lb tf39_1 (.tmp (hb 1 _ rfl)))⟩) ?_
      refine dY 21 (fun γ ρ B hb hd => ⟨.yes rfl (ltB rfl) (hl hd 18 28 rfl) hc9, OpStep.lk ⟨ρ, (cvar gb_2 r_api_Frame t_1) :: B, _⟩ (op_loadS (j := 0) lb tS3 (tl hd 19 29) rfl (cT (comp_api_Frame_From t_1) rfl) rfl rfl)⟩) <| dY 22 (fun γ ρ B hb hd => ⟨.yes rfl (ltB rfl) (hl hd 18 28 rfl) hc9, lkB (op_fieldAddr (off := 2) lb tf39_2 (.tmp (hb 1 _ rfl)))⟩) <| dY 23 (fun γ ρ B hb hd => ⟨.yes rfl (ltB rfl) (hl hd 18 28 rfl) hc9, OpStep.lk ⟨ρ, (cvar gb_2 r_api_Frame t_1) :: B, _⟩ (op_loadS (j := 0) lb tS3 (tl hd 21 31) rfl (cT (comp_api_Frame_To t_1) rfl) rfl rfl)⟩) <| dY 24 (fun γ ρ B hb hd => ⟨.yes rfl (ltB rfl) (hl hd 18 28 rfl) hc9, lkB (op_cmpI lb (tl hd 20 30) (tl hd 22 32) (cs hv_7))⟩) <| dS 25 (fun γ ρ B hb hd => op_pickF lb (tl hd 18 28) hc9 (tl hd 23 33)) ?_
      refine dm 26 24 34 ?_
      refine DSteps.cons (j := 27) rfl (fun _ => rfl) (.cnd (q := (!v_7)) (sv := fun γ => ov (A r_api_Frame t_1)) (fun _ => rfl) (fun _ => rfl) (fun d h => by cases h; exact ltB rfl) (fun _ => rfl) (fun γ ρ B hb hd => ⟨(Guard.isF (ltB rfl) rfl (hl hd 25 35 rfl)), fun hq_10 => OpStep.lk ⟨ρ, (cvar gb_2 r_api_Frame t_1) :: B, _⟩ (op_loadA (j := 0) lb tA39 (.tmp (hb 1 _ rfl)) rfl (Comp.self r_api_Frame t_1) rfl)⟩)) ?_
      refine DSteps.cons (j := 28) rfl (fun _ => rfl) (.cnd (q := (!v_7)) (sv := fun γ => ov (A r_api_Frame t_1)) (fun _ => rfl) (fun _ => rfl) (fun d h => by cases h; exact ltB rfl) (fun _ => rfl) (fun γ ρ B hb hd => ⟨(Guard.isF (ltB rfl) rfl (hl hd 25 35 rfl)), fun hq_11 => OpStep.lk ⟨ρ, (cvar gb_2 r_api_Frame t_1) :: B, _⟩ (op_loadA (j := 0) lb tA39 (.tmp (hb 1 _ rfl)) rfl (Comp.self r_api_Frame t_1) rfl)⟩)) ?_
      refine dC 29 (!v_7) (fun γ => ov (A r_api_Frame v_8)) (fun γ ρ B hb hd => ⟨(Guard.isF (ltB rfl) rfl (hl hd 25 35 rfl)), fun hq_12 => (op_call (js := []) ld cl28 (sim_frame_bare k t_1 v_8 (ifT hv_8 hq_12)) .func (.cons (HasO.cnd (tl hd 27 37) (notT (notF hq_12))) .nil) rfl).post (fun _ => Imp.refl)⟩) ?_
      refine dC 30 (!v_7) (fun γ => ov (S rB v_9)) (fun γ ρ B hb hd => ⟨(Guard.isF (ltB rfl) rfl (hl hd 25 35 rfl)), fun hq_13 => (op_call (js := []) ld cl18 (sim_frame_Same k t_1 v_8 v_9 (ifT hv_9 hq_13)) .func (.cons (HasO.cnd (tl hd 26 36) (notT (notF hq_13))) (.cons (HasO.cnd (tl hd 28 38) (notT (notF hq_13))) .nil)) rfl).post (fun _ => Imp.refl)⟩) ?_
      refine dC 31 (!v_7) (fun γ => ov (S rB v_10)) (fun γ ρ B hb hd => ⟨(Guard.isF (ltB rfl) rfl (hl hd 25 35 rfl)), fun hq_14 => op_not lb (HasO.cnd (tl hd 29 39) (notT (notF hq_14))) hv_10⟩) ?_
      refine dS 32 (fun γ ρ B hb hd => op_pickCS lb (tl hd 25 35) (fun hb15 => .cB) (fun hb15 => (HasO.cnd (tl hd 30 40) (notT hb15))) hv_11) ?_
      exact DSteps.nil)
     (by decide +kernel) (fun _ => rfl) (fun _ => rfl) (fun _ => rfl) rfl
     (ρ' := fun γ => [(1, ov (PTR gb_2 0)), (41, ov (S rB v_11))])
     (X' := fun γ => [cvar gb_2 r_api_Frame t_1])
     (fun γ ρ hb hd => (.cons (hb 1 _ rfl) (.cons (hdq hd 31 41 rfl) .nil))) (fun _ => rfl) (fun γ => ?_)
 refine JQ.at ⟨[(1, ov (PTR gb_2 0)), (41, ov (S rB v_11))], [cvar gb_2 r_api_Frame t_1], []⟩ ?_
 try obtain rfl := so hx1
 exact JQ.join () (Imp.norm (js := [0]) rfl (.cons rfl (.cons rfl .nil)))

theorem sim_frame_forms (k : Nat) (r : (List (Int × frame_form))) (hm : frame_forms k = some r) : Sim Tryz.prog 54 [] [] (γ := Option Nat) (fun q => [cmap q (S (rI .i64)) (A r_frame_form) (some r)]) (fun q => .one (.val (MPV q))) := by
 unfold frame_forms at hm
 refine Sim.of Tryz.func54 rfl rfl (lE rfl) (fun e0 w0 => ?_)
 refine JC.at ⟨[], [], []⟩ ?_
 refine jr <| jc (op_assign lb (HasO.const (p := MPV none) fun _ => rfl)) <| jn <| jr ?_
 refine jx (op_makeMap lb (S (rI .i64)) (A r_frame_form)) (fun gb_1 => ?_)
 refine jc (op_build lb tZ95 zs95 tp95 (.S (off := 0) (s := rW (CLO 92 [])) (u := ()) rfl (HasO.wk (q := S (rW (CLO 92 [])) ()) .func wkV) rfl ((UpdR.fst (UpdR.self (by rfl))).at (by rfl)) (.S (off := 1) (s := rW (CLO 93 [])) (u := ()) rfl (HasO.wk (q := S (rW (CLO 93 [])) ()) .func wkV) rfl ((UpdR.snd (UpdR.fst (UpdR.self (by rfl)))).at (by rfl)) .nil)) rfl) ?_
 obtain ⟨x_2, hv_x_2, hm⟩ := lt1_inv hm
 refine jc (op_insert (j := 0) tu97 ky22 rfl (.tmp rfl) .cI (HasO.wk (q := A r_frame_form (frame_form.mk (some 92 : Option Nat) (some 93 : Option Nat))) (.tmp rfl) (wkAK (Wk.st (Wk.pair Wk.clo (Wk.pair Wk.clo Wk.refl))))) (congrArg (fun z => some (some z)) hv_x_2)) <| jc (op_build lb tZ95 zs95 tp95 (.S (off := 0) (s := rW (CLO 94 [])) (u := ()) rfl (HasO.wk (q := S (rW (CLO 94 [])) ()) .func wkV) rfl ((UpdR.fst (UpdR.self (by rfl))).at (by rfl)) (.S (off := 1) (s := rW (CLO 95 [])) (u := ()) rfl (HasO.wk (q := S (rW (CLO 95 [])) ()) .func wkV) rfl ((UpdR.snd (UpdR.fst (UpdR.self (by rfl)))).at (by rfl)) .nil)) rfl) ?_
 obtain ⟨x_3, hv_x_3, hm⟩ := lt1_inv hm
 refine jc (op_insert (j := 0) tu97 ky22 rfl (.tmp rfl) .cI (HasO.wk (q := A r_frame_form (frame_form.mk (some 94 : Option Nat) (some 95 : Option Nat))) (.tmp rfl) (wkAK (Wk.st (Wk.pair Wk.clo (Wk.pair Wk.clo Wk.refl))))) (congrArg (fun z => some (some z)) hv_x_3)) ?_
 refine JL.sub ⟨[(0, ov (MPV none)), (1, ov (MPV (some gb_1)))], [cmap (some gb_1) (S (rI .i64)) (A r_frame_form) (some x_3)], []⟩ (.cons rfl (.cons rfl .nil)) rfl rfl ?_
 refine jc (op_build lb tZ95 zs95 tp95 (.S (off := 0) (s := rW (CLO 96 [])) (u := ()) rfl (HasO.wk (q := S (rW (CLO 96 [])) ()) .func wkV) rfl ((UpdR.fst (UpdR.self (by rfl))).at (by rfl)) (.S (off := 1) (s := rW (CLO 97 [])) (u := ()) rfl (HasO.wk (q := S (rW (CLO 97 [])) ()) .func wkV) rfl ((UpdR.snd (UpdR.fst (UpdR.self (by rfl)))).at (by rfl)) .nil)) rfl) ?_
 obtain ⟨x_4, hv_x_4, hm⟩ := lt1_inv hm
 refine jc (op_insert (j := 0) tu97 ky22 rfl (.tmp rfl) .cI (HasO.wk (q := A r_frame_form (frame_form.mk (some 96 : Option Nat) (some 97 : Option Nat))) (.tmp rfl) (wkAK (Wk.st (Wk.pair Wk.clo (Wk.pair Wk.clo Wk.refl))))) (congrArg (fun z => some (some z)) hv_x_4)) <| jc (op_build lb tZ95 zs95 tp95 (.S (off := 0) (s := rW (CLO 98 [])) (u := ()) rfl (HasO.wk (q := S (rW (CLO 98 [])) ()) .func wkV) rfl ((UpdR.fst (UpdR.self (by rfl))).at (by rfl)) (.S (off := 1) (s := rW (CLO 99 [])) (u := ()) rfl (HasO.wk (q := S (rW (CLO 99 [])) ()) .func wkV) rfl ((UpdR.snd (UpdR.fst (UpdR.self (by rfl)))).at (by rfl)) .nil)) rfl) ?_
 obtain ⟨x_5, hv_x_5, hm⟩ := lt1_inv hm
 refine jc (op_insert (j := 0) tu97 ky22 rfl (.tmp rfl) .cI (HasO.wk (q := A r_frame_form (frame_form.mk (some 98 : Option Nat) (some 99 : Option Nat))) (.tmp rfl) (wkAK (Wk.st (Wk.pair Wk.clo (Wk.pair Wk.clo Wk.refl))))) (congrArg (fun z => some (some z)) hv_x_5)) <| jc (op_build lb tZ95 zs95 tp95 (.S (off := 0) (s := rW (CLO 100 [])) (u := ()) rfl (HasO.wk (q := S (rW (CLO 100 [])) ()) .func wkV) rfl ((UpdR.fst (UpdR.self (by rfl))).at (by rfl)) (.S (off := 1) (s := rW (CLO 101 [])) (u := ()) rfl (HasO.wk (q := S (rW (CLO 101 [])) ()) .func wkV) rfl ((UpdR.snd (UpdR.fst (UpdR.self (by rfl)))).at (by rfl)) .nil)) rfl) ?_
 obtain ⟨x_6, hv_x_6, hm⟩ := lt1_inv hm
 refine jc (op_insert (j := 0) tu97 ky22 rfl (.tmp rfl) .cI (HasO.wk (q := A r_frame_form (frame_form.mk (some 100 : Option Nat) (some 101 : Option Nat))) (.tmp rfl) (wkAK (Wk.st (Wk.pair Wk.clo (Wk.pair Wk.clo Wk.refl))))) (congrArg (fun z => some (some z)) hv_x_6)) ?_
 refine JL.sub ⟨[(0, ov (MPV none)), (1, ov (MPV (some gb_1)))], [cmap (some gb_1) (S (rI .i64)) (A r_frame_form) (some x_6)], []⟩ (.cons rfl (.cons rfl .nil)) rfl rfl ?_
 refine jc (op_build lb tZ95 zs95 tp95 (.S (off := 0) (s := rW (CLO 102 [])) (u := ()) rfl (HasO.wk (q := S (rW (CLO 102 [])) ()) .func wkV) rfl ((UpdR.fst (UpdR.self (by rfl))).at (by rfl)) (.S (off := 1) (s := rW (CLO 103 [])) (u := ()) rfl (HasO.wk (q := S (rW (CLO 103 [])) ()) .func wkV) rfl ((UpdR.snd (UpdR.fst (UpdR.self (by rfl)))).at (by rfl)) .nil)) rfl) ?_
 obtain ⟨x_7, hv_x_7, hm⟩ := lt1_inv hm
 refine jc (op_insert (j := 0) tu97 ky22 rfl (.tmp rfl) .cI (HasO.wk (q := A r_frame_form (frame_form.mk (some 102 : Option Nat) (some 103 : Option Nat))) (.tmp rfl) (wkAK (Wk.st (Wk.pair Wk.clo (Wk.pair Wk.clo Wk.refl))))) (congrArg (fun z => some (some z)) hv_x_7)) <| jc (op_build lb tZ95 zs95 tp95 (.S (off := 0) (s := rW (CLO 104 [])) (u := ()) rfl (HasO.wk (q := S (rW (CLO 104 [])) ()) .func wkV) rfl ((UpdR.fst (UpdR.self (by rfl))).at (by rfl)) (.S (off := 1) (s := rW (CLO 105 [])) (u := ()) rfl (HasO.wk (q := S (rW (CLO 105 [])) ()) .func wkV) rfl ((UpdR.snd (UpdR.fst (UpdR.self (by rfl)))).at (by rfl)) .nil)) rfl) ?_
 obtain ⟨x_8, hv_x_8, hm⟩ := lt1_inv hm
 refine jc (op_insert (j := 0) tu97 ky22 rfl (.tmp rfl) .cI (HasO.wk (q := A r_frame_form (frame_form.mk (some 104 : Option Nat) (some 105 : Option Nat))) (.tmp rfl) (wkAK (Wk.st (Wk.pair Wk.clo (Wk.pair Wk.clo Wk.refl))))) (congrArg (fun z => some (some z)) hv_x_8)) <| jmv rfl rfl <| jc (op_assign lb (.tmp rfl)) <| jn ?_
 refine JC.ret ?_
 obtain rfl := so hm
 exact JQ.done (js := [0]) (ss := [.val (MPV (some gb_1))]) (some gb_1) (.inl rfl) (.nil rfl) rfl (.cons (.tmp rfl) .nil) rfl rfl rfl

end Go.Proofs.YtklnihlchhhhlaaGreat
