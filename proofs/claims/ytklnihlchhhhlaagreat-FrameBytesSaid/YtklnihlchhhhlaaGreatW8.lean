/- Walks. -/
import Derived.Test.YtklnihlchhhhlaaGreatT
import Derived.Test.YtklnihlchhhhlaaGreatW0
import Derived.Test.YtklnihlchhhhlaaGreatW2
import Derived.Test.YtklnihlchhhhlaaGreatW4
import Derived.Test.YtklnihlchhhhlaaGreatW5
import Derived.Test.YtklnihlchhhhlaaGreatW7
namespace Go.Proofs.YtklnihlchhhhlaaGreat
open Go Fw
set_option linter.unusedVariables false
set_option maxRecDepth 100000
set_option maxHeartbeats 4000000

theorem sim_ref02_Sum (k : Nat) (b_1 : (List UInt8)) (r : UInt32) (hm : ref02_Sum k b_1 = some r) : Sim Tryz.prog 51 [S (rL (rU UInt8)) b_1] [] (γ := Unit) (fun q => []) (fun q => .one (.val (S (rU UInt32) r))) := by
 unfold ref02_Sum at hm
 refine Sim.of Tryz.func51 rfl rfl (lE rfl) (fun e0 w0 => ?_)
 refine JC.at ⟨[(0, ov (S (rL (rU UInt8)) b_1))], [], []⟩ <| jr <| jc (op_assign lb (HasO.cU (x := (0 : UInt32)) rfl (by decide))) <| jn <| jr <| jx (op_alloc lb tZ135 zr135) fun gb_2 => jn <| bI hm fun x_9 hx1 hq1 => JC.seqJ (γ := Unit) (stj := fun _ => ⟨[(0, ov (S (rL (rU UInt8)) b_1)), (3, ov (PTR gb_2 0))], [cvar gb_2 (rV 32 rB) x_9], []⟩) (fun _ => ?_) ?_
 · refine bI hq1 fun x_25 hx4 hq4 => JC.seqJ (γ := Unit) (stj := fun _ => ⟨[(3, ov (PTR gb_2 0))], [cvar gb_2 (rV 32 rB) x_25], []⟩) (fun _ => ?_) ?_
   · refine jr <| jc (op_assign lb (HasO.cU (x := (0 : UInt32)) rfl (by decide))) <| jn <| bI hq4 fun s_36 hx10 hq10 => JC.seqJ (γ := Unit) (stj := fun _ => ⟨[(7, ov (S (rU UInt32) s_36))], [], []⟩) (fun _ => ?_) ?_
     · refine jr <| jmv rfl rfl <| jc (op_assign lb (.tmp rfl)) <| jn <| JC.ret ?_
       obtain rfl := so hq10
       exact jd (.val (S (rU UInt32) s_36)) rfl rfl rfl rfl rfl rfl
     refine jr <| jc (op_assign lb .cI) <| jn <| JC.block <| JC.pre ?_ (JC.loop (γ := Unit) (stf := fun s q => ⟨[(3, ov (PTR gb_2 0)), (7, ov (S (rU UInt32) s.1)), (8, ov (S (rI .i64) s.2))], [cvar gb_2 (rV 32 rB) x_25], []⟩) (q := ()) hx10 ?_)
     · exact (Imp.norm (js := [0]) rfl (.cons rfl (.cons rfl (.cons rfl .nil))))
     intro s q x hx hr
     obtain ⟨s_26, i_27⟩ := s
     obtain _ := q
     change ref02_Sum.b4 k x_25 s_26 i_27 = some x at hx
     unfold ref02_Sum.b4 at hx
     refine JC.at ⟨[(3, ov (PTR gb_2 0)), (7, ov (S (rU UInt32) s_26)), (8, ov (S (rI .i64) i_27))], [cvar gb_2 (rV 32 rB) x_25], []⟩ <| JC.seq <| jr <| jmv rfl rfl <| lI hx fun v_28 hv_28 hx => jc (op_cmpI lb (.tmp rfl) .cI (cs hv_28)) <| jn <| jif (.tmp rfl) hx (fun hc12 hx => ?_) (fun hc12 hx => ?_)
     · refine JC.skip <| JQ.then <| bI hx fun s_34 hx13 hq13 => JC.seqJ (γ := Unit) (stj := fun _ => ⟨[(3, ov (PTR gb_2 0)), (7, ov (S (rU UInt32) s_34)), (8, ov (S (rI .i64) i_27))], [cvar gb_2 (rV 32 rB) x_25], []⟩) (fun _ => ?_) ?_
       · refine JC.region <| jmv rfl rfl <| lI hq13 fun v_35 hv_35 hq13 => jc (op_arI lb (.tmp rfl) .cI (cs hv_35)) <| jc (op_assign lb (.tmp rfl)) <| JL.nil ?_
         try obtain rfl := so hq13
         exact JQ.next () rfl (Imp.norm (js := [0]) rfl (.cons rfl (.cons rfl (.cons rfl .nil))))
       refine JC.block <| jr <| jmv rfl rfl <| lI hx13 fun v_29 hv_29 hx13 => jc (op_arU lb (HasO.cU (x := (2 : UInt32)) rfl (by decide)) (.tmp rfl) (cs hv_29)) <| jc (op_assign lb (.tmp rfl)) <| jn <| jr <| jmv rfl rfl <| bI hx13 fun i_30 hv_i_30 hx13 => jc (op_indexAddrIF lb tr135 (.tmp rfl) (.tmp rfl) hv_i_30) <| lI hx13 fun v_31 hv_31 hx13 => jc (op_loadS (j := 0) lb tS4 (.tmp rfl) rfl (Comp.at (Comp.self (rV 32 rB) x_25) i_30.2 rfl) rfl hv_31) <| lI hx13 fun v_32 hv_32 hx13 => jc (op_not lb (.tmp rfl) hv_32) <| jn ?_
       refine jif (.tmp rfl) hx13 (fun hc14 hx13 => ?_) (fun hc14 hx13 => ?_)
       · refine JC.region <| jmv rfl rfl <| lI hx13 fun v_33 hv_33 hx13 => jc (op_arU lb (.tmp rfl) (HasO.cU (x := (1 : UInt32)) rfl (by decide)) (cs hv_33)) <| jc (op_assign lb (.tmp rfl)) <| JL.sub ⟨[(3, ov (PTR gb_2 0)), (7, ov (S (rU UInt32) v_33)), (8, ov (S (rI .i64) i_27))], [cvar gb_2 (rV 32 rB) x_25], []⟩ (.cons rfl (.cons rfl (.cons rfl .nil))) rfl rfl <| JL.nil <| JQ.outNB ?_
         try obtain rfl := so hx13
         exact JQ.join () (Imp.norm (js := [0]) rfl (.cons rfl (.cons rfl (.cons rfl .nil))))
       refine JC.skip <| JQ.outNB ?_
       try obtain rfl := so hx13
       exact JQ.join () (Imp.norm (js := [0]) rfl (.cons rfl (.cons rfl (.cons rfl .nil))))
     refine JC.exit <| JQ.outX ?_
     try obtain rfl := so hx
     have ht := hr _ rfl
     have hq11 := cs ht
     clear hr ht
     refine JQ.outX <| JQ.here ?_
     try obtain rfl := so hq11
     exact jo rfl rfl rfl
   refine jr <| jc (op_assign lb .cI) <| jn <| JC.block <| JC.pre ?_ (JC.loop (γ := Unit) (stf := fun s q => ⟨[(0, ov (S (rL (rU UInt8)) b_1)), (3, ov (PTR gb_2 0)), (5, ov (S (rI .i64) s.2))], [cvar gb_2 (rV 32 rB) s.1], []⟩) (q := ()) hx4 ?_)
   · exact (Imp.norm (js := [0]) rfl (.cons rfl (.cons rfl (.cons rfl .nil))))
   intro s q x hx hr
   obtain ⟨x_10, i_11⟩ := s
   obtain _ := q
   change ref02_Sum.b2 k b_1 x_10 i_11 = some x at hx
   unfold ref02_Sum.b2 at hx
   refine JC.at ⟨[(0, ov (S (rL (rU UInt8)) b_1)), (3, ov (PTR gb_2 0)), (5, ov (S (rI .i64) i_11))], [cvar gb_2 (rV 32 rB) x_10], []⟩ <| JC.seq <| jr <| jmv rfl rfl <| jmv rfl rfl <| jc (op_lenL lb tu27 (.tmp rfl)) <| lI hx fun v_12 hv_12 hx => jc (op_cmpI lb (.tmp rfl) (.tmp rfl) (cs hv_12)) <| jn <| jif (.tmp rfl) hx (fun hc6 hx => ?_) (fun hc6 hx => ?_)
   · refine JC.skip <| JQ.then <| bI hx fun x_23 hx7 hq7 => JC.seqJ (γ := Unit) (stj := fun _ => ⟨[(0, ov (S (rL (rU UInt8)) b_1)), (3, ov (PTR gb_2 0)), (5, ov (S (rI .i64) i_11))], [cvar gb_2 (rV 32 rB) x_23], []⟩) (fun _ => ?_) ?_
     · refine JC.region <| jmv rfl rfl <| lI hq7 fun v_24 hv_24 hq7 => jc (op_arI lb (.tmp rfl) .cI (cs hv_24)) <| jc (op_assign lb (.tmp rfl)) <| JL.nil ?_
       try obtain rfl := so hq7
       exact JQ.next () rfl (Imp.norm (js := [0]) rfl (.cons rfl (.cons rfl (.cons rfl .nil))))
     refine JC.block <| jr <| jc (op_assign lb .cI) <| jn <| JC.block <| JC.pre ?_ (JC.loop (γ := Unit) (stf := fun s q => ⟨[(0, ov (S (rL (rU UInt8)) b_1)), (3, ov (PTR gb_2 0)), (5, ov (S (rI .i64) i_11)), (6, ov (S (rI .i64) s.2))], [cvar gb_2 (rV 32 rB) s.1], []⟩) (q := ()) hx7 ?_)
     · exact (Imp.norm (js := [0]) rfl (.cons rfl (.cons rfl (.cons rfl (.cons rfl .nil)))))
     intro s q x hx hr
     obtain ⟨x_13, k_14⟩ := s
     obtain _ := q
     change ref02_Sum.b3 k b_1 i_11 x_13 k_14 = some x at hx
     unfold ref02_Sum.b3 at hx
     refine JC.at ⟨[(0, ov (S (rL (rU UInt8)) b_1)), (3, ov (PTR gb_2 0)), (5, ov (S (rI .i64) i_11)), (6, ov (S (rI .i64) k_14))], [cvar gb_2 (rV 32 rB) x_13], []⟩ <| JC.seq <| jr <| jmv rfl rfl <| lI hx fun v_15 hv_15 hx => jc (op_cmpI lb (.tmp rfl) .cI (cs hv_15)) <| jn <| jif (.tmp rfl) hx (fun hc9 hx => ?_) (fun hc9 hx => ?_)
     · refine JC.skip <| JQ.then <| JC.seq <| JC.block <| bI hx fun v_16 hv_16 hx => lI hx fun v_17 hv_17 hx => lI hx fun v_18 hv_18 hx => bI hx fun v_19 hv_19 hx => lI hx fun v_20 hv_20 hx => ?_
       obtain ⟨v_21, hv_21, hx⟩ := bnd_inv hx
       refine JC.anyF (base := [(0, ov (S (rL (rU UInt8)) b_1)), (3, ov (PTR gb_2 0)), (5, ov (S (rI .i64) i_11)), (6, ov (S (rI .i64) k_14))])
           (fs := fun γ => [⟨some 25, ov (A (rV 32 rB) x_13)⟩, ⟨some 26, ov (S (rL (rU UInt8)) b_1)⟩, ⟨some 27, ov (S (rI .i64) i_11)⟩, ⟨some 28, ov (PT (rU UInt8) v_16)⟩, ⟨some 29, ov (S (rU UInt8) v_16)⟩, ⟨some 30, ov (S (rI .i64) k_14)⟩, ⟨some 31, ov (S (rU UInt64) v_17)⟩, ⟨some 32, ov (S (rU UInt8) v_18)⟩, ⟨some 33, ov (S (rU UInt8) v_19)⟩, ⟨some 34, ov (S rB v_20)⟩, ⟨some 35, ov (A (rV 32 rB) v_21)⟩, ⟨none, .one .any⟩])
           (rs := fun γ => [⟨cvar gb_2 (rV 32 rB) x_13, none, (some 11), [0]⟩, ⟨cvar gb_2 (rV 32 rB) v_21, (some 11), none, []⟩])
           (afts := nn 12) (js := [0]) mixed (.cons rfl (.cons rfl (.cons rfl (.cons rfl .nil)))) (fun _ => rfl)
           (by
      refine dR 1 (fun γ ρ B hb hd => OpStep.lk ⟨ρ, (cvar gb_2 (rV 32 rB) x_13) :: B, _⟩ (op_loadA (j := 0) lb tA135 (.tmp (hb 3 _ rfl)) rfl (Comp.self (rV 32 rB) x_13) rfl)) <| db 2 0 <| db 3 5 <| dS 4 (fun γ ρ B hb hd => op_indexAddrLg lb tu27 tz5 (tl hd 1 26) (tl hd 2 27) hv_16) <| dS 5 (fun γ ρ B hb hd => op_loadPSg lb tS5 rfl (tl hd 3 28) rfl) ?_
      refine db 6 6 <| dS 7 (fun γ ρ B hb hd => op_convIU lb tu3 tu54 (tl hd 5 30) hv_17) <| dS 8 (fun γ ρ B hb hd => op_shrUU lb (tl hd 4 29) (tl hd 6 31) hv_18) <| dS 9 (fun γ ρ B hb hd => op_arU lb (tl hd 7 32) (HasO.cU (x := (2 : UInt8)) rfl (by decide)) hv_19) <| dS 10 (fun γ ρ B hb hd => op_cmpU lb (tl hd 8 33) (HasO.cU (x := (1 : UInt8)) rfl (by decide)) (cs hv_20)) ?_
      refine dS 11 (fun γ ρ B hb hd => (op_call (js := []) ld cl88 (sim_ref02_Bits_in k x_13 v_20 v_21 hv_21) .func (.cons (tl hd 0 25) (.cons (tl hd 9 34) .nil)) rfl).post (fun _ => Imp.refl)) <| dR 12 (fun γ ρ B hb hd => OpStep.at ⟨ρ, (cvar gb_2 (rV 32 rB) x_13) :: B, _⟩ (setO ⟨ρ, (cvar gb_2 (rV 32 rB) v_21) :: B, _⟩ _ _) (op_storeA (j := 0) tA135 (.tmp (hb 3 _ rfl)) (tl hd 10 35) rfl (UpdR.self (by rfl)) rfl)) ?_
      exact DSteps.nil)
           (by decide +kernel) (fun _ => rfl) (fun _ => rfl) (fun _ => rfl) rfl
           (ρ' := fun γ => [(0, ov (S (rL (rU UInt8)) b_1)), (3, ov (PTR gb_2 0)), (5, ov (S (rI .i64) i_11)), (6, ov (S (rI .i64) k_14))])
           (X' := fun γ => [cvar gb_2 (rV 32 rB) v_21])
           (fun γ ρ hb hd => (.cons (hb 0 _ rfl) (.cons (hb 3 _ rfl) (.cons (hb 5 _ rfl) (.cons (hb 6 _ rfl) .nil))))) (fun _ => rfl) (fun γ => ?_)
       refine JQ.at ⟨[(0, ov (S (rL (rU UInt8)) b_1)), (3, ov (PTR gb_2 0)), (5, ov (S (rI .i64) i_11)), (6, ov (S (rI .i64) k_14))], [cvar gb_2 (rV 32 rB) v_21], []⟩ <| JQ.outNB <| JQ.then <| JC.region <| jmv rfl rfl <| lI hx fun v_22 hv_22 hx => jc (op_arI lb (.tmp rfl) .cI (cs hv_22)) <| jc (op_assign lb (.tmp rfl)) <| JL.nil ?_
       try obtain rfl := so hx
       exact JQ.next () rfl (Imp.norm (js := [0]) rfl (.cons rfl (.cons rfl (.cons rfl (.cons rfl .nil)))))
     refine JC.exit <| JQ.outX ?_
     try obtain rfl := so hx
     have ht := hr _ rfl
     have hq8 := cs ht
     clear hr ht
     refine JQ.outX <| JQ.here <| JQ.outNB ?_
     try obtain rfl := so hq8
     exact JQ.join () (Imp.norm (js := [0]) rfl (.cons rfl (.cons rfl (.cons rfl .nil))))
   refine JC.exit <| JQ.outX ?_
   try obtain rfl := so hx
   have ht := hr _ rfl
   have hq5 := cs ht
   clear hr ht
   refine JQ.outX <| JQ.here ?_
   try obtain rfl := so hq5
   exact JQ.join () (Imp.norm (js := [0]) rfl (.cons rfl .nil))
 refine jr <| jc (op_assign lb .cI) <| jn <| JC.block <| JC.pre ?_ (JC.loop (γ := Unit) (stf := fun s q => ⟨[(0, ov (S (rL (rU UInt8)) b_1)), (3, ov (PTR gb_2 0)), (4, ov (S (rI .i64) s.2))], [cvar gb_2 (rV 32 rB) s.1], []⟩) (q := ()) hx1 ?_)
 · exact (Imp.norm (js := [0]) rfl (.cons rfl (.cons rfl (.cons rfl .nil))))
 intro s q x hx hr
 obtain ⟨x_3, i_4⟩ := s
 obtain _ := q
 change ref02_Sum.b1 k x_3 i_4 = some x at hx
 unfold ref02_Sum.b1 at hx
 refine JC.at ⟨[(0, ov (S (rL (rU UInt8)) b_1)), (3, ov (PTR gb_2 0)), (4, ov (S (rI .i64) i_4))], [cvar gb_2 (rV 32 rB) x_3], []⟩ <| JC.seq <| jr <| jmv rfl rfl <| lI hx fun v_5 hv_5 hx => jc (op_cmpI lb (.tmp rfl) .cI (cs hv_5)) <| jn <| jif (.tmp rfl) hx (fun hc3 hx => ?_) (fun hc3 hx => ?_)
 · refine JC.skip <| JQ.then <| JC.seq <| JC.block <| JC.region <| jmv rfl rfl <| bI hx fun i_6 hv_i_6 hx => jc (op_indexAddrIF lb tr135 (.tmp rfl) (.tmp rfl) hv_i_6) <| lI hx fun x_7 hv_x_7 hx => jc (op_storeS (j := 0) tS4 (.tmp rfl) .cB rfl rfl (Upd.at (Comp.self (rV 32 rB) x_3) i_6.2 rfl (Upd.self (rV 32 rB) x_3 _)).R hv_x_7) <| JL.nil <| JQ.outNB <| JQ.then <| JC.region <| jmv rfl rfl ?_
   obtain ⟨v_8, hv_8, hx⟩ := lt1_inv hx
   refine jc (op_arI lb (.tmp rfl) .cI (cs hv_8)) <| jc (op_assign lb (.tmp rfl)) <| JL.nil ?_
   try obtain rfl := so hx
   exact JQ.next () rfl (Imp.norm (js := [0]) rfl (.cons rfl (.cons rfl (.cons rfl .nil))))
 refine JC.exit <| JQ.outX ?_
 try obtain rfl := so hx
 have ht := hr _ rfl
 have hq2 := cs ht
 clear hr ht
 refine JQ.outX <| JQ.here ?_
 try obtain rfl := so hq2
 exact JQ.join () (Imp.norm (js := [0]) rfl (.cons rfl (.cons rfl .nil)))

theorem sim_ref11_Bytes (k : Nat) (t_1 : api_Frame) (r : (List UInt8)) (hm : ref11_Bytes k t_1 = some r) : Sim Tryz.prog 14 [A r_api_Frame t_1] [] (γ := Option Nat × Nat) (fun q => [cown q.1 (rU UInt8) r (List.length r) q.2]) (fun q => .one (.val (HDR q.1 0 (List.length r) q.2))) := by
 unfold ref11_Bytes at hm
 refine Sim.of Tryz.func14 rfl rfl (lE rfl) (fun e0 w0 => ?_)
 refine JC.at ⟨[(0, ov (A r_api_Frame t_1))], [], []⟩ <| jr <| jx (op_boxA lb (.tmp rfl)) fun gb_2 => jc (op_assign lb HasO.nilH) <| jn <| jr <| jc (op_fieldAddr (off := 0) lb tf39_0 (.tmp rfl)) <| jc (op_loadS (j := 0) lb tS22 (.tmp rfl) rfl (cT (comp_api_Frame_Kind t_1) rfl) rfl rfl) <| lI hm fun v_3 hv_3 hm => jc (op_convIU lb tu22 tu5 (.tmp rfl) hv_3) <| jc (op_fieldAddr (off := 1) lb tf39_1 (.tmp rfl)) <| jc (op_loadS (j := 0) lb tS3 (.tmp rfl) rfl (cT (comp_api_Frame_From t_1) rfl) rfl rfl) <| lI hm fun v_4 hv_4 hm => jc (op_convIU lb tu3 tu5 (.tmp rfl) hv_4) <| jc (op_fieldAddr (off := 2) lb tf39_2 (.tmp rfl)) <| jc (op_loadS (j := 0) lb tS3 (.tmp rfl) rfl (cT (comp_api_Frame_To t_1) rfl) rfl rfl) <| JL.sub ⟨[(1, ov (PTR gb_2 0)), (11, ov (S (rU UInt8) v_3)), (14, ov (S (rU UInt8) v_4)), (16, ov (S (rI .i64) t_1.To))], [cvar gb_2 r_api_Frame t_1], []⟩ (.cons rfl (.cons rfl (.cons rfl (.cons rfl .nil)))) rfl rfl ?_
 refine lI hm fun v_5 hv_5 hm => jc (op_convIU lb tu3 tu5 (.tmp rfl) hv_5) <| jc (op_buildF (r := (rU UInt8)) lb tu27 tz5 tZ5 rfl (lE rfl) (.S rfl (.tmp rfl) (.S rfl (.tmp rfl) (.S rfl (.tmp rfl) .nil))) rfl) <| jx (op_buildO (r := (rL (rU UInt8))) lb tu77 tz27 tZ27 rfl (lE rfl) (.S rfl (.tmp rfl) .nil) rfl) fun gb_6 => jc (op_assign lb (.tmp rfl)) <| jn <| bI hm fun x_91 hx1 hq1 => JC.seqJ (γ := Option Nat × Nat) (stj := fun q => ⟨[(3, ov (HDR q.1 0 (List.length x_91) q.2))], [cown q.1 (rL (rU UInt8)) x_91 0 q.2], []⟩) (fun q => ?_) ?_
 · obtain ⟨go_92, gc_93⟩ := q
   refine JC.at ⟨[(3, ov (HDR go_92 0 (List.length x_91) gc_93))], [cown go_92 (rL (rU UInt8)) x_91 0 gc_93], []⟩ <| jr <| jmv rfl rfl <| bI hq1 fun v_94 hv_94 hq1 => JL.pre (Imp.frz (j := 0) rfl (ImpK.slotH (s := 3) rfl (ImpK.slotH (s := 128) rfl ImpK.refl))) <| jx (op_call (js := []) ld cl50 (sim_ref01_Join k x_91 v_94 hv_94) .func (.cons (HasO.wk (.tmp rfl) wkHL) .nil) rfl) (fun q => ?_)
   obtain ⟨go_95, gc_96⟩ := q
   refine JL.nrm ⟨[(129, ov (HDR go_95 0 (List.length v_94) gc_96))], [cown go_95 (rU UInt8) v_94 0 gc_96], []⟩ [0] rfl (.cons rfl .nil) rfl <| jc (op_assign lb (.tmp rfl)) <| jn <| jr <| jmv rfl rfl <| jmv rfl rfl <| bI hq1 fun v_97 hv_97 hq1 => JL.pre (Imp.frz (j := 0) rfl (ImpK.slotH (s := 8) rfl (ImpK.slotH (s := 129) rfl (ImpK.slotH (s := 130) rfl (ImpK.slotH (s := 131) rfl ImpK.refl))))) <| jx (op_call (js := []) ld cl51 (sim_ref02_Sum k v_94 v_97 hv_97) .func (.cons (HasO.wk (.tmp rfl) wkHL) .nil) rfl) fun _ => lI hq1 fun v_98 hv_98 hq1 => jc (op_convUU lb tu84 tu24 (.tmp rfl) hv_98) <| bI hq1 fun v_99 hv_99 hq1 => jx (op_call (js := []) ld cl46 (sim_ref01_Put k v_98 (4 : Int) v_99 hv_99) .func (.cons (.tmp rfl) (.cons .cI .nil)) rfl) (fun go_100 => ?_)
   refine bI hq1 fun x_101 hv_x_101 hq1 => JL.pre (Imp.slot (s := 130) rfl wkHH) <| JL.pre (Imp.slot (s := 8) rfl wkHL) <| JL.pre (Imp.slot (s := 129) rfl wkHL) <| JL.pre (Imp.slot (s := 131) rfl wkHL) <| jx (op_appendO (j := 1) (j' := 0) lb tu27 tu27 rfl tB5 rfl (Nat.lt_of_lt_of_le Nat.zero_lt_one (lE rfl)) (Nat.lt_of_lt_of_le Nat.zero_lt_one (lE rfl))  rfl (.tmp rfl) rfl (.tmp rfl) hv_x_101) (fun q => ?_)
   obtain ⟨go_102, gc_103⟩ := q
   refine JL.nrm ⟨[(135, ov (HDR go_102 0 (List.length x_101) gc_103))], [cown go_102 (rU UInt8) x_101 (List.length v_94) gc_103], []⟩ [1] rfl (.cons rfl .nil) rfl <| jc (op_assign lb (.tmp rfl)) <| jn <| JC.ret ?_
   obtain rfl := so hq1
   exact JQ.pre (Imp.frz (j := 0) rfl ImpK.refl) <| JQ.done (js := [0]) (ss := [.val (HDR go_102 0 (List.length x_101) gc_103)]) (go_102, gc_103) (.inl rfl) (.nil rfl) rfl (.cons (.tmp rfl) .nil) rfl rfl rfl
 refine jr <| jc (op_fieldAddr (off := 0) lb tf39_0 (.tmp rfl)) <| jc (op_loadS (j := 0) lb tS22 (.tmp rfl) rfl (cT (comp_api_Frame_Kind t_1) rfl) rfl rfl) <| jn <| JC.block <| jr <| lI hx1 fun v_7 hv_7 hx1 => jc (op_cmpI lb (.tmp rfl) .cI (cs hv_7)) <| jc (op_assign lb (.tmp rfl)) <| jn <| jif (.tmp rfl) hx1 (fun hc2 hx1 => ?_) (fun hc2 hx1 => ?_)
 · refine JC.region <| jmv rfl rfl <| jc (op_fieldAddr (off := 3) lb tf39_3 (.tmp rfl)) <| JL.sub ⟨[(3, ov (HDR (some gb_6) 0 (List.length ([([v_3, v_4, v_5] : (List UInt8))] : (List (List UInt8)))) (1))), (24, ov (HDR (some gb_6) 0 (List.length ([([v_3, v_4, v_5] : (List UInt8))] : (List (List UInt8)))) (1))), (25, ov (PTR gb_2 (0 + 3)))], [cvar gb_2 r_api_Frame t_1, zq33 gb_6 v_3 v_4 v_5], []⟩ (.cons rfl (.cons rfl (.cons rfl .nil))) rfl rfl <| jc (op_loadS (j := 0) lb tS23 (.tmp rfl) rfl (cT (comp_api_Frame_Items t_1) rfl) rfl rfl) <| bI hx1 fun v_8 hv_8 hx1 => jx (op_call (js := []) ld cl23 (sim_ref11_Items k t_1.Items v_8 hv_8) .func (.cons (.tmp rfl) .nil) rfl) (fun q => ?_)
   obtain ⟨go_9, gc_10⟩ := q
   refine JL.pre (Imp.frz (j := 0) rfl (ImpK.slotH (s := 27) rfl ImpK.refl)) <| jc (op_buildF (r := (rL (rU UInt8))) lb tu77 tz27 tZ27 rfl (lE rfl) (.S rfl (HasO.wk (.tmp rfl) wkHL) .nil) rfl) <| bI hx1 fun x_11 hv_x_11 hx1 => jx (op_appendL (j := 2) lb tu77 tu77 rfl tB27 rfl (Nat.lt_of_lt_of_le Nat.zero_lt_one (lE rfl)) (Nat.lt_of_lt_of_le Nat.zero_lt_one (lE rfl))  rfl (.tmp rfl) (.tmp rfl) hv_x_11) (fun q => ?_)
   obtain ⟨go_12, gc_13⟩ := q
   refine jc (op_assign lb (.tmp rfl)) <| JL.nil <| JQ.outNB ?_
   try obtain rfl := so hx1
   exact JQ.join (go_12, gc_13) (Imp.norm (js := [2]) rfl (.cons rfl .nil))
 refine jr <| lI hx1 fun v_14 hv_14 hx1 => jc (op_cmpI lb (.tmp rfl) .cI (cs hv_14)) <| jc (op_assign lb (.tmp rfl)) <| JL.sub ⟨[(1, ov (PTR gb_2 0)), (3, ov (HDR (some gb_6) 0 (List.length ([([v_3, v_4, v_5] : (List UInt8))] : (List (List UInt8)))) (1))), (21, ov (S (rI .i64) t_1.Kind)), (30, ov (S rB v_14))], [cvar gb_2 r_api_Frame t_1, zq33 gb_6 v_3 v_4 v_5], []⟩ (.cons rfl (.cons rfl (.cons rfl (.cons rfl .nil)))) rfl rfl <| jn <| jif (.tmp rfl) hx1 (fun hc3 hx1 => ?_) (fun hc3 hx1 => ?_)
 · refine jr <| jc (op_fieldAddr (off := 4) lb tf39_4 (.tmp rfl)) <| jc (op_loadA (j := 0) lb tA32 (.tmp rfl) rfl (cT (comp_api_Frame_Event t_1) rfl) rfl) <| bI hx1 fun v_15 hv_15 hx1 => jx (op_call (js := []) ld cl45 (sim_ref09_Bytes k t_1.Event v_15 hv_15) .func (.cons (.tmp rfl) .nil) rfl) (fun q => ?_)
   obtain ⟨go_16, gc_17⟩ := q
   refine jc (op_assign lb (.tmp rfl)) <| jn <| JC.region <| jmv rfl rfl <| jmv rfl rfl <| jc (op_lenH lb tu27 (.tmp rfl)) <| lI hx1 fun v_18 hv_18 hx1 => jc (op_convIU lb tu3 tu24 (.tmp rfl) hv_18) <| bI hx1 fun v_19 hv_19 hx1 => jx (op_call (js := []) ld cl46 (sim_ref01_Put k v_18 (4 : Int) v_19 hv_19) .func (.cons (.tmp rfl) (.cons .cI .nil)) rfl) fun go_20 => JL.nrm ⟨[(3, ov (HDR (some gb_6) 0 (List.length ([([v_3, v_4, v_5] : (List UInt8))] : (List (List UInt8)))) (1))), (4, ov (HDR go_16 0 (List.length v_15) gc_17)), (35, ov (HDR (some gb_6) 0 (List.length ([([v_3, v_4, v_5] : (List UInt8))] : (List (List UInt8)))) (1))), (39, ov (HDR go_20 0 (List.length v_19) (Int.toNat (4 : Int))))], [cown go_20 (rU UInt8) v_19 0 (Int.toNat (4 : Int)), cown go_16 (rU UInt8) v_15 0 gc_17, zq33 gb_6 v_3 v_4 v_5], []⟩ [0, 0, 1] rfl (.cons rfl (.cons rfl (.cons rfl (.cons rfl .nil)))) rfl <| jmv rfl rfl <| JL.pre (Imp.frz (j := 0) rfl (ImpK.slotH (s := 39) rfl ImpK.refl)) ?_
   refine JL.pre (Imp.frz (j := 1) rfl (ImpK.slotH (s := 4) rfl (ImpK.slotH (s := 40) rfl ImpK.refl))) <| jc (op_buildF (r := (rL (rU UInt8))) lb tu77 tz27 tZ27 rfl (lE rfl) (.S rfl (HasO.wk (.tmp rfl) wkHL) (.S rfl (HasO.wk (.tmp rfl) wkHL) .nil)) rfl) <| bI hx1 fun x_21 hv_x_21 hx1 => jx (op_appendL (j := 2) lb tu77 tu77 rfl tB27 rfl (Nat.lt_of_lt_of_le Nat.zero_lt_one (lE rfl)) (Nat.lt_of_lt_of_le Nat.zero_lt_one (lE rfl))  rfl (.tmp rfl) (.tmp rfl) hv_x_21) (fun q => ?_)
   obtain ⟨go_22, gc_23⟩ := q
   refine jc (op_assign lb (.tmp rfl)) <| JL.nil <| JQ.outNB ?_
   try obtain rfl := so hx1
   exact JQ.join (go_22, gc_23) (Imp.norm (js := [2]) rfl (.cons rfl .nil))
 refine jr <| lI hx1 fun v_24 hv_24 hx1 => jc (op_cmpI lb (.tmp rfl) .cI (cs hv_24)) <| jc (op_assign lb (.tmp rfl)) <| jn <| jif (.tmp rfl) hx1 (fun hc4 hx1 => ?_) (fun hc4 hx1 => ?_)
 · refine JC.region <| jmv rfl rfl <| jc (op_fieldAddr (off := 25) lb tf39_5 (.tmp rfl)) <| jc (op_loadA (j := 0) lb tA29 (.tmp rfl) rfl (cT (comp_api_Frame_Past t_1) rfl) rfl) <| bI hx1 fun v_25 hv_25 hx1 => jx (op_call (js := []) ld cl47 (sim_ref01_Vector k t_1.Past v_25 hv_25) .func (.cons (.tmp rfl) .nil) rfl) (fun q => ?_)
   obtain ⟨go_26, gc_27⟩ := q
   refine JL.pre (Imp.frz (j := 0) rfl (ImpK.slotH (s := 48) rfl ImpK.refl)) <| jc (op_buildF (r := (rL (rU UInt8))) lb tu77 tz27 tZ27 rfl (lE rfl) (.S rfl (HasO.wk (.tmp rfl) wkHL) .nil) rfl) <| bI hx1 fun x_28 hv_x_28 hx1 => jx (op_appendL (j := 2) lb tu77 tu77 rfl tB27 rfl (Nat.lt_of_lt_of_le Nat.zero_lt_one (lE rfl)) (Nat.lt_of_lt_of_le Nat.zero_lt_one (lE rfl))  rfl (.tmp rfl) (.tmp rfl) hv_x_28) (fun q => ?_)
   obtain ⟨go_29, gc_30⟩ := q
   refine JL.nrm ⟨[(50, ov (HDR go_29 0 (List.length x_28) gc_30))], [cown go_29 (rL (rU UInt8)) x_28 0 gc_30], []⟩ [2] rfl (.cons rfl .nil) rfl <| jc (op_assign lb (.tmp rfl)) <| JL.nil <| JQ.outNB ?_
   try obtain rfl := so hx1
   exact JQ.join (go_29, gc_30) (Imp.norm (js := [0]) rfl (.cons rfl .nil))
 refine jr <| lI hx1 fun v_31 hv_31 hx1 => jc (op_cmpI lb (.tmp rfl) .cI (cs hv_31)) <| jc (op_assign lb (.tmp rfl)) <| jn <| jif (.tmp rfl) hx1 (fun hc5 hx1 => ?_) (fun hc5 hx1 => ?_)
 · refine bI hx1 fun v_32 hv_32 hx1 => bI hx1 fun v_35 hv_35 hx1 => bI hx1 fun v_38 hv_38 hx1 => ?_
   obtain ⟨x_41, hv_x_41, hx1⟩ := bnd_inv hx1
   refine JC.anyE (kl := [3]) (kk := 12) (base := [(1, ov (PTR gb_2 0)), (3, ov (HDR (some gb_6) 0 (List.length ([([v_3, v_4, v_5] : (List UInt8))] : (List (List UInt8)))) (1)))])
       (fs := fun γ => [⟨some 53, ov (HDR (some gb_6) 0 (List.length ([([v_3, v_4, v_5] : (List UInt8))] : (List (List UInt8)))) (1))⟩, ⟨some 54, ov (PTR gb_2 (0 + 41))⟩, ⟨some 55, ov (A (rV 16 (rU UInt64)) t_1.Seen)⟩, ⟨some 56, ov (S (rL (rU UInt8)) v_32)⟩, ⟨some 57, ov (PTR gb_2 (0 + 57))⟩, ⟨some 58, ov (S (rL r_api_Dot) t_1.Extra)⟩, ⟨some 59, ov (S (rL (rU UInt8)) v_35)⟩, ⟨some 60, ov (PTR gb_2 (0 + 58))⟩, ⟨some 61, ov (S (rL r_api_Dot) t_1.Live)⟩, ⟨some 62, ov (S (rL (rU UInt8)) v_38)⟩, ⟨some 63, ov (S (rL (rL (rU UInt8))) ([v_32, v_35, v_38] : (List (List UInt8))))⟩, ⟨some 64, ov (HDR (deo (γ 11 0)) 0 (List.length x_41) (γ 11 1))⟩, ⟨some 3, ov (HDR (deo (γ 11 0)) 0 (List.length x_41) (γ 11 1))⟩])
       (rs := fun γ => [⟨cvar gb_2 r_api_Frame t_1, none, none, [2, 5, 8]⟩, ⟨zq33 gb_6 v_3 v_4 v_5, none, (some 11), []⟩, ⟨cown (deo (γ 11 0)) (rL (rU UInt8)) x_41 0 (γ 11 1), (some 11), none, []⟩])
       (ds := [53, 54, 55, 56, 57, 58, 59, 60, 61, 62, 63, 64, 3]) (bs := [1, 3]) (afts := [[], [], [], [], [], [], [], [], [], [], [], [11, 12], []]) (js := [0, 0]) mixed (.cons rfl (.cons rfl .nil)) (fun _ => rfl)
       (by
      refine db 1 3 <| dS 2 (fun γ ρ B hb hd => op_fieldAddr (off := 41) lb tf39_6 (.tmp (hb 1 _ rfl))) <| dR 3 (fun γ ρ B hb hd => OpStep.lk ⟨ρ, (cvar gb_2 r_api_Frame t_1) :: B, _⟩ (op_loadA (j := 0) lb tA29 (tl hd 1 54) rfl (cT (comp_api_Frame_Seen t_1) rfl) rfl)) <| dS 4 (fun γ ρ B hb hd => (op_call (js := []) ld cl47 (sim_ref01_Vector k t_1.Seen v_32 hv_32) .func (.cons (tl hd 2 55) .nil) rfl).post (fun q => Imp.dropF (j := 0) rfl)) <| dS 5 (fun γ ρ B hb hd => op_fieldAddr (off := 57) lb tf39_7 (.tmp (hb 1 _ rfl))) ?_
      refine dR 6 (fun γ ρ B hb hd => OpStep.lk ⟨ρ, (cvar gb_2 r_api_Frame t_1) :: B, _⟩ (op_loadS (j := 0) lb tS33 (tl hd 4 57) rfl (cT (comp_api_Frame_Extra t_1) rfl) rfl rfl)) <| dS 7 (fun γ ρ B hb hd => (op_call (js := []) ld cl48 (sim_ref11_dots k t_1.Extra v_35 hv_35) .func (.cons (tl hd 5 58) .nil) rfl).post (fun q => Imp.dropF (j := 0) rfl)) <| dS 8 (fun γ ρ B hb hd => op_fieldAddr (off := 58) lb tf39_8 (.tmp (hb 1 _ rfl))) <| dR 9 (fun γ ρ B hb hd => OpStep.lk ⟨ρ, (cvar gb_2 r_api_Frame t_1) :: B, _⟩ (op_loadS (j := 0) lb tS33 (tl hd 7 60) rfl (cT (comp_api_Frame_Live t_1) rfl) rfl rfl)) <| dS 10 (fun γ ρ B hb hd => (op_call (js := []) ld cl48 (sim_ref11_dots k t_1.Live v_38 hv_38) .func (.cons (tl hd 8 61) .nil) rfl).post (fun q => Imp.dropF (j := 0) rfl)) ?_
      refine dS 11 (fun γ ρ B hb hd => op_buildF (r := (rL (rU UInt8))) lb tu77 tz27 tZ27 rfl (lE rfl) (.S rfl (tl hd 3 56) (.S rfl (tl hd 6 59) (.S rfl (tl hd 9 62) .nil))) rfl) ?_
      refine DSteps.cons (j := 12) rfl (fun _ => rfl) (.runX (fun _ _ => rfl) (fun γ ρ B hb hd => ⟨.none, OpX.ghost (γ := Option Nat × Nat) (st' := fun q => setO ⟨ρ, (cown q.1 (rL (rU UInt8)) x_41 0 q.2) :: B, _⟩ (some 64) (ov (HDR q.1 0 (List.length x_41) q.2))) (fun q c => bif Nat.beq c 0 then eno q.1 else q.2) (op_appendL (j := 0) lb tu77 tu77 rfl tB27 rfl (Nat.lt_of_lt_of_le Nat.zero_lt_one (lE rfl)) (Nat.lt_of_lt_of_le Nat.zero_lt_one (lE rfl))  rfl (tl hd 0 53) (tl hd 10 63) hv_x_41) (fun q => by obtain ⟨q0, q1⟩ := q; cases q0 <;> exact Imp.refl)⟩) (fun _ _ => rfl) (fun _ _ => rfl)) ?_
      refine dS 13 (fun γ ρ B hb hd => op_assign lb (tl hd 11 64)) ?_
      exact DSteps.nil)
       (by decide +kernel) (fun _ => rfl) rfl (fun _ => rfl) (fun _ => rfl) rfl (by decide) (by decide) (by decide +kernel) (fun _ d h => by simp at h; subst h; exact ⟨_, rfl, rfl⟩)
       (ρ' := fun γ => [(3, ov (HDR (deo (γ 11 0)) 0 (List.length x_41) (γ 11 1)))])
       (X' := fun γ => [cvar gb_2 r_api_Frame t_1, cown (deo (γ 11 0)) (rL (rU UInt8)) x_41 0 (γ 11 1)])
       (fun γ ρ hb hd => (.cons (hdq hd 12 3 rfl) .nil)) (fun _ => rfl) (fun γ => ?_)
   generalize (deo (γ 11 0)) = go_42
   generalize (γ 11 1) = gc_43
   clear γ
   refine JQ.at ⟨[(3, ov (HDR go_42 0 (List.length x_41) gc_43))], [cvar gb_2 r_api_Frame t_1, cown go_42 (rL (rU UInt8)) x_41 0 gc_43], []⟩ <| JQ.outNB ?_
   try obtain rfl := so hx1
   exact JQ.join (go_42, gc_43) (Imp.norm (js := [1]) rfl (.cons rfl .nil))
 refine jr <| lI hx1 fun v_44 hv_44 hx1 => jc (op_cmpI lb (.tmp rfl) .cI (cs hv_44)) <| jc (op_assign lb (.tmp rfl)) <| jn <| jif (.tmp rfl) hx1 (fun hc6 hx1 => ?_) (fun hc6 hx1 => ?_)
 · refine JC.region <| jmv rfl rfl <| jc (op_fieldAddr (off := 59) lb tf39_9 (.tmp rfl)) <| bI hx1 fun v_45 hv_45 hx1 => JL.pre (Imp.frzVar (j := 0) rfl (ImpK.slotP (s := 1) rfl (Comp.self r_api_Frame t_1) (ImpK.slotP (s := 68) rfl (cT (comp_api_Frame_Hash t_1) rfl) ImpK.refl))) <| jc (op_sliceP lb tu35 tz5 (.tmp rfl) .none .none hv_45) <| jc (op_buildF (r := (rL (rU UInt8))) lb tu77 tz27 tZ27 rfl (lE rfl) (.S rfl (.tmp rfl) .nil) rfl) <| JL.sub ⟨[(3, ov (HDR (some gb_6) 0 (List.length ([([v_3, v_4, v_5] : (List UInt8))] : (List (List UInt8)))) (1))), (67, ov (HDR (some gb_6) 0 (List.length ([([v_3, v_4, v_5] : (List UInt8))] : (List (List UInt8)))) (1))), (70, ov (S (rL (rL (rU UInt8))) ([v_45] : (List (List UInt8)))))], [zq33 gb_6 v_3 v_4 v_5], []⟩ (.cons rfl (.cons rfl (.cons rfl .nil))) rfl rfl <| bI hx1 fun x_46 hv_x_46 hx1 => jx (op_appendL (j := 0) lb tu77 tu77 rfl tB27 rfl (Nat.lt_of_lt_of_le Nat.zero_lt_one (lE rfl)) (Nat.lt_of_lt_of_le Nat.zero_lt_one (lE rfl))  rfl (.tmp rfl) (.tmp rfl) hv_x_46) (fun q => ?_)
   obtain ⟨go_47, gc_48⟩ := q
   refine jc (op_assign lb (.tmp rfl)) <| JL.nil <| JQ.outNB ?_
   try obtain rfl := so hx1
   exact JQ.join (go_47, gc_48) (Imp.norm (js := [0]) rfl (.cons rfl .nil))
 refine jr <| lI hx1 fun v_49 hv_49 hx1 => jc (op_cmpI lb (.tmp rfl) .cI (cs hv_49)) <| jc (op_assign lb (.tmp rfl)) <| jn <| jif (.tmp rfl) hx1 (fun hc7 hx1 => ?_) (fun hc7 hx1 => ?_)
 · refine jr <| jc (op_assign lb .cI) <| jn <| JC.block <| JC.pre ?_ (JC.loop (γ := Option Nat × Nat) (stf := fun s q => ⟨[(1, ov (PTR gb_2 0)), (3, ov (HDR q.1 0 (List.length s.1) q.2)), (5, ov (S (rI .i64) s.2))], [cvar gb_2 r_api_Frame t_1, cown q.1 (rL (rU UInt8)) s.1 0 q.2], []⟩) (q := ((some gb_6), 1)) hx1 ?_)
   · exact (Imp.norm (js := [0, 0]) rfl (.cons rfl (.cons rfl (.cons rfl .nil))))
   intro s q x hx hr
   obtain ⟨x_50, x_51⟩ := s
   obtain ⟨go_52, gc_53⟩ := q
   change ref11_Bytes.b1 k t_1 x_50 x_51 = some x at hx
   unfold ref11_Bytes.b1 at hx
   refine JC.at ⟨[(1, ov (PTR gb_2 0)), (3, ov (HDR go_52 0 (List.length x_50) gc_53)), (5, ov (S (rI .i64) x_51))], [cvar gb_2 r_api_Frame t_1, cown go_52 (rL (rU UInt8)) x_50 0 gc_53], []⟩ <| JC.seq <| jr <| jmv rfl rfl <| jc (op_fieldAddr (off := 91) lb tf39_10 (.tmp rfl)) <| jc (op_loadS (j := 0) lb tS36 (.tmp rfl) rfl (cT (comp_api_Frame_Leaves t_1) rfl) rfl rfl) <| jc (op_lenL lb tu36 (.tmp rfl)) <| lI hx fun v_54 hv_54 hx => jc (op_cmpI lb (.tmp rfl) (.tmp rfl) (cs hv_54)) <| jn <| jif (.tmp rfl) hx (fun hc9 hx => ?_) (fun hc9 hx => ?_)
   · refine JC.skip <| JQ.then <| JC.seq <| JC.block <| JC.region <| jmv rfl rfl <| jc (op_fieldAddr (off := 91) lb tf39_10 (.tmp rfl)) <| jc (op_loadS (j := 0) lb tS36 (.tmp rfl) rfl (cT (comp_api_Frame_Leaves t_1) rfl) rfl rfl) <| jmv rfl rfl <| bI hx fun v_55 hv_55 hx => jc (op_indexAddrLg lb tu36 tz35 (.tmp rfl) (.tmp rfl) hv_55) <| bI hx fun v_56 hv_56 hx => jc (op_sliceP lb tu35 tz5 (.tmp rfl) .none .none hv_56) <| jc (op_buildF (r := (rL (rU UInt8))) lb tu77 tz27 tZ27 rfl (lE rfl) (.S rfl (.tmp rfl) .nil) rfl) <| JL.sub ⟨[(1, ov (PTR gb_2 0)), (3, ov (HDR go_52 0 (List.length x_50) gc_53)), (5, ov (S (rI .i64) x_51)), (81, ov (HDR go_52 0 (List.length x_50) gc_53)), (87, ov (S (rL (rL (rU UInt8))) ([v_56] : (List (List UInt8)))))], [cvar gb_2 r_api_Frame t_1, cown go_52 (rL (rU UInt8)) x_50 0 gc_53], []⟩ (.cons rfl (.cons rfl (.cons rfl (.cons rfl (.cons rfl .nil))))) rfl rfl ?_
     obtain ⟨x_57, hv_x_57, hx⟩ := bnd_inv hx
     refine jx (op_appendL (j := 1) lb tu77 tu77 rfl tB27 rfl (Nat.lt_of_lt_of_le Nat.zero_lt_one (lE rfl)) (Nat.lt_of_lt_of_le Nat.zero_lt_one (lE rfl))  rfl (.tmp rfl) (.tmp rfl) hv_x_57) (fun q => ?_)
     obtain ⟨go_58, gc_59⟩ := q
     refine jc (op_assign lb (.tmp rfl)) <| JL.nil <| JQ.outNB <| JQ.then <| JC.region <| jmv rfl rfl <| lI hx fun v_60 hv_60 hx => jc (op_arI lb (.tmp rfl) .cI (cs hv_60)) <| jc (op_assign lb (.tmp rfl)) <| JL.nil ?_
     try obtain rfl := so hx
     exact JQ.next (go_58, gc_59) rfl (Imp.norm (js := [0, 0]) rfl (.cons rfl (.cons rfl (.cons rfl .nil))))
   refine JC.exit <| JQ.outX ?_
   try obtain rfl := so hx
   have ht := hr _ rfl
   have hq8 := cs ht
   clear hr ht
   refine JQ.outX <| JQ.here <| JQ.outNB ?_
   try obtain rfl := so hq8
   exact JQ.join (go_52, gc_53) (Imp.norm (js := [1]) rfl (.cons rfl .nil))
 refine jr <| lI hx1 fun v_61 hv_61 hx1 => jc (op_cmpI lb (.tmp rfl) .cI (cs hv_61)) <| jc (op_assign lb (.tmp rfl)) <| jn <| jif (.tmp rfl) hx1 (fun hc10 hx1 => ?_) (fun hc10 hx1 => ?_)
 · refine jr <| jc (op_fieldAddr (off := 92) lb tf39_11 (.tmp rfl)) <| jc (op_loadS (j := 0) lb tS37 (.tmp rfl) rfl (cT (comp_api_Frame_Buckets t_1) rfl) rfl rfl) <| JL.sub ⟨[(1, ov (PTR gb_2 0)), (3, ov (HDR (some gb_6) 0 (List.length ([([v_3, v_4, v_5] : (List UInt8))] : (List (List UInt8)))) (1))), (92, ov (S (rL (rI .i64)) t_1.Buckets))], [cvar gb_2 r_api_Frame t_1, zq33 gb_6 v_3 v_4 v_5], []⟩ (.cons rfl (.cons rfl (.cons rfl .nil))) rfl rfl <| jc (op_lenL lb tu37 (.tmp rfl)) <| lI hx1 fun v_62 hv_62 hx1 => jc (op_convIU lb tu3 tu5 (.tmp rfl) hv_62) <| jx (op_buildO (r := (rU UInt8)) lb tu27 tz5 tZ5 rfl (lE rfl) (.S rfl (.tmp rfl) .nil) rfl) fun gb_63 => jc (op_assign lb (.tmp rfl)) <| jn <| bI hx1 fun x_75 hx11 hq11 => JC.seqJ (γ := Option Nat × Nat) (stj := fun q => ⟨[(1, ov (PTR gb_2 0)), (3, ov (HDR (some gb_6) 0 (List.length ([([v_3, v_4, v_5] : (List UInt8))] : (List (List UInt8)))) (1))), (6, ov (HDR q.1 0 (List.length x_75) q.2))], [cvar gb_2 r_api_Frame t_1, zq33 gb_6 v_3 v_4 v_5, cown q.1 (rU UInt8) x_75 0 q.2], []⟩) (fun q => ?_) ?_
   · obtain ⟨go_76, gc_77⟩ := q
     refine JC.at ⟨[(1, ov (PTR gb_2 0)), (3, ov (HDR (some gb_6) 0 (List.length ([([v_3, v_4, v_5] : (List UInt8))] : (List (List UInt8)))) (1))), (6, ov (HDR go_76 0 (List.length x_75) gc_77))], [cvar gb_2 r_api_Frame t_1, zq33 gb_6 v_3 v_4 v_5, cown go_76 (rU UInt8) x_75 0 gc_77], []⟩ <| JC.pre (Imp.frz (j := 2) rfl (ImpK.slotH (s := 6) rfl ImpK.refl)) <| bI hq11 fun v_78 hv_78 hq11 => bI hq11 fun v_81 hv_81 hq11 => bI hq11 fun v_84 hv_84 hq11 => bI hq11 fun v_87 hv_87 hq11 => ?_
     obtain ⟨x_88, hv_x_88, hq11⟩ := bnd_inv hq11
     refine JC.anyE (kl := [3]) (kk := 16) (base := [(1, ov (PTR gb_2 0)), (3, ov (HDR (some gb_6) 0 (List.length ([([v_3, v_4, v_5] : (List UInt8))] : (List (List UInt8)))) (1))), (6, ov (HL go_76 (rU UInt8) x_75 gc_77))])
         (fs := fun γ => [⟨some 112, ov (HDR (some gb_6) 0 (List.length ([([v_3, v_4, v_5] : (List UInt8))] : (List (List UInt8)))) (1))⟩, ⟨some 113, ov (HL go_76 (rU UInt8) x_75 gc_77)⟩, ⟨some 114, ov (PTR gb_2 (0 + 3))⟩, ⟨some 115, ov (S (rL r_api_Item) t_1.Items)⟩, ⟨some 116, ov (S (rL (rU UInt8)) v_78)⟩, ⟨some 117, ov (PTR gb_2 (0 + 41))⟩, ⟨some 118, ov (A (rV 16 (rU UInt64)) t_1.Seen)⟩, ⟨some 119, ov (S (rL (rU UInt8)) v_81)⟩, ⟨some 120, ov (PTR gb_2 (0 + 57))⟩, ⟨some 121, ov (S (rL r_api_Dot) t_1.Extra)⟩, ⟨some 122, ov (S (rL (rU UInt8)) v_84)⟩, ⟨some 123, ov (PTR gb_2 (0 + 93))⟩, ⟨some 124, ov (S rB t_1.Reply)⟩, ⟨some 125, ov (S (rL (rU UInt8)) v_87)⟩, ⟨some 126, ov (S (rL (rL (rU UInt8))) ([x_75, v_78, v_81, v_84, v_87] : (List (List UInt8))))⟩, ⟨some 127, ov (HDR (deo (γ 15 0)) 0 (List.length x_88) (γ 15 1))⟩, ⟨some 3, ov (HDR (deo (γ 15 0)) 0 (List.length x_88) (γ 15 1))⟩])
         (rs := fun γ => [⟨cvar gb_2 r_api_Frame t_1, none, none, [3, 6, 9, 12]⟩, ⟨zq33 gb_6 v_3 v_4 v_5, none, (some 15), []⟩, ⟨cown go_76 (rU UInt8) x_75 (List.length x_75) gc_77, none, none, []⟩, ⟨cown (deo (γ 15 0)) (rL (rU UInt8)) x_88 0 (γ 15 1), (some 15), none, []⟩])
         (ds := [112, 113, 114, 115, 116, 117, 118, 119, 120, 121, 122, 123, 124, 125, 126, 127, 3]) (bs := [1, 3, 6]) (afts := [[], [], [], [], [], [], [], [], [], [], [], [], [], [], [], [15, 16], []]) (js := [0, 0, 0]) mixed (.cons rfl (.cons rfl (.cons rfl .nil))) (fun _ => rfl)
         (by
      refine db 1 3 <| db 2 6 <| dS 3 (fun γ ρ B hb hd => op_fieldAddr (off := 3) lb tf39_3 (.tmp (hb 1 _ rfl))) <| dR 4 (fun γ ρ B hb hd => OpStep.lk ⟨ρ, (cvar gb_2 r_api_Frame t_1) :: B, _⟩ (op_loadS (j := 0) lb tS23 (tl hd 2 114) rfl (cT (comp_api_Frame_Items t_1) rfl) rfl rfl)) <| dS 5 (fun γ ρ B hb hd => (op_call (js := []) ld cl23 (sim_ref11_Items k t_1.Items v_78 hv_78) .func (.cons (tl hd 3 115) .nil) rfl).post (fun q => Imp.dropF (j := 0) rfl)) ?_
      refine dS 6 (fun γ ρ B hb hd => op_fieldAddr (off := 41) lb tf39_6 (.tmp (hb 1 _ rfl))) <| dR 7 (fun γ ρ B hb hd => OpStep.lk ⟨ρ, (cvar gb_2 r_api_Frame t_1) :: B, _⟩ (op_loadA (j := 0) lb tA29 (tl hd 5 117) rfl (cT (comp_api_Frame_Seen t_1) rfl) rfl)) <| dS 8 (fun γ ρ B hb hd => (op_call (js := []) ld cl47 (sim_ref01_Vector k t_1.Seen v_81 hv_81) .func (.cons (tl hd 6 118) .nil) rfl).post (fun q => Imp.dropF (j := 0) rfl)) <| dS 9 (fun γ ρ B hb hd => op_fieldAddr (off := 57) lb tf39_7 (.tmp (hb 1 _ rfl))) <| dR 10 (fun γ ρ B hb hd => OpStep.lk ⟨ρ, (cvar gb_2 r_api_Frame t_1) :: B, _⟩ (op_loadS (j := 0) lb tS33 (tl hd 8 120) rfl (cT (comp_api_Frame_Extra t_1) rfl) rfl rfl)) ?_
      refine dS 11 (fun γ ρ B hb hd => (op_call (js := []) ld cl48 (sim_ref11_dots k t_1.Extra v_84 hv_84) .func (.cons (tl hd 9 121) .nil) rfl).post (fun q => Imp.dropF (j := 0) rfl)) <| dS 12 (fun γ ρ B hb hd => op_fieldAddr (off := 93) lb tf39_12 (.tmp (hb 1 _ rfl))) <| dR 13 (fun γ ρ B hb hd => OpStep.lk ⟨ρ, (cvar gb_2 r_api_Frame t_1) :: B, _⟩ (op_loadS (j := 0) lb tS4 (tl hd 11 123) rfl (cT (comp_api_Frame_Reply t_1) rfl) rfl rfl)) <| dS 14 (fun γ ρ B hb hd => (op_call (js := []) ld cl49 (sim_ref11_flag k t_1.Reply v_87 hv_87) .func (.cons (tl hd 12 124) .nil) rfl).post (fun _ => Imp.refl)) <| dS 15 (fun γ ρ B hb hd => op_buildF (r := (rL (rU UInt8))) lb tu77 tz27 tZ27 rfl (lE rfl) (.S rfl (HasO.wk (tl hd 1 113) wkHL) (.S rfl (tl hd 4 116) (.S rfl (tl hd 7 119) (.S rfl (tl hd 10 122) (.S rfl (tl hd 13 125) .nil))))) rfl) ?_
      refine DSteps.cons (j := 16) rfl (fun _ => rfl) (.runX (fun _ _ => rfl) (fun γ ρ B hb hd => ⟨.none, OpX.ghost (γ := Option Nat × Nat) (st' := fun q => setO ⟨ρ, (cown q.1 (rL (rU UInt8)) x_88 0 q.2) :: B, _⟩ (some 127) (ov (HDR q.1 0 (List.length x_88) q.2))) (fun q c => bif Nat.beq c 0 then eno q.1 else q.2) (op_appendL (j := 0) lb tu77 tu77 rfl tB27 rfl (Nat.lt_of_lt_of_le Nat.zero_lt_one (lE rfl)) (Nat.lt_of_lt_of_le Nat.zero_lt_one (lE rfl))  rfl (tl hd 0 112) (tl hd 14 126) hv_x_88) (fun q => by obtain ⟨q0, q1⟩ := q; cases q0 <;> exact Imp.refl)⟩) (fun _ _ => rfl) (fun _ _ => rfl)) ?_
      refine dS 17 (fun γ ρ B hb hd => op_assign lb (tl hd 15 127)) ?_
      exact DSteps.nil)
         (by decide +kernel) (fun _ => rfl) rfl (fun _ => rfl) (fun _ => rfl) rfl (by decide) (by decide) (by decide +kernel) (fun _ d h => by simp at h; subst h; exact ⟨_, rfl, rfl⟩)
         (ρ' := fun γ => [(3, ov (HDR (deo (γ 15 0)) 0 (List.length x_88) (γ 15 1)))])
         (X' := fun γ => [cvar gb_2 r_api_Frame t_1, cown go_76 (rU UInt8) x_75 (List.length x_75) gc_77, cown (deo (γ 15 0)) (rL (rU UInt8)) x_88 0 (γ 15 1)])
         (fun γ ρ hb hd => (.cons (hdq hd 16 3 rfl) .nil)) (fun _ => rfl) (fun γ => ?_)
     generalize (deo (γ 15 0)) = go_89
     generalize (γ 15 1) = gc_90
     clear γ
     refine JQ.at ⟨[(3, ov (HDR go_89 0 (List.length x_88) gc_90))], [cvar gb_2 r_api_Frame t_1, cown go_76 (rU UInt8) x_75 (List.length x_75) gc_77, cown go_89 (rL (rU UInt8)) x_88 0 gc_90], []⟩ <| JQ.outNB ?_
     try obtain rfl := so hq11
     exact JQ.join (go_89, gc_90) (Imp.norm (js := [2]) rfl (.cons rfl .nil))
   refine jr <| jc (op_assign lb .cI) <| jn <| JC.block <| JC.pre ?_ (JC.loop (γ := Option Nat × Nat) (stf := fun s q => ⟨[(1, ov (PTR gb_2 0)), (3, ov (HDR (some gb_6) 0 (List.length ([([v_3, v_4, v_5] : (List UInt8))] : (List (List UInt8)))) (1))), (6, ov (HDR q.1 0 (List.length s.1) q.2)), (7, ov (S (rI .i64) s.2))], [cvar gb_2 r_api_Frame t_1, zq33 gb_6 v_3 v_4 v_5, cown q.1 (rU UInt8) s.1 0 q.2], []⟩) (q := ((some gb_63), 1)) hx11 ?_)
   · exact (Imp.norm (js := [0, 0, 0]) rfl (.cons rfl (.cons rfl (.cons rfl (.cons rfl .nil)))))
   intro s q x hx hr
   obtain ⟨x_64, x_65⟩ := s
   obtain ⟨go_66, gc_67⟩ := q
   change ref11_Bytes.b2 k t_1 x_64 x_65 = some x at hx
   unfold ref11_Bytes.b2 at hx
   refine JC.at ⟨[(1, ov (PTR gb_2 0)), (3, ov (HDR (some gb_6) 0 (List.length ([([v_3, v_4, v_5] : (List UInt8))] : (List (List UInt8)))) (1))), (6, ov (HDR go_66 0 (List.length x_64) gc_67)), (7, ov (S (rI .i64) x_65))], [cvar gb_2 r_api_Frame t_1, zq33 gb_6 v_3 v_4 v_5, cown go_66 (rU UInt8) x_64 0 gc_67], []⟩ <| JC.seq <| jr <| jmv rfl rfl <| jc (op_fieldAddr (off := 92) lb tf39_11 (.tmp rfl)) <| jc (op_loadS (j := 0) lb tS37 (.tmp rfl) rfl (cT (comp_api_Frame_Buckets t_1) rfl) rfl rfl) <| jc (op_lenL lb tu37 (.tmp rfl)) <| lI hx fun v_68 hv_68 hx => jc (op_cmpI lb (.tmp rfl) (.tmp rfl) (cs hv_68)) <| jn <| jif (.tmp rfl) hx (fun hc13 hx => ?_) (fun hc13 hx => ?_)
   · refine JC.skip <| JQ.then <| JC.seq <| JC.block <| JC.region <| jmv rfl rfl <| jc (op_fieldAddr (off := 92) lb tf39_11 (.tmp rfl)) <| jc (op_loadS (j := 0) lb tS37 (.tmp rfl) rfl (cT (comp_api_Frame_Buckets t_1) rfl) rfl rfl) <| jmv rfl rfl <| bI hx fun v_69 hv_69 hx => jc (op_indexAddrLg lb tu37 tz3 (.tmp rfl) (.tmp rfl) hv_69) <| jc (op_loadPSg lb tS3 rfl (.tmp rfl) rfl) <| lI hx fun v_70 hv_70 hx => jc (op_convIU lb tu3 tu5 (.tmp rfl) hv_70) <| JL.sub ⟨[(1, ov (PTR gb_2 0)), (3, ov (HDR (some gb_6) 0 (List.length ([([v_3, v_4, v_5] : (List UInt8))] : (List (List UInt8)))) (1))), (6, ov (HDR go_66 0 (List.length x_64) gc_67)), (7, ov (S (rI .i64) x_65)), (103, ov (HDR go_66 0 (List.length x_64) gc_67)), (109, ov (S (rU UInt8) v_70))], [cvar gb_2 r_api_Frame t_1, zq33 gb_6 v_3 v_4 v_5, cown go_66 (rU UInt8) x_64 0 gc_67], []⟩ (.cons rfl (.cons rfl (.cons rfl (.cons rfl (.cons rfl (.cons rfl .nil)))))) rfl rfl <| jc (op_buildF (r := (rU UInt8)) lb tu27 tz5 tZ5 rfl (lE rfl) (.S rfl (.tmp rfl) .nil) rfl) ?_
     refine bI hx fun x_71 hv_x_71 hx => jx (op_appendL (j := 2) lb tu27 tu27 rfl tB5 rfl (Nat.lt_of_lt_of_le Nat.zero_lt_one (lE rfl)) (Nat.lt_of_lt_of_le Nat.zero_lt_one (lE rfl))  rfl (.tmp rfl) (.tmp rfl) hv_x_71) (fun q => ?_)
     obtain ⟨go_72, gc_73⟩ := q
     refine jc (op_assign lb (.tmp rfl)) <| JL.nil <| JQ.outNB <| JQ.then <| JC.region <| jmv rfl rfl <| lI hx fun v_74 hv_74 hx => jc (op_arI lb (.tmp rfl) .cI (cs hv_74)) <| jc (op_assign lb (.tmp rfl)) <| JL.nil ?_
     try obtain rfl := so hx
     exact JQ.next (go_72, gc_73) rfl (Imp.norm (js := [0, 0, 0]) rfl (.cons rfl (.cons rfl (.cons rfl (.cons rfl .nil)))))
   refine JC.exit <| JQ.outX ?_
   try obtain rfl := so hx
   have ht := hr _ rfl
   have hq12 := cs ht
   clear hr ht
   refine JQ.outX <| JQ.here ?_
   try obtain rfl := so hq12
   exact JQ.join (go_66, gc_67) (Imp.norm (js := [0, 0, 0]) rfl (.cons rfl (.cons rfl (.cons rfl .nil))))
 refine JC.skip <| JQ.outNB ?_
 try obtain rfl := so hx1
 exact JQ.join ((some gb_6), 1) (Imp.norm (js := [1]) rfl (.cons rfl .nil))

theorem sim_law11_FrameBytes'4 (k : Nat) (f_1 : api_Frame) (r : Bool) (hm : law11_FrameBytes'4 k f_1 = some r) : Sim Tryz.prog 3 [A r_api_Frame f_1] [] (γ := Unit) (fun q => []) (fun q => .one (.val (S rB r))) := by
 unfold law11_FrameBytes'4 at hm
 refine Sim.of Tryz.func3 rfl rfl (lE rfl) (fun e0 w0 => ?_)
 refine JC.at ⟨[(0, ov (A r_api_Frame f_1))], [], []⟩ <| jr <| jx (op_boxA lb (.tmp rfl)) fun gb_2 => jc (op_assign lb .cB) <| jn <| JC.seq <| jr <| jc (op_loadA (j := 0) lb tA39 (.tmp rfl) rfl (Comp.self r_api_Frame f_1) rfl) <| bI hm fun v_3 hv_3 hm => jx (op_call (js := []) ld cl8 (sim_ref11_Much k f_1 v_3 hv_3) .func (.cons (.tmp rfl) .nil) rfl) fun _ => jn <| jif (.tmp rfl) hm (fun hc1 hm => ?_) (fun hc1 hm => ?_)
 · refine jr <| bI hm fun v_4 hv_4 hm => jx (op_call (js := []) ld cl9 (sim_law11_known'4 k v_4 hv_4) .func .nil rfl) fun _ => jc (op_assign lb (.tmp rfl)) <| jn <| JC.ret <| JQ.outR ?_
   obtain rfl := so hm
   exact jd (.val (S rB v_4)) rfl rfl rfl rfl rfl rfl
 refine JC.skip <| JQ.then <| jr <| jc (op_loadA (j := 0) lb tA39 (.tmp rfl) rfl (Comp.self r_api_Frame f_1) rfl) ?_
 obtain ⟨⟨v_5, v_6⟩, hv_5, hm⟩ := bnd_inv hm
 refine jx (op_call (js := []) ld cl10 (sim_frame_Bytes'4 k f_1 (v_5, v_6) hv_5) .func (.cons (.tmp rfl) .nil) rfl) (fun q => ?_)
 obtain ⟨go_7, gc_8⟩ := q
 refine jmv rfl rfl <| jc (op_extract (i := 0) lb (.tmp rfl) rfl) <| JL.sub ⟨[(1, ov (PTR gb_2 0)), (8, .tup [.val (HDR go_7 0 (List.length v_5) gc_8), .val (S (rI .i64) v_6)]), (11, ov (HDR go_7 0 (List.length v_5) gc_8))], [cown go_7 (rU UInt8) v_5 (List.length v_5) gc_8, cvar gb_2 r_api_Frame f_1], []⟩ (.cons rfl (.cons rfl (.cons rfl .nil))) rfl rfl <| jc (op_extract (i := 1) lb (.tmp rfl) rfl) <| jc (op_assign lb (.tmp rfl)) <| jc (op_assign lb (.tmp rfl)) <| jn <| JC.seq <| JC.seq <| bI hm fun v_9 hv_9 hm => bI hm fun v_10 hv_10 hm => ?_
 obtain ⟨v_11, hv_11, hm⟩ := lt1_inv hm
 refine JC.anyF (base := [(1, ov (PTR gb_2 0)), (3, ov (HDR go_7 0 (List.length v_5) gc_8)), (4, ov (S (rI .i64) v_6))])
     (fs := fun γ => [⟨some 13, ov (A r_api_Frame f_1)⟩, ⟨some 14, ov (S rB v_9)⟩, ⟨some 15, ov (A r_api_Frame f_1)⟩, ⟨some 16, ov (S rB v_10)⟩, ⟨some 17, ov (S rB v_11)⟩])
     (rs := fun γ => [⟨cown go_7 (rU UInt8) v_5 (List.length v_5) gc_8, none, none, []⟩, ⟨cvar gb_2 r_api_Frame f_1, none, none, [0, 2]⟩])
     (afts := nn 5) (js := [0, 0]) mixed (.cons rfl (.cons rfl (.cons rfl .nil))) (fun _ => rfl)
     (by
      refine dR 1 (fun γ ρ B hb hd => OpStep.lk ⟨ρ, (cvar gb_2 r_api_Frame f_1) :: B, _⟩ (op_loadA (j := 0) lb tA39 (.tmp (hb 1 _ rfl)) rfl (Comp.self r_api_Frame f_1) rfl)) <| dS 2 (fun γ ρ B hb hd => (op_call (js := []) ld cl11 (sim_frame_May k f_1 v_9 hv_9) .func (.cons (tl hd 0 13) .nil) rfl).post (fun _ => Imp.refl)) <| dR 3 (fun γ ρ B hb hd => OpStep.lk ⟨ρ, (cvar gb_2 r_api_Frame f_1) :: B, _⟩ (op_loadA (j := 0) lb tA39 (.tmp (hb 1 _ rfl)) rfl (Comp.self r_api_Frame f_1) rfl)) <| dS 4 (fun γ ρ B hb hd => (op_call (js := []) ld cl12 (sim_ref11_May k f_1 v_10 hv_10) .func (.cons (tl hd 2 15) .nil) rfl).post (fun _ => Imp.refl)) <| dS 5 (fun γ ρ B hb hd => op_neB lb tu4 (tl hd 1 14) (tl hd 3 16) hv_11) ?_
      exact DSteps.nil)
     (by decide +kernel) (fun _ => rfl) (fun _ => rfl) (fun _ => rfl) rfl
     (ρ' := fun γ => [(1, ov (PTR gb_2 0)), (3, ov (HDR go_7 0 (List.length v_5) gc_8)), (4, ov (S (rI .i64) v_6)), (17, ov (S rB v_11))])
     (X' := fun γ => [cown go_7 (rU UInt8) v_5 (List.length v_5) gc_8, cvar gb_2 r_api_Frame f_1])
     (fun γ ρ hb hd => (.cons (hb 1 _ rfl) (.cons (hb 3 _ rfl) (.cons (hb 4 _ rfl) (.cons (hdq hd 4 17 rfl) .nil))))) (fun _ => rfl) (fun γ => ?_)
 refine JQ.at ⟨[(1, ov (PTR gb_2 0)), (3, ov (HDR go_7 0 (List.length v_5) gc_8)), (4, ov (S (rI .i64) v_6)), (17, ov (S rB v_11))], [cown go_7 (rU UInt8) v_5 (List.length v_5) gc_8, cvar gb_2 r_api_Frame f_1], []⟩ <| JQ.then <| jif (.tmp rfl) hm (fun hc2 hm => ?_) (fun hc2 hm => ?_)
 · refine jr <| jc (op_assign lb .cB) <| jn <| JC.ret <| JQ.outR ?_
   obtain rfl := so hm
   exact jd (.val (S rB false)) rfl rfl rfl rfl rfl rfl
 refine JC.skip <| JQ.then <| JC.seq <| jr <| jc (op_loadA (j := 1) lb tA39 (.tmp rfl) rfl (Comp.self r_api_Frame f_1) rfl) <| bI hm fun v_12 hv_12 hm => jx (op_call (js := []) ld cl12 (sim_ref11_May k f_1 v_12 hv_12) .func (.cons (.tmp rfl) .nil) rfl) fun _ => lI hm fun v_13 hv_13 hm => jc (op_not lb (.tmp rfl) hv_13) <| jn <| jif (.tmp rfl) hm (fun hc3 hm => ?_) (fun hc3 hm => ?_)
 · refine bI hm fun x_20 hx4 hq4 => JC.seqJ (γ := Unit) (stj := fun _ => ⟨[(2, ov (S rB x_20))], [], []⟩) (fun _ => ?_) ?_
   · refine JC.ret <| JQ.outR ?_
     obtain rfl := so hq4
     exact jd (.val (S rB x_20)) rfl rfl rfl rfl rfl rfl
   refine JC.region <| jmv rfl rfl <| jc (op_lenH lb tu27 (.tmp rfl)) <| lI hx4 fun v_14 hv_14 hx4 => jc (op_cmpI lb (.tmp rfl) .cI (cs hv_14)) <| jmv rfl rfl <| jT (ov (S (rI .i64) v_6)) rfl rfl rfl rfl (fun hq_5 => op_move lb (.tmp rfl)) <| bI hx4 fun _ hv_u_15 hx4 => jT (ov (S (rI .i64) v_6)) rfl rfl rfl rfl (fun hq_6 => (op_call (js := []) ld cl13 (sim_law11_num k v_6 () (ifT hv_u_15 hq_6)) .func (.cons (HasO.cnd (.tmp rfl) hq_6) .nil) rfl).post (fun _ => Imp.refl)) <| lI hx4 fun v_16 hv_16 hx4 => jT (ov (S rB v_16)) rfl rfl rfl rfl (fun hq_7 => op_cmpI lb (HasO.cnd (.tmp rfl) hq_7) .cI (cs hv_16)) ?_
   obtain ⟨v_17, hv_17, hx4⟩ := lt1_inv hx4
   refine jc (op_pickCS lb (.tmp rfl) (fun hb8 => (HasO.cnd (.tmp rfl) hb8)) (fun hb8 => .cB) hv_17) <| jmv rfl rfl <| JL.nrm ⟨[(29, ov (S rB v_17))], [], []⟩ [] rfl (.cons rfl .nil) rfl <| bI hx4 fun v_18 hv_18 hx4 => jT (ov (S rB v_18)) rfl rfl rfl rfl (fun hq_9 => (op_call (js := []) ld cl9 (sim_law11_known'4 k v_18 (ifT hv_18 hq_9)) .func .nil rfl).post (fun _ => Imp.refl)) <| lI hx4 fun v_19 hv_19 hx4 => jc (op_pickCS lb (.tmp rfl) (fun hb10 => (HasO.cnd (.tmp rfl) hb10)) (fun hb10 => .cB) hv_19) <| jc (op_assign lb (.tmp rfl)) <| JL.nil ?_
   try obtain rfl := so hx4
   exact jo rfl rfl rfl
 refine JC.skip <| JQ.then <| bI hm fun x_30 hx11 hq11 => JC.seqJ (γ := Unit) (stj := fun _ => ⟨[(2, ov (S rB x_30))], [], []⟩) (fun _ => ?_) ?_
 · refine JC.ret ?_
   obtain rfl := so hq11
   exact jd (.val (S rB x_30)) rfl rfl rfl rfl rfl rfl
 refine bI hx11 fun v_21 hv_21 hx11 => lI hx11 fun v_24 hv_24 hx11 => bI hx11 fun _ hv_u_25 hx11 => lI hx11 fun v_26 hv_26 hx11 => lI hx11 fun v_27 hv_27 hx11 => bI hx11 fun v_28 hv_28 hx11 => ?_
 obtain ⟨v_29, hv_29, hx11⟩ := lt1_inv hx11
 refine JC.anyF (base := [(1, ov (PTR gb_2 0)), (3, ov (HDR go_7 0 (List.length v_5) gc_8)), (4, ov (S (rI .i64) v_6))])
     (fs := fun γ => [⟨some 32, ov (HDR go_7 0 (List.length v_5) gc_8)⟩, ⟨some 33, ov (S rS v_5)⟩, ⟨some 34, ov (A r_api_Frame f_1)⟩, ⟨some 35, ov (HDR (deo (γ 3 0)) 0 (List.length v_21) (γ 3 1))⟩, ⟨some 36, ov (S rS v_21)⟩, ⟨some 37, ov (S rB v_24)⟩, ⟨some 38, ov (S rB v_24)⟩, ⟨some 39, bif v_24 then ov (S (rI .i64) v_6) else .one .und⟩, ⟨some 40, bif v_24 then ov (S (rI .i64) v_6) else .one .und⟩, ⟨some 41, bif v_24 then ov (S rB v_26) else .one .und⟩, ⟨some 42, ov (S rB v_27)⟩, ⟨some 43, ov (S rB v_27)⟩, ⟨some 44, bif v_27 then ov (S rB v_28) else .one .und⟩, ⟨some 45, ov (S rB v_29)⟩, ⟨some 2, ov (S rB v_29)⟩])
     (rs := fun γ => [⟨cown go_7 (rU UInt8) v_5 (List.length v_5) gc_8, none, none, [1]⟩, ⟨cvar gb_2 r_api_Frame f_1, none, none, [2]⟩, ⟨cown (deo (γ 3 0)) (rU UInt8) v_21 (List.length v_21) (γ 3 1), (some 3), none, [4]⟩])
     (afts := [[], [], [], [3, 4, 5, 6, 7, 8, 9, 10, 11, 12, 13, 14], [], [], [], [], [], [], [], [], [], [], []]) (js := [0, 0]) mixed (.cons rfl (.cons rfl (.cons rfl .nil))) (fun _ => rfl)
     (by
      refine db 1 3 <| dR 2 (fun γ ρ B hb hd => OpStep.lk ⟨ρ, (cown go_7 (rU UInt8) v_5 (List.length v_5) gc_8) :: B, _⟩ (op_convOS (j := 0) lb tu27 tu5 tu9 rfl (tl hd 0 32))) <| dR 3 (fun γ ρ B hb hd => OpStep.lk ⟨ρ, (cvar gb_2 r_api_Frame f_1) :: B, _⟩ (op_loadA (j := 0) lb tA39 (.tmp (hb 1 _ rfl)) rfl (Comp.self r_api_Frame f_1) rfl)) <| DSteps.cons (j := 4) rfl (fun _ => rfl) (.runX (fun _ _ => rfl) (fun γ ρ B hb hd => ⟨.none, OpX.ghost (γ := Option Nat × Nat) (st' := fun q => setO ⟨ρ, (cown q.1 (rU UInt8) v_21 (List.length v_21) q.2) :: B, _⟩ (some 35) (ov (HDR q.1 0 (List.length v_21) q.2))) (fun q c => bif Nat.beq c 0 then eno q.1 else q.2) (op_call (js := []) ld cl14 (sim_ref11_Bytes k f_1 v_21 hv_21) .func (.cons (tl hd 2 34) .nil) rfl) (fun q => by obtain ⟨q0, q1⟩ := q; cases q0 <;> exact Imp.refl)⟩) (fun _ _ => rfl) (fun _ _ => rfl)) ?_
      refine dR 5 (fun γ ρ B hb hd => OpStep.lk ⟨ρ, (cown (deo (γ 3 0)) (rU UInt8) v_21 (List.length v_21) (γ 3 1)) :: B, _⟩ (op_convOS (j := 0) lb tu27 tu5 tu9 rfl (tl hd 3 35))) <| dS 6 (fun γ ρ B hb hd => op_cmpS lb (tl hd 1 33) (tl hd 4 36) (cs hv_24)) <| dm 7 5 37 ?_
      refine dT 8 6 38 v_24 (fun γ => ov (S (rI .i64) v_6)) (fun γ ρ B hb hd hq_12 => op_move lb (.tmp (hb 4 _ rfl))) ?_
      refine dT 9 6 38 v_24 (fun γ => ov (S (rI .i64) v_6)) (fun γ ρ B hb hd hq_13 => (op_call (js := []) ld cl13 (sim_law11_num k v_6 () (ifT hv_u_25 hq_13)) .func (.cons (HasO.cnd (tl hd 7 39) hq_13) .nil) rfl).post (fun _ => Imp.refl)) ?_
      refine dT 10 6 38 v_24 (fun γ => ov (S rB v_26)) (fun γ ρ B hb hd hq_14 => op_cmpI lb (HasO.cnd (tl hd 8 40) hq_14) .cI (cs hv_26)) ?_
      refine dS 11 (fun γ ρ B hb hd => op_pickCS lb (tl hd 6 38) (fun hb15 => (HasO.cnd (tl hd 9 41) hb15)) (fun hb15 => .cB) hv_27) <| dm 12 10 42 ?_
      refine dT 13 11 43 v_27 (fun γ => ov (S rB v_28)) (fun γ ρ B hb hd hq_16 => (op_call (js := []) ld cl9 (sim_law11_known'4 k v_28 (ifT hv_28 hq_16)) .func .nil rfl).post (fun _ => Imp.refl)) ?_
      refine dS 14 (fun γ ρ B hb hd => op_pickCS lb (tl hd 11 43) (fun hb17 => (HasO.cnd (tl hd 12 44) hb17)) (fun hb17 => .cB) hv_29) <| dS 15 (fun γ ρ B hb hd => op_assign lb (tl hd 13 45)) ?_
      exact DSteps.nil)
     (by decide +kernel) (fun _ => rfl) (fun _ => rfl) (fun _ => rfl) rfl
     (ρ' := fun γ => [(2, ov (S rB v_29))])
     (X' := fun γ => [cown go_7 (rU UInt8) v_5 (List.length v_5) gc_8, cvar gb_2 r_api_Frame f_1, cown (deo (γ 3 0)) (rU UInt8) v_21 (List.length v_21) (γ 3 1)])
     (fun γ ρ hb hd => (.cons (hdq hd 14 2 rfl) .nil)) (fun _ => rfl) (fun γ => ?_)
 generalize (deo (γ 3 0)) = go_22
 generalize (γ 3 1) = gc_23
 clear γ
 refine JQ.at ⟨[(2, ov (S rB v_29))], [cown go_7 (rU UInt8) v_5 (List.length v_5) gc_8, cvar gb_2 r_api_Frame f_1, cown go_22 (rU UInt8) v_21 (List.length v_21) gc_23], []⟩ ?_
 try obtain rfl := so hx11
 exact jo rfl rfl rfl

end Go.Proofs.YtklnihlchhhhlaaGreat
