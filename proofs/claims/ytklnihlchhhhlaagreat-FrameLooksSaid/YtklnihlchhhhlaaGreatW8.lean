/- Walks. -/
import Derived.Test.YtklnihlchhhhlaaGreatT
import Derived.Test.YtklnihlchhhhlaaGreatW7
namespace Go.Proofs.YtklnihlchhhhlaaGreat
open Go Fw
set_option linter.unusedVariables false
set_option maxRecDepth 100000
set_option maxHeartbeats 4000000

theorem sim_ref01_Join (k : Nat) (l_1 : (List (List UInt8))) (r : (List UInt8)) (hm : ref01_Join k l_1 = some r) : Sim Tryz.prog 50 [S (rL (rL (rU UInt8))) l_1] [] (γ := Option Nat × Nat) (fun q => [cown q.1 (rU UInt8) r 0 q.2]) (fun q => .one (.val (HDR q.1 0 (List.length r) q.2))) := by
 unfold ref01_Join at hm
 refine Sim.of Tryz.func50 rfl rfl (lE rfl) (fun e0 w0 => ?_)
 refine JC.at ⟨[(0, ov (S (rL (rL (rU UInt8))) l_1))], [], []⟩ ?_
 refine jr <| jc (op_assign lb HasO.nilH) <| jn <| jr <| jc (op_assign lb HasO.nilH) ?_
 refine jn ?_
 obtain ⟨o_12, hx1, hq1⟩ := bnd_inv hm
 refine JC.seqJ (γ := Option Nat × Nat) (stj := fun q => ⟨[(3, ov (HDR q.1 0 (List.length o_12) q.2))], [cown q.1 (rU UInt8) o_12 0 q.2], []⟩) (fun q => ?_) ?_
 · obtain ⟨go_13, gc_14⟩ := q
   refine JC.at ⟨[(3, ov (HDR go_13 0 (List.length o_12) gc_14))], [cown go_13 (rU UInt8) o_12 0 gc_14], []⟩ ?_
   refine jr <| jmv rfl rfl <| jc (op_assign lb (.tmp rfl)) <| jn ?_
   refine JC.ret ?_
   obtain rfl := so hq1
   exact JQ.done (js := [0]) (ss := [.val (HDR go_13 0 (List.length o_12) gc_14)]) (go_13, gc_14) (.inl rfl) (.nil rfl) rfl (.cons (.tmp rfl) .nil) rfl rfl rfl
 refine jr <| jc (op_assign lb .cI) <| jn <| JC.block ?_
 refine JC.pre (Imp.nilown (rU UInt8)) ?_
 refine JC.pre ?_ (JC.loop (γ := Option Nat × Nat) (stf := fun s q => ⟨[(0, ov (S (rL (rL (rU UInt8))) l_1)), (3, ov (HDR q.1 0 (List.length s.1) q.2)), (4, ov (S (rI .i64) s.2))], [cown q.1 (rU UInt8) s.1 0 q.2], []⟩) (q := (none, 0)) hx1 ?_)
 · exact (Imp.norm (js := [0]) rfl (.cons rfl (.cons rfl (.cons rfl .nil))))
 intro s q x hx hr
 obtain ⟨o_2, i_3⟩ := s
 obtain ⟨go_4, gc_5⟩ := q
 change ref01_Join.b1 k l_1 o_2 i_3 = some x at hx
 unfold ref01_Join.b1 at hx
 refine JC.at ⟨[(0, ov (S (rL (rL (rU UInt8))) l_1)), (3, ov (HDR go_4 0 (List.length o_2) gc_5)), (4, ov (S (rI .i64) i_3))], [cown go_4 (rU UInt8) o_2 0 gc_5], []⟩ ?_
 refine JC.seq <| jr <| jmv rfl rfl <| jmv rfl rfl <| jc (op_lenL lb tu77 (.tmp rfl)) ?_
 obtain ⟨v_6, hv_6, hx⟩ := lt1_inv hx
 refine jc (op_cmpI lb (.tmp rfl) (.tmp rfl) (cs hv_6)) <| jn ?_
 rcases iteB_inv hx with ⟨hc3, hx⟩ | ⟨hc3, hx⟩
 · refine JC.condT (.tmp rfl) hc3 ?_
   refine JC.skip ?_
   refine JQ.then <| JC.seq <| JC.block <| JC.region <| jmv rfl rfl ?_
   refine jmv rfl rfl <| jmv rfl rfl ?_
   obtain ⟨v_7, hv_7, hx⟩ := bnd_inv hx
   refine jc (op_indexAddrLg lb tu77 tz27 (.tmp rfl) (.tmp rfl) hv_7) <| jc (op_loadPSg lb tS27 rfl (.tmp rfl) rfl) ?_
   obtain ⟨o_8, hv_o_8, hx⟩ := bnd_inv hx
   refine jx (op_appendL (j := 0) lb tu27 tu27 rfl tB5 rfl (Nat.lt_of_lt_of_le Nat.zero_lt_one (lE rfl)) (Nat.lt_of_lt_of_le Nat.zero_lt_one (lE rfl))  rfl (.tmp rfl) (.tmp rfl) hv_o_8) (fun q => ?_)
   obtain ⟨go_9, gc_10⟩ := q
   refine JL.sub ⟨[(0, ov (S (rL (rL (rU UInt8))) l_1)), (4, ov (S (rI .i64) i_3)), (16, ov (HDR go_9 0 (List.length o_8) gc_10))], [cown go_9 (rU UInt8) o_8 0 gc_10], []⟩ (.cons rfl (.cons rfl (.cons rfl .nil))) rfl rfl ?_
   refine jc (op_assign lb (.tmp rfl)) <| JL.nil ?_
   refine JQ.outNB ?_
   refine JQ.then <| JC.region <| jmv rfl rfl ?_
   obtain ⟨v_11, hv_11, hx⟩ := lt1_inv hx
   refine jc (op_arI lb (.tmp rfl) .cI (cs hv_11)) <| jc (op_assign lb (.tmp rfl)) <| JL.nil ?_
   try obtain rfl := so hx
   exact JQ.next (go_9, gc_10) rfl (Imp.norm (js := [0]) rfl (.cons rfl (.cons rfl (.cons rfl .nil))))
 refine JC.condF (.tmp rfl) hc3 ?_
 refine JC.exit ?_
 refine JQ.outX ?_
 try obtain rfl := so hx
 have ht := hr _ rfl
 have hq2 := cs ht
 clear hr ht
 refine JQ.outX ?_
 refine JQ.here ?_
 try obtain rfl := so hq2
 exact JQ.join (go_4, gc_5) (Imp.norm (js := [0]) rfl (.cons rfl .nil))

theorem sim_ref11_Items (k : Nat) (l_1 : (List api_Item)) (r : (List UInt8)) (hm : ref11_Items k l_1 = some r) : Sim Tryz.prog 23 [S (rL r_api_Item) l_1] [] (γ := Option Nat × Nat) (fun q => [cown q.1 (rU UInt8) r 0 q.2]) (fun q => .one (.val (HDR q.1 0 (List.length r) q.2))) := by
 unfold ref11_Items at hm
 refine Sim.of Tryz.func23 rfl rfl (lE rfl) (fun e0 w0 => ?_)
 refine JC.at ⟨[(0, ov (S (rL r_api_Item) l_1))], [], []⟩ ?_
 refine jr <| jc (op_assign lb HasO.nilH) <| jn <| jr <| jmv rfl rfl ?_
 refine jc (op_lenL lb tu23 (.tmp rfl)) ?_
 obtain ⟨v_2, hv_2, hm⟩ := lt1_inv hm
 refine jc (op_convIU lb tu3 tu24 (.tmp rfl) hv_2) ?_
 obtain ⟨v_3, hv_3, hm⟩ := bnd_inv hm
 refine jx (op_call (js := []) ld cl46 (sim_ref01_Put k v_2 (2 : Int) v_3 hv_3) .func (.cons (.tmp rfl) (.cons .cI .nil)) rfl) (fun go_4 => ?_)
 refine JL.pre (Imp.frz (j := 0) rfl (ImpK.slotH (s := 8) rfl ImpK.refl)) ?_
 refine jx (op_buildO (r := (rL (rU UInt8))) lb tu77 tz27 tZ27 rfl (lE rfl) (.S rfl (HasO.wk (.tmp rfl) wkHL) .nil) rfl) (fun gb_5 => ?_)
 refine JL.nrm ⟨[(0, ov (S (rL r_api_Item) l_1)), (9, ov (HDR (some gb_5) 0 (List.length ([v_3] : (List (List UInt8)))) (1)))], [cown (some gb_5) (rL (rU UInt8)) ([v_3] : (List (List UInt8))) 0 (1)], []⟩ [1] rfl (.cons rfl (.cons rfl .nil)) rfl ?_
 refine jc (op_assign lb (.tmp rfl)) <| jn ?_
 obtain ⟨o_37, hx1, hq1⟩ := bnd_inv hm
 refine JC.seqJ (γ := Option Nat × Nat) (stj := fun q => ⟨[(3, ov (HDR q.1 0 (List.length o_37) q.2))], [cown q.1 (rL (rU UInt8)) o_37 0 q.2], []⟩) (fun q => ?_) ?_
 · obtain ⟨go_38, gc_39⟩ := q
   refine JC.at ⟨[(3, ov (HDR go_38 0 (List.length o_37) gc_39))], [cown go_38 (rL (rU UInt8)) o_37 0 gc_39], []⟩ ?_
   refine jr <| jmv rfl rfl ?_
   obtain ⟨v_40, hv_40, hq1⟩ := bnd_inv hq1
   refine JL.pre (Imp.frz (j := 0) rfl (ImpK.slotH (s := 3) rfl (ImpK.slotH (s := 56) rfl ImpK.refl))) ?_
   refine jx (op_call (js := []) ld cl50 (sim_ref01_Join k o_37 v_40 hv_40) .func (.cons (HasO.wk (.tmp rfl) wkHL) .nil) rfl) (fun q => ?_)
   obtain ⟨go_41, gc_42⟩ := q
   refine JL.nrm ⟨[(57, ov (HDR go_41 0 (List.length v_40) gc_42))], [cown go_41 (rU UInt8) v_40 0 gc_42], []⟩ [0] rfl (.cons rfl .nil) rfl ?_
   refine jc (op_assign lb (.tmp rfl)) <| jn ?_
   refine JC.ret ?_
   obtain rfl := so hq1
   exact JQ.done (js := [0]) (ss := [.val (HDR go_41 0 (List.length v_40) gc_42)]) (go_41, gc_42) (.inl rfl) (.nil rfl) rfl (.cons (.tmp rfl) .nil) rfl rfl rfl
 refine jr <| jc (op_assign lb .cI) <| jn <| JC.block ?_
 refine JC.pre ?_ (JC.loop (γ := Option Nat × Nat) (stf := fun s q => ⟨[(0, ov (S (rL r_api_Item) l_1)), (3, ov (HDR q.1 0 (List.length s.1) q.2)), (4, ov (S (rI .i64) s.2))], [cown q.1 (rL (rU UInt8)) s.1 0 q.2], []⟩) (q := ((some gb_5), 1)) hx1 ?_)
 · exact (Imp.norm (js := [0]) rfl (.cons rfl (.cons rfl (.cons rfl .nil))))
 intro s q x hx hr
 obtain ⟨o_6, i_7⟩ := s
 obtain ⟨go_8, gc_9⟩ := q
 change ref11_Items.b1 k l_1 o_6 i_7 = some x at hx
 unfold ref11_Items.b1 at hx
 refine JC.at ⟨[(0, ov (S (rL r_api_Item) l_1)), (3, ov (HDR go_8 0 (List.length o_6) gc_9)), (4, ov (S (rI .i64) i_7))], [cown go_8 (rL (rU UInt8)) o_6 0 gc_9], []⟩ ?_
 refine JC.seq <| jr <| jmv rfl rfl <| jmv rfl rfl <| jc (op_lenL lb tu23 (.tmp rfl)) ?_
 obtain ⟨v_10, hv_10, hx⟩ := lt1_inv hx
 refine jc (op_cmpI lb (.tmp rfl) (.tmp rfl) (cs hv_10)) <| jn ?_
 rcases iteB_inv hx with ⟨hc3, hx⟩ | ⟨hc3, hx⟩
 · refine JC.condT (.tmp rfl) hc3 ?_
   refine JC.skip ?_
   refine JQ.then ?_
   obtain ⟨o_33, hx4, hq4⟩ := bnd_inv hx
   refine JC.seqJ (γ := Option Nat × Nat) (stj := fun q => ⟨[(0, ov (S (rL r_api_Item) l_1)), (3, ov (HDR q.1 0 (List.length o_33) q.2)), (4, ov (S (rI .i64) i_7))], [cown q.1 (rL (rU UInt8)) o_33 0 q.2], []⟩) (fun q => ?_) ?_
   · obtain ⟨go_34, gc_35⟩ := q
     refine JC.at ⟨[(0, ov (S (rL r_api_Item) l_1)), (3, ov (HDR go_34 0 (List.length o_33) gc_35)), (4, ov (S (rI .i64) i_7))], [cown go_34 (rL (rU UInt8)) o_33 0 gc_35], []⟩ ?_
     refine JC.region <| jmv rfl rfl ?_
     obtain ⟨v_36, hv_36, hq4⟩ := lt1_inv hq4
     refine jc (op_arI lb (.tmp rfl) .cI (cs hv_36)) <| jc (op_assign lb (.tmp rfl)) <| JL.nil ?_
     try obtain rfl := so hq4
     exact JQ.next (go_34, gc_35) rfl (Imp.norm (js := [0]) rfl (.cons rfl (.cons rfl (.cons rfl .nil))))
   refine JC.block <| JC.seq ?_
   obtain ⟨v_11, hv_11, hx4⟩ := bnd_inv hx4
   obtain ⟨v_12, hv_12, hx4⟩ := bnd_inv hx4
   obtain ⟨v_15, hv_15, hx4⟩ := bnd_inv hx4
   obtain ⟨v_16, hv_16, hx4⟩ := bnd_inv hx4
   obtain ⟨o_17, hv_o_17, hx4⟩ := bnd_inv hx4
   refine JC.anyE (kl := [3]) (kk := 15) (base := [(0, ov (S (rL r_api_Item) l_1)), (3, ov (HDR go_8 0 (List.length o_6) gc_9)), (4, ov (S (rI .i64) i_7))])
       (fs := fun γ => [⟨some 16, ov (HDR go_8 0 (List.length o_6) gc_9)⟩, ⟨some 17, ov (S (rL r_api_Item) l_1)⟩, ⟨some 18, ov (S (rI .i64) i_7)⟩, ⟨some 19, ov (PT r_api_Item v_11)⟩, ⟨some 20, ov (PT r_api_Dot v_11.Dot)⟩, ⟨some 21, ov (A r_api_Dot v_11.Dot)⟩, ⟨some 22, ov (S (rL (rU UInt8)) v_12)⟩, ⟨some 23, ov (S (rL r_api_Item) l_1)⟩, ⟨some 24, ov (S (rI .i64) i_7)⟩, ⟨some 25, ov (PT r_api_Item v_15)⟩, ⟨some 26, ov (PT rB v_15.Gone)⟩, ⟨some 27, ov (S rB v_15.Gone)⟩, ⟨some 28, ov (S (rL (rU UInt8)) v_16)⟩, ⟨some 29, ov (S (rL (rL (rU UInt8))) ([v_12, v_16] : (List (List UInt8))))⟩, ⟨some 30, ov (HDR (deo (γ 14 0)) 0 (List.length o_17) (γ 14 1))⟩, ⟨some 3, ov (HDR (deo (γ 14 0)) 0 (List.length o_17) (γ 14 1))⟩])
       (rs := fun γ => [⟨cown go_8 (rL (rU UInt8)) o_6 0 gc_9, none, (some 14), []⟩, ⟨cown (deo (γ 14 0)) (rL (rU UInt8)) o_17 0 (γ 14 1), (some 14), none, []⟩])
       (ds := [16, 17, 18, 19, 20, 21, 22, 23, 24, 25, 26, 27, 28, 29, 30, 3]) (bs := [0, 3, 4]) (afts := [[], [], [], [], [], [], [], [], [], [], [], [], [], [], [14, 15], []]) (js := [0]) mixed (.cons rfl (.cons rfl (.cons rfl .nil))) (fun _ => rfl)
       (by
      refine db 1 3 <| db 2 0 <| db 3 4 <| dS 4 (fun γ ρ B hb hd => op_indexAddrLg lb tu23 tz62 (tl hd 1 17) (tl hd 2 18) hv_11) <| dS 5 (fun γ ρ B hb hd => op_fieldAddrP lb tf62_0 (tl hd 3 19) (comp_api_Item_Dot v_11)) ?_
      refine dS 6 (fun γ ρ B hb hd => op_loadPAg lb tA26 (tl hd 4 20) rfl) <| dS 7 (fun γ ρ B hb hd => (op_call (js := []) ld cl76 (sim_ref01_Dot k v_11.Dot v_12 hv_12) .func (.cons (tl hd 5 21) .nil) rfl).post (fun q => Imp.dropF (j := 0) rfl)) <| db 8 0 <| db 9 4 <| dS 10 (fun γ ρ B hb hd => op_indexAddrLg lb tu23 tz62 (tl hd 7 23) (tl hd 8 24) hv_15) ?_
      refine dS 11 (fun γ ρ B hb hd => op_fieldAddrP lb tf62_2 (tl hd 9 25) (comp_api_Item_Gone v_15)) <| dS 12 (fun γ ρ B hb hd => op_loadPSg lb tS4 rfl (tl hd 10 26) rfl) <| dS 13 (fun γ ρ B hb hd => (op_call (js := []) ld cl49 (sim_ref11_flag k v_15.Gone v_16 hv_16) .func (.cons (tl hd 11 27) .nil) rfl).post (fun _ => Imp.refl)) <| dS 14 (fun γ ρ B hb hd => op_buildF (r := (rL (rU UInt8))) lb tu77 tz27 tZ27 rfl (lE rfl) (.S rfl (tl hd 6 22) (.S rfl (tl hd 12 28) .nil)) rfl) ?_
      refine DSteps.cons (j := 15) rfl (fun _ => rfl) (.runX (fun _ _ => rfl) (fun γ ρ B hb hd => ⟨.none, OpX.ghost (γ := Option Nat × Nat) (st' := fun q => setO ⟨ρ, (cown q.1 (rL (rU UInt8)) o_17 0 q.2) :: B, _⟩ (some 30) (ov (HDR q.1 0 (List.length o_17) q.2))) (fun q c => bif Nat.beq c 0 then eno q.1 else q.2) (op_appendL (j := 0) lb tu77 tu77 rfl tB27 rfl (Nat.lt_of_lt_of_le Nat.zero_lt_one (lE rfl)) (Nat.lt_of_lt_of_le Nat.zero_lt_one (lE rfl))  rfl (tl hd 0 16) (tl hd 13 29) hv_o_17) (fun q => by obtain ⟨q0, q1⟩ := q; cases q0 <;> exact Imp.refl)⟩) (fun _ _ => rfl) (fun _ _ => rfl)) ?_
      refine dS 16 (fun γ ρ B hb hd => op_assign lb (tl hd 14 30)) ?_
      exact DSteps.nil)
       (by decide +kernel) (fun _ => rfl) rfl (fun _ => rfl) (fun _ => rfl) rfl (by decide) (by decide) (by decide +kernel) (fun _ d h => by simp at h; subst h; exact ⟨_, rfl, rfl⟩)
       (ρ' := fun γ => [(0, ov (S (rL r_api_Item) l_1)), (3, ov (HDR (deo (γ 14 0)) 0 (List.length o_17) (γ 14 1))), (4, ov (S (rI .i64) i_7))])
       (X' := fun γ => [cown (deo (γ 14 0)) (rL (rU UInt8)) o_17 0 (γ 14 1)])
       (fun γ ρ hb hd => (.cons (hb 0 _ rfl (by decide)) (.cons (hdq hd 15 3 rfl) (.cons (hb 4 _ rfl (by decide)) .nil)))) (fun _ => rfl) (fun γ => ?_)
   generalize (deo (γ 14 0)) = go_18
   generalize (γ 14 1) = gc_19
   clear γ
   refine JQ.at ⟨[(0, ov (S (rL r_api_Item) l_1)), (3, ov (HDR go_18 0 (List.length o_17) gc_19)), (4, ov (S (rI .i64) i_7))], [cown go_18 (rL (rU UInt8)) o_17 0 gc_19], []⟩ ?_
   refine JQ.then <| jr <| jmv rfl rfl <| jmv rfl rfl ?_
   obtain ⟨v_20, hv_20, hx4⟩ := bnd_inv hx4
   refine jc (op_indexAddrLg lb tu23 tz62 (.tmp rfl) (.tmp rfl) hv_20) <| jc (op_fieldAddrP lb tf62_2 (.tmp rfl) (comp_api_Item_Gone v_20)) <| jc (op_loadPSg lb tS4 rfl (.tmp rfl) rfl) ?_
   obtain ⟨v_21, hv_21, hx4⟩ := lt1_inv hx4
   refine jc (op_not lb (.tmp rfl) hv_21) <| jn ?_
   rcases iteB_inv hx4 with ⟨hc5, hx4⟩ | ⟨hc5, hx4⟩
   · refine JC.condT (.tmp rfl) hc5 ?_
     obtain ⟨v_22, hv_22, hx4⟩ := bnd_inv hx4
     obtain ⟨v_23, hv_23, hx4⟩ := bnd_inv hx4
     obtain ⟨v_26, hv_26, hx4⟩ := bnd_inv hx4
     obtain ⟨v_27, hv_27, hx4⟩ := bnd_inv hx4
     obtain ⟨o_30, hv_o_30, hx4⟩ := bnd_inv hx4
     refine JC.anyE (kl := [3]) (kk := 19) (base := [(0, ov (S (rL r_api_Item) l_1)), (3, ov (HDR go_18 0 (List.length o_17) gc_19)), (4, ov (S (rI .i64) i_7))])
         (fs := fun γ => [⟨some 37, ov (HDR go_18 0 (List.length o_17) gc_19)⟩, ⟨some 38, ov (S (rL r_api_Item) l_1)⟩, ⟨some 39, ov (S (rI .i64) i_7)⟩, ⟨some 40, ov (PT r_api_Item v_22)⟩, ⟨some 41, ov (PT r_api_Key v_22.Key)⟩, ⟨some 42, ov (PT rS v_22.Key.Topic)⟩, ⟨some 43, ov (S rS v_22.Key.Topic)⟩, ⟨some 44, ov (S (rL (rU UInt8)) v_22.Key.Topic)⟩, ⟨some 45, ov (S (rL (rU UInt8)) v_23)⟩, ⟨some 46, ov (S (rL r_api_Item) l_1)⟩, ⟨some 47, ov (S (rI .i64) i_7)⟩, ⟨some 48, ov (PT r_api_Item v_26)⟩, ⟨some 49, ov (PT r_api_Key v_26.Key)⟩, ⟨some 50, ov (PT rS v_26.Key.Device)⟩, ⟨some 51, ov (S rS v_26.Key.Device)⟩, ⟨some 52, ov (S (rL (rU UInt8)) v_26.Key.Device)⟩, ⟨some 53, ov (S (rL (rU UInt8)) v_27)⟩, ⟨some 54, ov (S (rL (rL (rU UInt8))) ([v_23, v_27] : (List (List UInt8))))⟩, ⟨some 55, ov (HDR (deo (γ 18 0)) 0 (List.length o_30) (γ 18 1))⟩, ⟨some 3, ov (HDR (deo (γ 18 0)) 0 (List.length o_30) (γ 18 1))⟩])
         (rs := fun γ => [⟨cown go_18 (rL (rU UInt8)) o_17 0 gc_19, none, (some 18), []⟩, ⟨cown (deo (γ 18 0)) (rL (rU UInt8)) o_30 0 (γ 18 1), (some 18), none, []⟩])
         (ds := [37, 38, 39, 40, 41, 42, 43, 44, 45, 46, 47, 48, 49, 50, 51, 52, 53, 54, 55, 3]) (bs := [0, 3, 4]) (afts := [[], [], [], [], [], [], [], [], [], [], [], [], [], [], [], [], [], [], [18, 19], []]) (js := [0]) mixed (.cons rfl (.cons rfl (.cons rfl .nil))) (fun _ => rfl)
         (by
      refine db 1 3 <| db 2 0 <| db 3 4 <| dS 4 (fun γ ρ B hb hd => op_indexAddrLg lb tu23 tz62 (tl hd 1 38) (tl hd 2 39) hv_22) <| dS 5 (fun γ ρ B hb hd => op_fieldAddrP lb tf62_1 (tl hd 3 40) (comp_api_Item_Key v_22)) ?_
      refine dS 6 (fun γ ρ B hb hd => op_fieldAddrP lb tf60_0 (tl hd 4 41) (comp_api_Key_Topic v_22.Key)) <| dS 7 (fun γ ρ B hb hd => op_loadPSg lb tS9 rfl (tl hd 5 42) rfl) <| dS 8 (fun γ ρ B hb hd => op_convSB lb tu9 tu27 tu5 (tl hd 6 43)) <| dS 9 (fun γ ρ B hb hd => (op_call (js := []) ld cl77 (sim_ref01_Blob k v_22.Key.Topic v_23 hv_23) .func (.cons (tl hd 7 44) .nil) rfl).post (fun q => Imp.dropF (j := 0) rfl)) <| db 10 0 ?_
      refine db 11 4 <| dS 12 (fun γ ρ B hb hd => op_indexAddrLg lb tu23 tz62 (tl hd 9 46) (tl hd 10 47) hv_26) <| dS 13 (fun γ ρ B hb hd => op_fieldAddrP lb tf62_1 (tl hd 11 48) (comp_api_Item_Key v_26)) <| dS 14 (fun γ ρ B hb hd => op_fieldAddrP lb tf60_1 (tl hd 12 49) (comp_api_Key_Device v_26.Key)) <| dS 15 (fun γ ρ B hb hd => op_loadPSg lb tS9 rfl (tl hd 13 50) rfl) ?_
      refine dS 16 (fun γ ρ B hb hd => op_convSB lb tu9 tu27 tu5 (tl hd 14 51)) <| dS 17 (fun γ ρ B hb hd => (op_call (js := []) ld cl77 (sim_ref01_Blob k v_26.Key.Device v_27 hv_27) .func (.cons (tl hd 15 52) .nil) rfl).post (fun q => Imp.dropF (j := 0) rfl)) <| dS 18 (fun γ ρ B hb hd => op_buildF (r := (rL (rU UInt8))) lb tu77 tz27 tZ27 rfl (lE rfl) (.S rfl (tl hd 8 45) (.S rfl (tl hd 16 53) .nil)) rfl) ?_
      refine DSteps.cons (j := 19) rfl (fun _ => rfl) (.runX (fun _ _ => rfl) (fun γ ρ B hb hd => ⟨.none, OpX.ghost (γ := Option Nat × Nat) (st' := fun q => setO ⟨ρ, (cown q.1 (rL (rU UInt8)) o_30 0 q.2) :: B, _⟩ (some 55) (ov (HDR q.1 0 (List.length o_30) q.2))) (fun q c => bif Nat.beq c 0 then eno q.1 else q.2) (op_appendL (j := 0) lb tu77 tu77 rfl tB27 rfl (Nat.lt_of_lt_of_le Nat.zero_lt_one (lE rfl)) (Nat.lt_of_lt_of_le Nat.zero_lt_one (lE rfl))  rfl (tl hd 0 37) (tl hd 17 54) hv_o_30) (fun q => by obtain ⟨q0, q1⟩ := q; cases q0 <;> exact Imp.refl)⟩) (fun _ _ => rfl) (fun _ _ => rfl)) ?_
      refine dS 20 (fun γ ρ B hb hd => op_assign lb (tl hd 18 55)) ?_
      exact DSteps.nil)
         (by decide +kernel) (fun _ => rfl) rfl (fun _ => rfl) (fun _ => rfl) rfl (by decide) (by decide) (by decide +kernel) (fun _ d h => by simp at h; subst h; exact ⟨_, rfl, rfl⟩)
         (ρ' := fun γ => [(0, ov (S (rL r_api_Item) l_1)), (3, ov (HDR (deo (γ 18 0)) 0 (List.length o_30) (γ 18 1))), (4, ov (S (rI .i64) i_7))])
         (X' := fun γ => [cown (deo (γ 18 0)) (rL (rU UInt8)) o_30 0 (γ 18 1)])
         (fun γ ρ hb hd => (.cons (hb 0 _ rfl (by decide)) (.cons (hdq hd 19 3 rfl) (.cons (hb 4 _ rfl (by decide)) .nil)))) (fun _ => rfl) (fun γ => ?_)
     generalize (deo (γ 18 0)) = go_31
     generalize (γ 18 1) = gc_32
     clear γ
     refine JQ.at ⟨[(0, ov (S (rL r_api_Item) l_1)), (3, ov (HDR go_31 0 (List.length o_30) gc_32)), (4, ov (S (rI .i64) i_7))], [cown go_31 (rL (rU UInt8)) o_30 0 gc_32], []⟩ ?_
     refine JQ.outNB ?_
     try obtain rfl := so hx4
     exact JQ.join (go_31, gc_32) (Imp.norm (js := [0]) rfl (.cons rfl (.cons rfl (.cons rfl .nil))))
   refine JC.condF (.tmp rfl) hc5 ?_
   refine JC.skip ?_
   refine JQ.outNB ?_
   try obtain rfl := so hx4
   exact JQ.join (go_18, gc_19) (Imp.norm (js := [0]) rfl (.cons rfl (.cons rfl (.cons rfl .nil))))
 refine JC.condF (.tmp rfl) hc3 ?_
 refine JC.exit ?_
 refine JQ.outX ?_
 try obtain rfl := so hx
 have ht := hr _ rfl
 have hq2 := cs ht
 clear hr ht
 refine JQ.outX ?_
 refine JQ.here ?_
 try obtain rfl := so hq2
 exact JQ.join (go_8, gc_9) (Imp.norm (js := [0]) rfl (.cons rfl .nil))

theorem sim_ref11_sameItems (k : Nat) (a_1 : (List api_Item)) (b_2 : (List api_Item)) (r : Bool) (hm : ref11_sameItems k a_1 b_2 = some r) : Sim Tryz.prog 63 [S (rL r_api_Item) a_1, S (rL r_api_Item) b_2] [] (γ := Unit) (fun q => []) (fun q => .one (.val (S rB r))) := by
 unfold ref11_sameItems at hm
 refine Sim.of Tryz.func63 rfl rfl (lE rfl) (fun e0 w0 => ?_)
 refine JC.at ⟨[(0, ov (S (rL r_api_Item) a_1)), (1, ov (S (rL r_api_Item) b_2))], [], []⟩ ?_
 refine jr <| jc (op_assign lb .cB) <| jn <| JC.seq <| jr ?_
 refine jmv rfl rfl <| jc (op_lenL lb tu23 (.tmp rfl)) <| jmv rfl rfl <| jc (op_lenL lb tu23 (.tmp rfl)) ?_
 obtain ⟨v_3, hv_3, hm⟩ := lt1_inv hm
 refine jc (op_cmpI lb (.tmp rfl) (.tmp rfl) (cs hv_3)) <| jn ?_
 rcases iteB_inv hm with ⟨hc1, hm⟩ | ⟨hc1, hm⟩
 · refine JC.condT (.tmp rfl) hc1 ?_
   refine jr <| jc (op_assign lb .cB) <| jn ?_
   refine JC.ret ?_
   refine JQ.outR ?_
   obtain rfl := so hm
   exact jd (.val (S rB false)) rfl rfl rfl rfl rfl rfl
 refine JC.condF (.tmp rfl) hc1 ?_
 refine JC.skip ?_
 refine JQ.then ?_
 obtain ⟨tv2, hx2, hq2⟩ := bnd_inv hm
 refine JC.seqK (α := Unit) (γ := Unit) (stj := fun v q => ⟨[], [], []⟩) (p := fun v => tv2 = (.inl v)) (fun v q hv => ?_) ?_
 · subst hv
   skip
   obtain _ := q
   dsimp only at hq2
   refine JC.at ⟨[], [], []⟩ ?_
   refine jr <| jc (op_assign lb .cB) <| jn ?_
   refine JC.ret ?_
   obtain rfl := so hq2
   exact jd (.val (S rB true)) rfl rfl rfl rfl rfl rfl
 refine jr <| jc (op_assign lb .cI) <| jn <| JC.block ?_
 obtain ⟨tv3, hL3, hq3⟩ := bnd_inv hx2
 refine JC.pre ?_ (JC.loop (γ := Unit) (stf := fun s q => ⟨[(0, ov (S (rL r_api_Item) a_1)), (1, ov (S (rL r_api_Item) b_2)), (5, ov (S (rI .i64) s))], [], []⟩) (q := ()) hL3 ?_)
 · exact (Imp.norm (js := []) rfl (.cons rfl (.cons rfl (.cons rfl .nil))))
 intro i_4 q x hx hr
 obtain _ := q
 change ref11_sameItems.b1 k a_1 b_2 i_4 = some x at hx
 unfold ref11_sameItems.b1 at hx
 refine JC.at ⟨[(0, ov (S (rL r_api_Item) a_1)), (1, ov (S (rL r_api_Item) b_2)), (5, ov (S (rI .i64) i_4))], [], []⟩ ?_
 refine JC.seq <| jr <| jmv rfl rfl <| jmv rfl rfl <| jc (op_lenL lb tu23 (.tmp rfl)) ?_
 obtain ⟨v_5, hv_5, hx⟩ := lt1_inv hx
 refine jc (op_cmpI lb (.tmp rfl) (.tmp rfl) (cs hv_5)) <| jn ?_
 rcases iteB_inv hx with ⟨hc4, hx⟩ | ⟨hc4, hx⟩
 · refine JC.condT (.tmp rfl) hc4 ?_
   refine JC.skip ?_
   refine JQ.then <| JC.seq <| JC.block <| JC.seq ?_
   obtain ⟨v_6, hv_6, hx⟩ := bnd_inv hx
   obtain ⟨v_7, hv_7, hx⟩ := bnd_inv hx
   obtain ⟨v_8, hv_8, hx⟩ := lt1_inv hx
   refine JC.anyF (base := [(0, ov (S (rL r_api_Item) a_1)), (1, ov (S (rL r_api_Item) b_2)), (5, ov (S (rI .i64) i_4))])
       (fs := fun γ => [⟨some 17, ov (S (rL r_api_Item) a_1)⟩, ⟨some 18, ov (S (rI .i64) i_4)⟩, ⟨some 19, ov (PT r_api_Item v_6)⟩, ⟨some 20, ov (A r_api_Item v_6)⟩, ⟨some 21, ov (S (rL r_api_Item) b_2)⟩, ⟨some 22, ov (S (rI .i64) i_4)⟩, ⟨some 23, ov (PT r_api_Item v_7)⟩, ⟨some 24, ov (A r_api_Item v_7)⟩, ⟨some 25, ov (S rB v_8)⟩])
       (rs := fun γ => [])
       (afts := nn 9) (js := []) mixed (.cons rfl (.cons rfl (.cons rfl .nil))) (fun _ => rfl)
       (by
      refine db 1 0 <| db 2 5 <| dS 3 (fun γ ρ B hb hd => op_indexAddrLg lb tu23 tz62 (tl hd 0 17) (tl hd 1 18) hv_6) <| dS 4 (fun γ ρ B hb hd => op_loadPAg lb tA62 (tl hd 2 19) rfl) <| db 5 1 ?_
      refine db 6 5 <| dS 7 (fun γ ρ B hb hd => op_indexAddrLg lb tu23 tz62 (tl hd 4 21) (tl hd 5 22) hv_7) <| dS 8 (fun γ ρ B hb hd => op_loadPAg lb tA62 (tl hd 6 23) rfl) <| dS 9 (fun γ ρ B hb hd => op_neA lb qa62 (by decide) ng62 (tl hd 3 20) (tl hd 7 24) hv_8) ?_
      exact DSteps.nil)
       (by decide +kernel) (fun _ => rfl) (fun _ => rfl) (fun _ => rfl) rfl
       (ρ' := fun γ => [(0, ov (S (rL r_api_Item) a_1)), (1, ov (S (rL r_api_Item) b_2)), (5, ov (S (rI .i64) i_4)), (25, ov (S rB v_8))])
       (X' := fun γ => [])
       (fun γ ρ hb hd => (.cons (hb 0 _ rfl) (.cons (hb 1 _ rfl) (.cons (hb 5 _ rfl) (.cons (hdq hd 8 25 rfl) .nil))))) (fun _ => rfl) (fun γ => ?_)
   refine JQ.at ⟨[(0, ov (S (rL r_api_Item) a_1)), (1, ov (S (rL r_api_Item) b_2)), (5, ov (S (rI .i64) i_4)), (25, ov (S rB v_8))], [], []⟩ ?_
   refine JQ.then ?_
   rcases iteB_inv hx with ⟨hc5, hx⟩ | ⟨hc5, hx⟩
   · refine JC.condT (.tmp rfl) hc5 ?_
     refine jr <| jc (op_assign lb .cB) <| jn ?_
     refine JC.ret ?_
     refine JQ.outRB ?_
     refine JQ.outR ?_
     try obtain rfl := so hx
     have ht := hr _ rfl
     clear hr
     first | subst ht | clear ht
     dsimp only at hq3
     refine JQ.outR ?_
     refine JQ.outRB ?_
     try obtain rfl := so hq3
     dsimp only at hq2
     refine JQ.outR ?_
     obtain rfl := so hq2
     exact jd (.val (S rB false)) rfl rfl rfl rfl rfl rfl
   refine JC.condF (.tmp rfl) hc5 ?_
   refine JC.skip ?_
   refine JQ.outNB ?_
   refine JQ.then <| JC.region <| jmv rfl rfl ?_
   obtain ⟨v_9, hv_9, hx⟩ := lt1_inv hx
   refine jc (op_arI lb (.tmp rfl) .cI (cs hv_9)) <| jc (op_assign lb (.tmp rfl)) <| JL.nil ?_
   try obtain rfl := so hx
   exact JQ.next () rfl (Imp.norm (js := []) rfl (.cons rfl (.cons rfl (.cons rfl .nil))))
 refine JC.condF (.tmp rfl) hc4 ?_
 refine JC.exit ?_
 refine JQ.outX ?_
 try obtain rfl := so hx
 have ht := hr _ rfl
 clear hr
 first | subst ht | clear ht
 dsimp only at hq3
 refine JQ.outX ?_
 refine JQ.here ?_
 try obtain rfl := so hq3
 exact JQ.joinK () () rfl (Imp.norm (js := []) rfl .nil)

theorem sim_ref11_sameDots (k : Nat) (a_1 : (List api_Dot)) (b_2 : (List api_Dot)) (r : Bool) (hm : ref11_sameDots k a_1 b_2 = some r) : Sim Tryz.prog 64 [S (rL r_api_Dot) a_1, S (rL r_api_Dot) b_2] [] (γ := Unit) (fun q => []) (fun q => .one (.val (S rB r))) := by
 unfold ref11_sameDots at hm
 refine Sim.of Tryz.func64 rfl rfl (lE rfl) (fun e0 w0 => ?_)
 refine JC.at ⟨[(0, ov (S (rL r_api_Dot) a_1)), (1, ov (S (rL r_api_Dot) b_2))], [], []⟩ ?_
 refine jr <| jc (op_assign lb .cB) <| jn <| JC.seq <| jr ?_
 refine jmv rfl rfl <| jc (op_lenL lb tu33 (.tmp rfl)) <| jmv rfl rfl <| jc (op_lenL lb tu33 (.tmp rfl)) ?_
 obtain ⟨v_3, hv_3, hm⟩ := lt1_inv hm
 refine jc (op_cmpI lb (.tmp rfl) (.tmp rfl) (cs hv_3)) <| jn ?_
 rcases iteB_inv hm with ⟨hc1, hm⟩ | ⟨hc1, hm⟩
 · refine JC.condT (.tmp rfl) hc1 ?_
   refine jr <| jc (op_assign lb .cB) <| jn ?_
   refine JC.ret ?_
   refine JQ.outR ?_
   obtain rfl := so hm
   exact jd (.val (S rB false)) rfl rfl rfl rfl rfl rfl
 refine JC.condF (.tmp rfl) hc1 ?_
 refine JC.skip ?_
 refine JQ.then ?_
 obtain ⟨tv2, hx2, hq2⟩ := bnd_inv hm
 refine JC.seqK (α := Unit) (γ := Unit) (stj := fun v q => ⟨[], [], []⟩) (p := fun v => tv2 = (.inl v)) (fun v q hv => ?_) ?_
 · subst hv
   skip
   obtain _ := q
   dsimp only at hq2
   refine JC.at ⟨[], [], []⟩ ?_
   refine jr <| jc (op_assign lb .cB) <| jn ?_
   refine JC.ret ?_
   obtain rfl := so hq2
   exact jd (.val (S rB true)) rfl rfl rfl rfl rfl rfl
 refine jr <| jc (op_assign lb .cI) <| jn <| JC.block ?_
 obtain ⟨tv3, hL3, hq3⟩ := bnd_inv hx2
 refine JC.pre ?_ (JC.loop (γ := Unit) (stf := fun s q => ⟨[(0, ov (S (rL r_api_Dot) a_1)), (1, ov (S (rL r_api_Dot) b_2)), (5, ov (S (rI .i64) s))], [], []⟩) (q := ()) hL3 ?_)
 · exact (Imp.norm (js := []) rfl (.cons rfl (.cons rfl (.cons rfl .nil))))
 intro i_4 q x hx hr
 obtain _ := q
 change ref11_sameDots.b1 k a_1 b_2 i_4 = some x at hx
 unfold ref11_sameDots.b1 at hx
 refine JC.at ⟨[(0, ov (S (rL r_api_Dot) a_1)), (1, ov (S (rL r_api_Dot) b_2)), (5, ov (S (rI .i64) i_4))], [], []⟩ ?_
 refine JC.seq <| jr <| jmv rfl rfl <| jmv rfl rfl <| jc (op_lenL lb tu33 (.tmp rfl)) ?_
 obtain ⟨v_5, hv_5, hx⟩ := lt1_inv hx
 refine jc (op_cmpI lb (.tmp rfl) (.tmp rfl) (cs hv_5)) <| jn ?_
 rcases iteB_inv hx with ⟨hc4, hx⟩ | ⟨hc4, hx⟩
 · refine JC.condT (.tmp rfl) hc4 ?_
   refine JC.skip ?_
   refine JQ.then <| JC.seq <| JC.block <| JC.seq ?_
   obtain ⟨v_6, hv_6, hx⟩ := bnd_inv hx
   obtain ⟨v_7, hv_7, hx⟩ := bnd_inv hx
   obtain ⟨v_8, hv_8, hx⟩ := lt1_inv hx
   refine JC.anyF (base := [(0, ov (S (rL r_api_Dot) a_1)), (1, ov (S (rL r_api_Dot) b_2)), (5, ov (S (rI .i64) i_4))])
       (fs := fun γ => [⟨some 17, ov (S (rL r_api_Dot) a_1)⟩, ⟨some 18, ov (S (rI .i64) i_4)⟩, ⟨some 19, ov (PT r_api_Dot v_6)⟩, ⟨some 20, ov (A r_api_Dot v_6)⟩, ⟨some 21, ov (S (rL r_api_Dot) b_2)⟩, ⟨some 22, ov (S (rI .i64) i_4)⟩, ⟨some 23, ov (PT r_api_Dot v_7)⟩, ⟨some 24, ov (A r_api_Dot v_7)⟩, ⟨some 25, ov (S rB v_8)⟩])
       (rs := fun γ => [])
       (afts := nn 9) (js := []) mixed (.cons rfl (.cons rfl (.cons rfl .nil))) (fun _ => rfl)
       (by
      refine db 1 0 <| db 2 5 <| dS 3 (fun γ ρ B hb hd => op_indexAddrLg lb tu33 tz26 (tl hd 0 17) (tl hd 1 18) hv_6) <| dS 4 (fun γ ρ B hb hd => op_loadPAg lb tA26 (tl hd 2 19) rfl) <| db 5 1 ?_
      refine db 6 5 <| dS 7 (fun γ ρ B hb hd => op_indexAddrLg lb tu33 tz26 (tl hd 4 21) (tl hd 5 22) hv_7) <| dS 8 (fun γ ρ B hb hd => op_loadPAg lb tA26 (tl hd 6 23) rfl) <| dS 9 (fun γ ρ B hb hd => op_neA lb qa26 (by decide) ng26 (tl hd 3 20) (tl hd 7 24) hv_8) ?_
      exact DSteps.nil)
       (by decide +kernel) (fun _ => rfl) (fun _ => rfl) (fun _ => rfl) rfl
       (ρ' := fun γ => [(0, ov (S (rL r_api_Dot) a_1)), (1, ov (S (rL r_api_Dot) b_2)), (5, ov (S (rI .i64) i_4)), (25, ov (S rB v_8))])
       (X' := fun γ => [])
       (fun γ ρ hb hd => (.cons (hb 0 _ rfl) (.cons (hb 1 _ rfl) (.cons (hb 5 _ rfl) (.cons (hdq hd 8 25 rfl) .nil))))) (fun _ => rfl) (fun γ => ?_)
   refine JQ.at ⟨[(0, ov (S (rL r_api_Dot) a_1)), (1, ov (S (rL r_api_Dot) b_2)), (5, ov (S (rI .i64) i_4)), (25, ov (S rB v_8))], [], []⟩ ?_
   refine JQ.then ?_
   rcases iteB_inv hx with ⟨hc5, hx⟩ | ⟨hc5, hx⟩
   · refine JC.condT (.tmp rfl) hc5 ?_
     refine jr <| jc (op_assign lb .cB) <| jn ?_
     refine JC.ret ?_
     refine JQ.outRB ?_
     refine JQ.outR ?_
     try obtain rfl := so hx
     have ht := hr _ rfl
     clear hr
     first | subst ht | clear ht
     dsimp only at hq3
     refine JQ.outR ?_
     refine JQ.outRB ?_
     try obtain rfl := so hq3
     dsimp only at hq2
     refine JQ.outR ?_
     obtain rfl := so hq2
     exact jd (.val (S rB false)) rfl rfl rfl rfl rfl rfl
   refine JC.condF (.tmp rfl) hc5 ?_
   refine JC.skip ?_
   refine JQ.outNB ?_
   refine JQ.then <| JC.region <| jmv rfl rfl ?_
   obtain ⟨v_9, hv_9, hx⟩ := lt1_inv hx
   refine jc (op_arI lb (.tmp rfl) .cI (cs hv_9)) <| jc (op_assign lb (.tmp rfl)) <| JL.nil ?_
   try obtain rfl := so hx
   exact JQ.next () rfl (Imp.norm (js := []) rfl (.cons rfl (.cons rfl (.cons rfl .nil))))
 refine JC.condF (.tmp rfl) hc4 ?_
 refine JC.exit ?_
 refine JQ.outX ?_
 try obtain rfl := so hx
 have ht := hr _ rfl
 clear hr
 first | subst ht | clear ht
 dsimp only at hq3
 refine JQ.outX ?_
 refine JQ.here ?_
 try obtain rfl := so hq3
 exact JQ.joinK () () rfl (Imp.norm (js := []) rfl .nil)

theorem sim_ref09_Same (k : Nat) (a_1 : api_Event) (b_2 : api_Event) (r : Bool) (hm : ref09_Same k a_1 b_2 = some r) : Sim Tryz.prog 65 [A r_api_Event a_1, A r_api_Event b_2] [] (γ := Unit) (fun q => []) (fun q => .one (.val (S rB r))) := by
 unfold ref09_Same at hm
 refine Sim.of Tryz.func65 rfl rfl (lE rfl) (fun e0 w0 => ?_)
 refine JC.at ⟨[(0, ov (A r_api_Event a_1)), (1, ov (A r_api_Event b_2))], [], []⟩ ?_
 refine jr ?_
 refine jx (op_boxA lb (.tmp rfl)) (fun gb_3 => ?_)
 refine jx (op_boxA lb (.tmp rfl)) (fun gb_4 => ?_)
 refine jc (op_assign lb .cB) <| jn <| JC.seq ?_
 obtain ⟨x_10, hx1, hq1⟩ := bnd_inv hm
 refine JC.seqJ (γ := Unit) (stj := fun _ => ⟨[(2, ov (PTR gb_3 0)), (3, ov (PTR gb_4 0)), (42, ov (S rB x_10))], [cvar gb_3 r_api_Event a_1, cvar gb_4 r_api_Event b_2], []⟩) (fun _ => ?_) ?_
 · rcases iteB_inv hq1 with ⟨hc10, hq1⟩ | ⟨hc10, hq1⟩
   · refine JC.condT (.tmp rfl) hc10 ?_
     refine jr <| jc (op_assign lb .cB) <| jn ?_
     refine JC.ret ?_
     refine JQ.outR ?_
     obtain rfl := so hq1
     exact jd (.val (S rB false)) rfl rfl rfl rfl rfl rfl
   refine JC.condF (.tmp rfl) hc10 ?_
   refine JC.skip ?_
   refine JQ.then ?_
   obtain ⟨tv11, hx11, hq11⟩ := bnd_inv hq1
   refine JC.seqK (α := Unit) (γ := Unit) (stj := fun v q => ⟨[], [], []⟩) (p := fun v => tv11 = (.inl v)) (fun v q hv => ?_) ?_
   · subst hv
     skip
     obtain _ := q
     dsimp only at hq11
     refine JC.at ⟨[], [], []⟩ ?_
     refine jr <| jc (op_assign lb .cB) <| jn ?_
     refine JC.ret ?_
     obtain rfl := so hq11
     exact jd (.val (S rB true)) rfl rfl rfl rfl rfl rfl
   refine jr <| jc (op_assign lb .cI) <| jn <| JC.block ?_
   obtain ⟨tv12, hL12, hq12⟩ := bnd_inv hx11
   refine JC.pre ?_ (JC.loop (γ := Unit) (stf := fun s q => ⟨[(2, ov (PTR gb_3 0)), (3, ov (PTR gb_4 0)), (5, ov (S (rI .i64) s))], [cvar gb_3 r_api_Event a_1, cvar gb_4 r_api_Event b_2], []⟩) (q := ()) hL12 ?_)
   · exact (Imp.norm (js := [0, 0]) rfl (.cons rfl (.cons rfl (.cons rfl .nil))))
   intro i_11 q x hx hr
   obtain _ := q
   change ref09_Same.b1 k a_1 b_2 i_11 = some x at hx
   unfold ref09_Same.b1 at hx
   refine JC.at ⟨[(2, ov (PTR gb_3 0)), (3, ov (PTR gb_4 0)), (5, ov (S (rI .i64) i_11))], [cvar gb_3 r_api_Event a_1, cvar gb_4 r_api_Event b_2], []⟩ ?_
   refine JC.seq <| jr <| jmv rfl rfl <| jc (op_fieldAddr (off := 20) lb tf32_4 (.tmp rfl)) <| jc (op_loadS (j := 0) lb tS30 (.tmp rfl) rfl (cT (comp_api_Event_To a_1) rfl) rfl rfl) ?_
   refine jc (op_lenL lb tu30 (.tmp rfl)) ?_
   obtain ⟨v_12, hv_12, hx⟩ := lt1_inv hx
   refine jc (op_cmpI lb (.tmp rfl) (.tmp rfl) (cs hv_12)) <| jn ?_
   rcases iteB_inv hx with ⟨hc13, hx⟩ | ⟨hc13, hx⟩
   · refine JC.condT (.tmp rfl) hc13 ?_
     refine JC.skip ?_
     refine JQ.then <| JC.seq <| JC.block <| JC.seq ?_
     obtain ⟨v_13, hv_13, hx⟩ := bnd_inv hx
     obtain ⟨v_14, hv_14, hx⟩ := bnd_inv hx
     obtain ⟨v_15, hv_15, hx⟩ := lt1_inv hx
     refine JC.anyF (base := [(2, ov (PTR gb_3 0)), (3, ov (PTR gb_4 0)), (5, ov (S (rI .i64) i_11))])
         (fs := fun γ => [⟨some 50, ov (PTR gb_3 (0 + 20))⟩, ⟨some 51, ov (S (rL r_api_Dest) a_1.To)⟩, ⟨some 52, ov (S (rI .i64) i_11)⟩, ⟨some 53, ov (PT r_api_Dest v_13)⟩, ⟨some 54, ov (A r_api_Dest v_13)⟩, ⟨some 55, ov (PTR gb_4 (0 + 20))⟩, ⟨some 56, ov (S (rL r_api_Dest) b_2.To)⟩, ⟨some 57, ov (S (rI .i64) i_11)⟩, ⟨some 58, ov (PT r_api_Dest v_14)⟩, ⟨some 59, ov (A r_api_Dest v_14)⟩, ⟨some 60, ov (S rB v_15)⟩])
         (rs := fun γ => [⟨cvar gb_3 r_api_Event a_1, none, none, [1]⟩, ⟨cvar gb_4 r_api_Event b_2, none, none, [6]⟩])
         (afts := nn 11) (js := [0, 0]) mixed (.cons rfl (.cons rfl (.cons rfl .nil))) (fun _ => rfl)
         (by
      refine dS 1 (fun γ ρ B hb hd => op_fieldAddr (off := 20) lb tf32_4 (.tmp (hb 2 _ rfl))) <| dR 2 (fun γ ρ B hb hd => OpStep.lk ⟨ρ, (cvar gb_3 r_api_Event a_1) :: B, _⟩ (op_loadS (j := 0) lb tS30 (tl hd 0 50) rfl (cT (comp_api_Event_To a_1) rfl) rfl rfl)) <| db 3 5 <| dS 4 (fun γ ρ B hb hd => op_indexAddrLg lb tu30 tz125 (tl hd 1 51) (tl hd 2 52) hv_13) <| dS 5 (fun γ ρ B hb hd => op_loadPAg lb tA125 (tl hd 3 53) rfl) ?_
      refine dS 6 (fun γ ρ B hb hd => op_fieldAddr (off := 20) lb tf32_4 (.tmp (hb 3 _ rfl))) <| dR 7 (fun γ ρ B hb hd => OpStep.lk ⟨ρ, (cvar gb_4 r_api_Event b_2) :: B, _⟩ (op_loadS (j := 0) lb tS30 (tl hd 5 55) rfl (cT (comp_api_Event_To b_2) rfl) rfl rfl)) <| db 8 5 <| dS 9 (fun γ ρ B hb hd => op_indexAddrLg lb tu30 tz125 (tl hd 6 56) (tl hd 7 57) hv_14) <| dS 10 (fun γ ρ B hb hd => op_loadPAg lb tA125 (tl hd 8 58) rfl) ?_
      refine dS 11 (fun γ ρ B hb hd => op_neA lb qa125 (by decide) ng125 (tl hd 4 54) (tl hd 9 59) hv_15) ?_
      exact DSteps.nil)
         (by decide +kernel) (fun _ => rfl) (fun _ => rfl) (fun _ => rfl) rfl
         (ρ' := fun γ => [(2, ov (PTR gb_3 0)), (3, ov (PTR gb_4 0)), (5, ov (S (rI .i64) i_11)), (60, ov (S rB v_15))])
         (X' := fun γ => [cvar gb_3 r_api_Event a_1, cvar gb_4 r_api_Event b_2])
         (fun γ ρ hb hd => (.cons (hb 2 _ rfl) (.cons (hb 3 _ rfl) (.cons (hb 5 _ rfl) (.cons (hdq hd 10 60 rfl) .nil))))) (fun _ => rfl) (fun γ => ?_)
     refine JQ.at ⟨[(2, ov (PTR gb_3 0)), (3, ov (PTR gb_4 0)), (5, ov (S (rI .i64) i_11)), (60, ov (S rB v_15))], [cvar gb_3 r_api_Event a_1, cvar gb_4 r_api_Event b_2], []⟩ ?_
     refine JQ.then ?_
     rcases iteB_inv hx with ⟨hc14, hx⟩ | ⟨hc14, hx⟩
     · refine JC.condT (.tmp rfl) hc14 ?_
       refine jr <| jc (op_assign lb .cB) <| jn ?_
       refine JC.ret ?_
       refine JQ.outRB ?_
       refine JQ.outR ?_
       try obtain rfl := so hx
       have ht := hr _ rfl
       clear hr
       first | subst ht | clear ht
       dsimp only at hq12
       refine JQ.outR ?_
       refine JQ.outRB ?_
       try obtain rfl := so hq12
       dsimp only at hq11
       refine JQ.outR ?_
       obtain rfl := so hq11
       exact jd (.val (S rB false)) rfl rfl rfl rfl rfl rfl
     refine JC.condF (.tmp rfl) hc14 ?_
     refine JC.skip ?_
     refine JQ.outNB ?_
     refine JQ.then <| JC.region <| jmv rfl rfl ?_
     obtain ⟨v_16, hv_16, hx⟩ := lt1_inv hx
     refine jc (op_arI lb (.tmp rfl) .cI (cs hv_16)) <| jc (op_assign lb (.tmp rfl)) <| JL.nil ?_
     try obtain rfl := so hx
     exact JQ.next () rfl (Imp.norm (js := [0, 0]) rfl (.cons rfl (.cons rfl (.cons rfl .nil))))
   refine JC.condF (.tmp rfl) hc13 ?_
   refine JC.exit ?_
   refine JQ.outX ?_
   try obtain rfl := so hx
   have ht := hr _ rfl
   clear hr
   first | subst ht | clear ht
   dsimp only at hq12
   refine JQ.outX ?_
   refine JQ.here ?_
   try obtain rfl := so hq12
   exact JQ.joinK () () rfl (Imp.norm (js := []) rfl .nil)
 refine JC.region <| jc (op_fieldAddr (off := 0) lb tf32_0 (.tmp rfl)) <| jc (op_loadA (j := 0) lb tA26 (.tmp rfl) rfl (cT (comp_api_Event_ID a_1) rfl) rfl) <| jc (op_fieldAddr (off := 0) lb tf32_0 (.tmp rfl)) <| jc (op_loadA (j := 1) lb tA26 (.tmp rfl) rfl (cT (comp_api_Event_ID b_2) rfl) rfl) ?_
 obtain ⟨v_5, hv_5, hx1⟩ := lt1_inv hx1
 refine jc (op_neA lb qa26 (by decide) ng26 (.tmp rfl) (.tmp rfl) hv_5) ?_
 refine JL.sub ⟨[(2, ov (PTR gb_3 0)), (3, ov (PTR gb_4 0)), (10, ov (S rB v_5))], [cvar gb_3 r_api_Event a_1, cvar gb_4 r_api_Event b_2], []⟩ (.cons rfl (.cons rfl (.cons rfl .nil))) rfl rfl ?_
 refine jmv rfl rfl ?_
 rcases iteB_inv hx1 with ⟨hc3, hx1⟩ | ⟨hc3, hx1⟩
 · refine jk rfl hc3 <| jk rfl hc3 <| jk rfl hc3 <| jk rfl hc3 <| jk rfl hc3 ?_
   refine jc (op_pickT lb (.tmp rfl) hc3 .cB) <| jmv rfl rfl <| jk rfl rfl <| jk rfl rfl <| jk rfl rfl ?_
   refine jk rfl rfl <| jk rfl rfl <| jk rfl rfl <| jk rfl rfl <| jc (op_pickT lb (.tmp rfl) rfl .cB) ?_
   refine jmv rfl rfl <| jk rfl rfl <| jk rfl rfl <| jk rfl rfl <| jk rfl rfl ?_
   refine jk rfl rfl <| jc (op_pickT lb (.tmp rfl) rfl .cB) <| jmv rfl rfl <| jk rfl rfl <| jk rfl rfl ?_
   refine jk rfl rfl <| jk rfl rfl <| jk rfl rfl <| jk rfl rfl <| jk rfl rfl ?_
   refine jc (op_pickT lb (.tmp rfl) rfl .cB) <| JL.nil ?_
   try obtain rfl := so hx1
   exact JQ.join () (Imp.norm (js := [0, 0]) rfl (.cons rfl (.cons rfl (.cons rfl .nil))))
 refine JL.run (.yes rfl (ltB rfl) rfl hc3) (op_fieldAddr (off := 2) lb tf32_1 (.tmp rfl)) ?_
 refine JL.run (.yes rfl (ltB rfl) rfl hc3) (op_loadS (j := 0) lb tS9 (.tmp rfl) rfl (cT (comp_api_Event_Topic a_1) rfl) rfl rfl) ?_
 refine JL.run (.yes rfl (ltB rfl) rfl hc3) (op_fieldAddr (off := 2) lb tf32_1 (.tmp rfl)) ?_
 refine JL.run (.yes rfl (ltB rfl) rfl hc3) (op_loadS (j := 1) lb tS9 (.tmp rfl) rfl (cT (comp_api_Event_Topic b_2) rfl) rfl rfl) ?_
 obtain ⟨v_6, hv_6, hx1⟩ := lt1_inv hx1
 refine JL.run (.yes rfl (ltB rfl) rfl hc3) (op_cmpS lb (.tmp rfl) (.tmp rfl) (cs hv_6)) ?_
 refine jc (op_pickF lb (.tmp rfl) hc3 (.tmp rfl)) <| jmv rfl rfl ?_
 rcases iteB_inv hx1 with ⟨hc5, hx1⟩ | ⟨hc5, hx1⟩
 · refine jk rfl hc5 <| jk rfl hc5 <| jk rfl hc5 <| jk rfl hc5 <| jk rfl hc5 ?_
   refine jk rfl hc5 <| jk rfl hc5 <| jc (op_pickT lb (.tmp rfl) hc5 .cB) <| jmv rfl rfl <| jk rfl rfl ?_
   refine jk rfl rfl <| jk rfl rfl <| jk rfl rfl <| jk rfl rfl <| jc (op_pickT lb (.tmp rfl) rfl .cB) ?_
   refine jmv rfl rfl ?_
   refine JL.sub ⟨[(2, ov (PTR gb_3 0)), (3, ov (PTR gb_4 0)), (34, ov (S rB true))], [cvar gb_3 r_api_Event a_1, cvar gb_4 r_api_Event b_2], []⟩ (.cons rfl (.cons rfl (.cons rfl .nil))) rfl rfl ?_
   refine jk rfl rfl <| jk rfl rfl <| jk rfl rfl <| jk rfl rfl <| jk rfl rfl ?_
   refine jk rfl rfl <| jk rfl rfl <| jc (op_pickT lb (.tmp rfl) rfl .cB) <| JL.nil ?_
   try obtain rfl := so hx1
   exact JQ.join () (Imp.norm (js := [0, 0]) rfl (.cons rfl (.cons rfl (.cons rfl .nil))))
 refine JL.run (.yes rfl (ltB rfl) rfl hc5) (op_fieldAddr (off := 3) lb tf32_2 (.tmp rfl)) ?_
 refine JL.run (.yes rfl (ltB rfl) rfl hc5) (op_loadS (j := 0) lb tS27 (.tmp rfl) rfl (cT (comp_api_Event_Payload a_1) rfl) rfl rfl) ?_
 refine JL.run (.yes rfl (ltB rfl) rfl hc5) (op_convBS lb tu27 tu5 tu9 (.tmp rfl)) ?_
 refine JL.run (.yes rfl (ltB rfl) rfl hc5) (op_fieldAddr (off := 3) lb tf32_2 (.tmp rfl)) ?_
 refine JL.sub ⟨[(2, ov (PTR gb_3 0)), (3, ov (PTR gb_4 0)), (18, ov (S rB v_6)), (21, ov (S rS a_1.Payload)), (22, ov (PTR gb_4 (0 + 3)))], [cvar gb_3 r_api_Event a_1, cvar gb_4 r_api_Event b_2], []⟩ (.cons rfl (.cons rfl (.cons rfl (.cons rfl (.cons rfl .nil))))) rfl rfl ?_
 refine JL.run (.yes rfl (ltB rfl) rfl hc5) (op_loadS (j := 1) lb tS27 (.tmp rfl) rfl (cT (comp_api_Event_Payload b_2) rfl) rfl rfl) ?_
 refine JL.run (.yes rfl (ltB rfl) rfl hc5) (op_convBS lb tu27 tu5 tu9 (.tmp rfl)) ?_
 obtain ⟨v_7, hv_7, hx1⟩ := lt1_inv hx1
 refine JL.run (.yes rfl (ltB rfl) rfl hc5) (op_cmpS lb (.tmp rfl) (.tmp rfl) (cs hv_7)) ?_
 refine jc (op_pickF lb (.tmp rfl) hc5 (.tmp rfl)) <| jmv rfl rfl ?_
 rcases iteB_inv hx1 with ⟨hc7, hx1⟩ | ⟨hc7, hx1⟩
 · refine jk rfl hc7 <| jk rfl hc7 <| jk rfl hc7 <| jk rfl hc7 <| jk rfl hc7 ?_
   refine jc (op_pickT lb (.tmp rfl) hc7 .cB) <| jmv rfl rfl <| jk rfl rfl <| jk rfl rfl <| jk rfl rfl ?_
   refine jk rfl rfl <| jk rfl rfl <| jk rfl rfl <| jk rfl rfl <| jc (op_pickT lb (.tmp rfl) rfl .cB) ?_
   refine JL.nil ?_
   try obtain rfl := so hx1
   exact JQ.join () (Imp.norm (js := [0, 0]) rfl (.cons rfl (.cons rfl (.cons rfl .nil))))
 refine JL.run (.yes rfl (ltB rfl) rfl hc7) (op_fieldAddr (off := 4) lb tf32_3 (.tmp rfl)) ?_
 refine JL.run (.yes rfl (ltB rfl) rfl hc7) (op_loadA (j := 0) lb tA29 (.tmp rfl) rfl (cT (comp_api_Event_Past a_1) rfl) rfl) ?_
 refine JL.run (.yes rfl (ltB rfl) rfl hc7) (op_fieldAddr (off := 4) lb tf32_3 (.tmp rfl)) ?_
 refine JL.run (.yes rfl (ltB rfl) rfl hc7) (op_loadA (j := 1) lb tA29 (.tmp rfl) rfl (cT (comp_api_Event_Past b_2) rfl) rfl) ?_
 obtain ⟨v_8, hv_8, hx1⟩ := lt1_inv hx1
 refine JL.run (.yes rfl (ltB rfl) rfl hc7) (op_neA lb qa29 (by decide) ng29 (.tmp rfl) (.tmp rfl) hv_8) ?_
 refine jc (op_pickF lb (.tmp rfl) hc7 (.tmp rfl)) <| jmv rfl rfl ?_
 refine JL.sub ⟨[(2, ov (PTR gb_3 0)), (3, ov (PTR gb_4 0)), (34, ov (S rB v_8))], [cvar gb_3 r_api_Event a_1, cvar gb_4 r_api_Event b_2], []⟩ (.cons rfl (.cons rfl (.cons rfl .nil))) rfl rfl ?_
 rcases iteB_inv hx1 with ⟨hc9, hx1⟩ | ⟨hc9, hx1⟩
 · refine jk rfl hc9 <| jk rfl hc9 <| jk rfl hc9 <| jk rfl hc9 <| jk rfl hc9 ?_
   refine jk rfl hc9 <| jk rfl hc9 <| jc (op_pickT lb (.tmp rfl) hc9 .cB) <| JL.nil ?_
   try obtain rfl := so hx1
   exact JQ.join () (Imp.norm (js := [0, 0]) rfl (.cons rfl (.cons rfl (.cons rfl .nil))))
 refine JL.run (.yes rfl (ltB rfl) rfl hc9) (op_fieldAddr (off := 20) lb tf32_4 (.tmp rfl)) ?_
 refine JL.run (.yes rfl (ltB rfl) rfl hc9) (op_loadS (j := 0) lb tS30 (.tmp rfl) rfl (cT (comp_api_Event_To a_1) rfl) rfl rfl) ?_
 refine JL.run (.yes rfl (ltB rfl) rfl hc9) (op_lenL lb tu30 (.tmp rfl)) ?_
 refine JL.run (.yes rfl (ltB rfl) rfl hc9) (op_fieldAddr (off := 20) lb tf32_4 (.tmp rfl)) ?_
 refine JL.run (.yes rfl (ltB rfl) rfl hc9) (op_loadS (j := 1) lb tS30 (.tmp rfl) rfl (cT (comp_api_Event_To b_2) rfl) rfl rfl) ?_
 refine JL.run (.yes rfl (ltB rfl) rfl hc9) (op_lenL lb tu30 (.tmp rfl)) ?_
 obtain ⟨v_9, hv_9, hx1⟩ := lt1_inv hx1
 refine JL.run (.yes rfl (ltB rfl) rfl hc9) (op_cmpI lb (.tmp rfl) (.tmp rfl) (cs hv_9)) ?_
 refine jc (op_pickF lb (.tmp rfl) hc9 (.tmp rfl)) <| JL.nil ?_
 try obtain rfl := so hx1
 exact JQ.join () (Imp.norm (js := [0, 0]) rfl (.cons rfl (.cons rfl (.cons rfl .nil))))

theorem sim_ref11_Same (k : Nat) (t_1 : api_Frame) (a_2 : api_Frame) (r : Bool) (hm : ref11_Same k t_1 a_2 = some r) : Sim Tryz.prog 17 [A r_api_Frame t_1, A r_api_Frame a_2] [] (γ := Unit) (fun q => []) (fun q => .one (.val (S rB r))) := by
 unfold ref11_Same at hm
 refine Sim.of Tryz.func17 rfl rfl (lE rfl) (fun e0 w0 => ?_)
 refine JC.at ⟨[(0, ov (A r_api_Frame t_1)), (1, ov (A r_api_Frame a_2))], [], []⟩ ?_
 refine jr ?_
 refine jx (op_boxA lb (.tmp rfl)) (fun gb_3 => ?_)
 refine jx (op_boxA lb (.tmp rfl)) (fun gb_4 => ?_)
 refine jc (op_assign lb .cB) <| jn <| JC.seq ?_
 obtain ⟨x_7, hx1, hq1⟩ := bnd_inv hm
 refine JC.seqJ (γ := Unit) (stj := fun _ => ⟨[(2, ov (PTR gb_3 0)), (3, ov (PTR gb_4 0)), (22, ov (S rB x_7))], [cvar gb_3 r_api_Frame t_1, cvar gb_4 r_api_Frame a_2], []⟩) (fun _ => ?_) ?_
 · rcases iteB_inv hq1 with ⟨hc4, hq1⟩ | ⟨hc4, hq1⟩
   · refine JC.condT (.tmp rfl) hc4 ?_
     refine jr <| jc (op_assign lb .cB) <| jn ?_
     refine JC.ret ?_
     refine JQ.outR ?_
     obtain rfl := so hq1
     exact jd (.val (S rB false)) rfl rfl rfl rfl rfl rfl
   refine JC.condF (.tmp rfl) hc4 ?_
   refine JC.skip ?_
   refine JQ.then ?_
   obtain ⟨tv5, hx5, hq5⟩ := bnd_inv hq1
   refine JC.seqK (α := Unit) (γ := Unit) (stj := fun v q => ⟨[(2, ov (PTR gb_3 0)), (3, ov (PTR gb_4 0))], [cvar gb_3 r_api_Frame t_1, cvar gb_4 r_api_Frame a_2], []⟩) (p := fun v => tv5 = (.inl v)) (fun v q hv => ?_) ?_
   · subst hv
     skip
     obtain _ := q
     dsimp only at hq5
     refine JC.at ⟨[(2, ov (PTR gb_3 0)), (3, ov (PTR gb_4 0))], [cvar gb_3 r_api_Frame t_1, cvar gb_4 r_api_Frame a_2], []⟩ ?_
     obtain ⟨tv9, hx9, hq9⟩ := bnd_inv hq5
     refine JC.seqK (α := Unit) (γ := Unit) (stj := fun v q => ⟨[(2, ov (PTR gb_3 0)), (3, ov (PTR gb_4 0))], [cvar gb_3 r_api_Frame t_1, cvar gb_4 r_api_Frame a_2], []⟩) (p := fun v => tv9 = (.inl v)) (fun v q hv => ?_) ?_
     · subst hv
       skip
       obtain _ := q
       dsimp only at hq9
       refine JC.at ⟨[(2, ov (PTR gb_3 0)), (3, ov (PTR gb_4 0))], [cvar gb_3 r_api_Frame t_1, cvar gb_4 r_api_Frame a_2], []⟩ ?_
       obtain ⟨x_31, hx13, hq13⟩ := bnd_inv hq9
       refine JC.seqJ (γ := Unit) (stj := fun _ => ⟨[(4, ov (S rB x_31))], [], []⟩) (fun _ => ?_) ?_
       · refine JC.ret ?_
         obtain rfl := so hq13
         exact jd (.val (S rB x_31)) rfl rfl rfl rfl rfl rfl
       refine JC.region ?_
       dsimp only [List.append]
       refine jc (op_fieldAddr (off := 0) lb tf39_0 (.tmp rfl)) <| jc (op_loadS (j := 0) lb tS22 (.tmp rfl) rfl (cT (comp_api_Frame_Kind t_1) rfl) rfl rfl) <| jc (op_fieldAddr (off := 0) lb tf39_0 (.tmp rfl)) <| jc (op_loadS (j := 1) lb tS22 (.tmp rfl) rfl (cT (comp_api_Frame_Kind a_2) rfl) rfl rfl) ?_
       obtain ⟨v_20, hv_20, hx13⟩ := lt1_inv hx13
       refine jc (op_cmpI lb (.tmp rfl) (.tmp rfl) (cs hv_20)) <| jmv rfl rfl ?_
       rcases iteB_inv hx13 with ⟨hc15, hx13⟩ | ⟨hc15, hx13⟩
       · refine JL.run (.yes rfl (ltB rfl) rfl hc15) (op_fieldAddr (off := 1) lb tf39_1 (.tmp rfl)) ?_
         refine JL.run (.yes rfl (ltB rfl) rfl hc15) (op_loadS (j := 0) lb tS3 (.tmp rfl) rfl (cT (comp_api_Frame_From t_1) rfl) rfl rfl) ?_
         refine JL.run (.yes rfl (ltB rfl) rfl hc15) (op_fieldAddr (off := 1) lb tf39_1 (.tmp rfl)) ?_
         refine JL.run (.yes rfl (ltB rfl) rfl hc15) (op_loadS (j := 1) lb tS3 (.tmp rfl) rfl (cT (comp_api_Frame_From a_2) rfl) rfl rfl) ?_
         obtain ⟨v_21, hv_21, hx13⟩ := lt1_inv hx13
         refine JL.run (.yes rfl (ltB rfl) rfl hc15) (op_cmpI lb (.tmp rfl) (.tmp rfl) (cs hv_21)) ?_
         refine jc (op_pickT lb (.tmp rfl) hc15 (.tmp rfl)) ?_
         refine JL.sub ⟨[(2, ov (PTR gb_3 0)), (3, ov (PTR gb_4 0)), (70, ov (S rB v_21))], [cvar gb_3 r_api_Frame t_1, cvar gb_4 r_api_Frame a_2], []⟩ (.cons rfl (.cons rfl (.cons rfl .nil))) rfl rfl ?_
         refine jmv rfl rfl ?_
         rcases iteB_inv hx13 with ⟨hc17, hx13⟩ | ⟨hc17, hx13⟩
         · refine JL.run (.yes rfl (ltB rfl) rfl hc17) (op_fieldAddr (off := 2) lb tf39_2 (.tmp rfl)) ?_
           refine JL.run (.yes rfl (ltB rfl) rfl hc17) (op_loadS (j := 0) lb tS3 (.tmp rfl) rfl (cT (comp_api_Frame_To t_1) rfl) rfl rfl) ?_
           refine JL.run (.yes rfl (ltB rfl) rfl hc17) (op_fieldAddr (off := 2) lb tf39_2 (.tmp rfl)) ?_
           refine JL.run (.yes rfl (ltB rfl) rfl hc17) (op_loadS (j := 1) lb tS3 (.tmp rfl) rfl (cT (comp_api_Frame_To a_2) rfl) rfl rfl) ?_
           obtain ⟨v_22, hv_22, hx13⟩ := lt1_inv hx13
           refine JL.run (.yes rfl (ltB rfl) rfl hc17) (op_cmpI lb (.tmp rfl) (.tmp rfl) (cs hv_22)) ?_
           refine jc (op_pickT lb (.tmp rfl) hc17 (.tmp rfl)) <| jmv rfl rfl ?_
           rcases iteB_inv hx13 with ⟨hc19, hx13⟩ | ⟨hc19, hx13⟩
           · refine JL.run (.yes rfl (ltB rfl) rfl hc19) (op_fieldAddr (off := 25) lb tf39_5 (.tmp rfl)) ?_
             refine JL.run (.yes rfl (ltB rfl) rfl hc19) (op_loadA (j := 0) lb tA29 (.tmp rfl) rfl (cT (comp_api_Frame_Past t_1) rfl) rfl) ?_
             refine JL.run (.yes rfl (ltB rfl) rfl hc19) (op_fieldAddr (off := 25) lb tf39_5 (.tmp rfl)) ?_
             refine JL.run (.yes rfl (ltB rfl) rfl hc19) (op_loadA (j := 1) lb tA29 (.tmp rfl) rfl (cT (comp_api_Frame_Past a_2) rfl) rfl) ?_
             refine JL.sub ⟨[(2, ov (PTR gb_3 0)), (3, ov (PTR gb_4 0)), (78, ov (S rB v_22)), (80, ov (A (rV 16 (rU UInt64)) t_1.Past)), (82, ov (A (rV 16 (rU UInt64)) a_2.Past))], [cvar gb_3 r_api_Frame t_1, cvar gb_4 r_api_Frame a_2], []⟩ (.cons rfl (.cons rfl (.cons rfl (.cons rfl (.cons rfl .nil))))) rfl rfl ?_
             obtain ⟨v_23, hv_23, hx13⟩ := lt1_inv hx13
             refine JL.run (.yes rfl (ltB rfl) rfl hc19) (op_eqA lb qa29 (by decide) ng29 (.tmp rfl) (.tmp rfl) hv_23) ?_
             refine jc (op_pickT lb (.tmp rfl) hc19 (.tmp rfl)) <| jmv rfl rfl ?_
             rcases iteB_inv hx13 with ⟨hc21, hx13⟩ | ⟨hc21, hx13⟩
             · refine JL.run (.yes rfl (ltB rfl) rfl hc21) (op_fieldAddr (off := 41) lb tf39_6 (.tmp rfl)) ?_
               refine JL.run (.yes rfl (ltB rfl) rfl hc21) (op_loadA (j := 0) lb tA29 (.tmp rfl) rfl (cT (comp_api_Frame_Seen t_1) rfl) rfl) ?_
               refine JL.run (.yes rfl (ltB rfl) rfl hc21) (op_fieldAddr (off := 41) lb tf39_6 (.tmp rfl)) ?_
               refine JL.run (.yes rfl (ltB rfl) rfl hc21) (op_loadA (j := 1) lb tA29 (.tmp rfl) rfl (cT (comp_api_Frame_Seen a_2) rfl) rfl) ?_
               obtain ⟨v_24, hv_24, hx13⟩ := lt1_inv hx13
               refine JL.run (.yes rfl (ltB rfl) rfl hc21) (op_eqA lb qa29 (by decide) ng29 (.tmp rfl) (.tmp rfl) hv_24) ?_
               refine jc (op_pickT lb (.tmp rfl) hc21 (.tmp rfl)) <| jmv rfl rfl ?_
               rcases iteB_inv hx13 with ⟨hc23, hx13⟩ | ⟨hc23, hx13⟩
               · refine JL.run (.yes rfl (ltB rfl) rfl hc23) (op_fieldAddr (off := 59) lb tf39_9 (.tmp rfl)) ?_
                 refine JL.run (.yes rfl (ltB rfl) rfl hc23) (op_loadA (j := 0) lb tA35 (.tmp rfl) rfl (cT (comp_api_Frame_Hash t_1) rfl) rfl) ?_
                 refine JL.sub ⟨[(2, ov (PTR gb_3 0)), (3, ov (PTR gb_4 0)), (92, ov (S rB v_24)), (94, ov (A (rV 32 (rU UInt8)) t_1.Hash))], [cvar gb_3 r_api_Frame t_1, cvar gb_4 r_api_Frame a_2], []⟩ (.cons rfl (.cons rfl (.cons rfl (.cons rfl .nil)))) rfl rfl ?_
                 refine JL.run (.yes rfl (ltB rfl) rfl hc23) (op_fieldAddr (off := 59) lb tf39_9 (.tmp rfl)) ?_
                 refine JL.run (.yes rfl (ltB rfl) rfl hc23) (op_loadA (j := 1) lb tA35 (.tmp rfl) rfl (cT (comp_api_Frame_Hash a_2) rfl) rfl) ?_
                 obtain ⟨v_25, hv_25, hx13⟩ := lt1_inv hx13
                 refine JL.run (.yes rfl (ltB rfl) rfl hc23) (op_eqA lb qa35 (by decide) ng35 (.tmp rfl) (.tmp rfl) hv_25) ?_
                 refine jc (op_pickT lb (.tmp rfl) hc23 (.tmp rfl)) <| jmv rfl rfl ?_
                 rcases iteB_inv hx13 with ⟨hc25, hx13⟩ | ⟨hc25, hx13⟩
                 · refine JL.run (.yes rfl (ltB rfl) rfl hc25) (op_fieldAddr (off := 93) lb tf39_12 (.tmp rfl)) ?_
                   refine JL.run (.yes rfl (ltB rfl) rfl hc25) (op_loadS (j := 0) lb tS4 (.tmp rfl) rfl (cT (comp_api_Frame_Reply t_1) rfl) rfl rfl) ?_
                   refine JL.run (.yes rfl (ltB rfl) rfl hc25) (op_fieldAddr (off := 93) lb tf39_12 (.tmp rfl)) ?_
                   refine JL.run (.yes rfl (ltB rfl) rfl hc25) (op_loadS (j := 1) lb tS4 (.tmp rfl) rfl (cT (comp_api_Frame_Reply a_2) rfl) rfl rfl) ?_
                   obtain ⟨v_26, hv_26, hx13⟩ := lt1_inv hx13
                   refine JL.run (.yes rfl (ltB rfl) rfl hc25) (op_eqB lb tu4 (.tmp rfl) (.tmp rfl) hv_26) ?_
                   refine jc (op_pickT lb (.tmp rfl) hc25 (.tmp rfl)) <| jmv rfl rfl ?_
                   refine JL.sub ⟨[(2, ov (PTR gb_3 0)), (3, ov (PTR gb_4 0)), (106, ov (S rB v_26))], [cvar gb_3 r_api_Frame t_1, cvar gb_4 r_api_Frame a_2], []⟩ (.cons rfl (.cons rfl (.cons rfl .nil))) rfl rfl ?_
                   rcases iteB_inv hx13 with ⟨hc27, hx13⟩ | ⟨hc27, hx13⟩
                   · refine JL.run (.yes rfl (ltB rfl) rfl hc27) (op_fieldAddr (off := 3) lb tf39_3 (.tmp rfl)) ?_
                     refine JL.run (.yes rfl (ltB rfl) rfl hc27) (op_loadS (j := 0) lb tS23 (.tmp rfl) rfl (cT (comp_api_Frame_Items t_1) rfl) rfl rfl) ?_
                     refine JL.run (.yes rfl (ltB rfl) rfl hc27) (op_fieldAddr (off := 3) lb tf39_3 (.tmp rfl)) ?_
                     refine JL.run (.yes rfl (ltB rfl) rfl hc27) (op_loadS (j := 1) lb tS23 (.tmp rfl) rfl (cT (comp_api_Frame_Items a_2) rfl) rfl rfl) ?_
                     obtain ⟨v_27, hv_27, hx13⟩ := bnd_inv hx13
                     refine JL.runX (.yes rfl (ltB rfl) rfl hc27) (op_call (js := []) ld cl63 (sim_ref11_sameItems k t_1.Items a_2.Items v_27 hv_27) .func (.cons (.tmp rfl) (.cons (.tmp rfl) .nil)) rfl) (fun _ => ?_)
                     refine jc (op_pickT lb (.tmp rfl) hc27 (.tmp rfl)) <| jmv rfl rfl ?_
                     rcases iteB_inv hx13 with ⟨hc29, hx13⟩ | ⟨hc29, hx13⟩
                     · refine JL.run (.yes rfl (ltB rfl) rfl hc29) (op_fieldAddr (off := 57) lb tf39_7 (.tmp rfl)) ?_
                       refine JL.run (.yes rfl (ltB rfl) rfl hc29) (op_loadS (j := 0) lb tS33 (.tmp rfl) rfl (cT (comp_api_Frame_Extra t_1) rfl) rfl rfl) ?_
                       refine JL.run (.yes rfl (ltB rfl) rfl hc29) (op_fieldAddr (off := 57) lb tf39_7 (.tmp rfl)) ?_
                       refine JL.run (.yes rfl (ltB rfl) rfl hc29) (op_loadS (j := 1) lb tS33 (.tmp rfl) rfl (cT (comp_api_Frame_Extra a_2) rfl) rfl rfl) ?_
                       obtain ⟨v_28, hv_28, hx13⟩ := bnd_inv hx13
                       refine JL.runX (.yes rfl (ltB rfl) rfl hc29) (op_call (js := []) ld cl64 (sim_ref11_sameDots k t_1.Extra a_2.Extra v_28 hv_28) .func (.cons (.tmp rfl) (.cons (.tmp rfl) .nil)) rfl) (fun _ => ?_)
                       refine JL.sub ⟨[(2, ov (PTR gb_3 0)), (3, ov (PTR gb_4 0)), (113, ov (S rB v_27)), (118, ov (S rB v_28))], [cvar gb_3 r_api_Frame t_1, cvar gb_4 r_api_Frame a_2], []⟩ (.cons rfl (.cons rfl (.cons rfl (.cons rfl .nil)))) rfl rfl ?_
                       refine jc (op_pickT lb (.tmp rfl) hc29 (.tmp rfl)) <| jmv rfl rfl ?_
                       rcases iteB_inv hx13 with ⟨hc31, hx13⟩ | ⟨hc31, hx13⟩
                       · refine JL.run (.yes rfl (ltB rfl) rfl hc31) (op_fieldAddr (off := 58) lb tf39_8 (.tmp rfl)) ?_
                         refine JL.run (.yes rfl (ltB rfl) rfl hc31) (op_loadS (j := 0) lb tS33 (.tmp rfl) rfl (cT (comp_api_Frame_Live t_1) rfl) rfl rfl) ?_
                         refine JL.run (.yes rfl (ltB rfl) rfl hc31) (op_fieldAddr (off := 58) lb tf39_8 (.tmp rfl)) ?_
                         refine JL.run (.yes rfl (ltB rfl) rfl hc31) (op_loadS (j := 1) lb tS33 (.tmp rfl) rfl (cT (comp_api_Frame_Live a_2) rfl) rfl rfl) ?_
                         obtain ⟨v_29, hv_29, hx13⟩ := bnd_inv hx13
                         refine JL.runX (.yes rfl (ltB rfl) rfl hc31) (op_call (js := []) ld cl64 (sim_ref11_sameDots k t_1.Live a_2.Live v_29 hv_29) .func (.cons (.tmp rfl) (.cons (.tmp rfl) .nil)) rfl) (fun _ => ?_)
                         refine jc (op_pickT lb (.tmp rfl) hc31 (.tmp rfl)) <| jmv rfl rfl ?_
                         rcases iteB_inv hx13 with ⟨hc33, hx13⟩ | ⟨hc33, hx13⟩
                         · refine JL.run (.yes rfl (ltB rfl) rfl hc33) (op_fieldAddr (off := 4) lb tf39_4 (.tmp rfl)) ?_
                           refine JL.run (.yes rfl (ltB rfl) rfl hc33) (op_loadA (j := 0) lb tA32 (.tmp rfl) rfl (cT (comp_api_Frame_Event t_1) rfl) rfl) ?_
                           refine JL.run (.yes rfl (ltB rfl) rfl hc33) (op_fieldAddr (off := 4) lb tf39_4 (.tmp rfl)) ?_
                           refine JL.nrm ⟨[(127, ov (S rB v_29)), (129, ov (A r_api_Event t_1.Event)), (130, ov (PTR gb_4 (0 + 4)))], [cvar gb_4 r_api_Frame a_2], []⟩ [1] rfl (.cons rfl (.cons rfl (.cons rfl .nil))) rfl ?_
                           refine JL.run (.yes rfl (ltB rfl) rfl hc33) (op_loadA (j := 0) lb tA32 (.tmp rfl) rfl (cT (comp_api_Frame_Event a_2) rfl) rfl) ?_
                           obtain ⟨v_30, hv_30, hx13⟩ := bnd_inv hx13
                           refine JL.runX (.yes rfl (ltB rfl) rfl hc33) (op_call (js := []) ld cl65 (sim_ref09_Same k t_1.Event a_2.Event v_30 hv_30) .func (.cons (.tmp rfl) (.cons (.tmp rfl) .nil)) rfl) (fun _ => ?_)
                           refine jc (op_pickT lb (.tmp rfl) hc33 (.tmp rfl)) <| jc (op_assign lb (.tmp rfl)) <| JL.nil ?_
                           try obtain rfl := so hx13
                           exact jo rfl rfl rfl
                         refine jk rfl hc33 <| jk rfl hc33 <| jk rfl hc33 <| jk rfl hc33 <| jk rfl hc33 ?_
                         refine jc (op_pickF lb (.tmp rfl) hc33 .cB) <| jc (op_assign lb (.tmp rfl)) <| JL.nil ?_
                         try obtain rfl := so hx13
                         exact jo rfl rfl rfl
                       refine jk rfl hc31 <| jk rfl hc31 <| jk rfl hc31 <| jk rfl hc31 <| jk rfl hc31 ?_
                       refine jc (op_pickF lb (.tmp rfl) hc31 .cB) <| jmv rfl rfl <| jk rfl rfl <| jk rfl rfl <| jk rfl rfl ?_
                       refine jk rfl rfl <| jk rfl rfl <| jc (op_pickF lb (.tmp rfl) rfl .cB) <| jc (op_assign lb (.tmp rfl)) <| JL.nil ?_
                       try obtain rfl := so hx13
                       exact jo rfl rfl rfl
                     refine jk rfl hc29 <| jk rfl hc29 <| jk rfl hc29 <| jk rfl hc29 <| jk rfl hc29 ?_
                     refine jc (op_pickF lb (.tmp rfl) hc29 .cB) <| jmv rfl rfl <| jk rfl rfl <| jk rfl rfl <| jk rfl rfl ?_
                     refine jk rfl rfl <| jk rfl rfl <| jc (op_pickF lb (.tmp rfl) rfl .cB) <| jmv rfl rfl <| jk rfl rfl ?_
                     refine jk rfl rfl <| jk rfl rfl <| jk rfl rfl <| jk rfl rfl <| jc (op_pickF lb (.tmp rfl) rfl .cB) ?_
                     refine JL.nrm ⟨[(133, ov (S rB false))], [], []⟩ [] rfl (.cons rfl .nil) rfl ?_
                     refine jc (op_assign lb (.tmp rfl)) <| JL.nil ?_
                     try obtain rfl := so hx13
                     exact jo rfl rfl rfl
                   refine jk rfl hc27 <| jk rfl hc27 <| jk rfl hc27 <| jk rfl hc27 <| jk rfl hc27 ?_
                   refine jc (op_pickF lb (.tmp rfl) hc27 .cB) <| jmv rfl rfl <| jk rfl rfl <| jk rfl rfl <| jk rfl rfl ?_
                   refine jk rfl rfl <| jk rfl rfl <| jc (op_pickF lb (.tmp rfl) rfl .cB) <| jmv rfl rfl <| jk rfl rfl ?_
                   refine jk rfl rfl <| jk rfl rfl <| jk rfl rfl <| jk rfl rfl <| jc (op_pickF lb (.tmp rfl) rfl .cB) ?_
                   refine jmv rfl rfl <| jk rfl rfl <| jk rfl rfl <| jk rfl rfl <| jk rfl rfl ?_
                   refine jk rfl rfl <| jc (op_pickF lb (.tmp rfl) rfl .cB) <| jc (op_assign lb (.tmp rfl)) <| JL.nil ?_
                   try obtain rfl := so hx13
                   exact jo rfl rfl rfl
                 refine jk rfl hc25 <| jk rfl hc25 <| jk rfl hc25 <| jk rfl hc25 <| jk rfl hc25 ?_
                 refine jc (op_pickF lb (.tmp rfl) hc25 .cB) <| jmv rfl rfl <| jk rfl rfl <| jk rfl rfl <| jk rfl rfl ?_
                 refine jk rfl rfl <| jk rfl rfl <| jc (op_pickF lb (.tmp rfl) rfl .cB) <| jmv rfl rfl <| jk rfl rfl ?_
                 refine jk rfl rfl <| jk rfl rfl <| jk rfl rfl <| jk rfl rfl <| jc (op_pickF lb (.tmp rfl) rfl .cB) ?_
                 refine jmv rfl rfl <| jk rfl rfl <| jk rfl rfl <| jk rfl rfl <| jk rfl rfl ?_
                 refine jk rfl rfl <| jc (op_pickF lb (.tmp rfl) rfl .cB) ?_
                 refine JL.sub ⟨[(2, ov (PTR gb_3 0)), (3, ov (PTR gb_4 0)), (126, ov (S rB false))], [cvar gb_3 r_api_Frame t_1, cvar gb_4 r_api_Frame a_2], []⟩ (.cons rfl (.cons rfl (.cons rfl .nil))) rfl rfl ?_
                 refine jmv rfl rfl <| jk rfl rfl <| jk rfl rfl <| jk rfl rfl <| jk rfl rfl ?_
                 refine jk rfl rfl <| jc (op_pickF lb (.tmp rfl) rfl .cB) <| jc (op_assign lb (.tmp rfl)) <| JL.nil ?_
                 try obtain rfl := so hx13
                 exact jo rfl rfl rfl
               refine jk rfl hc23 <| jk rfl hc23 <| jk rfl hc23 <| jk rfl hc23 <| jk rfl hc23 ?_
               refine jc (op_pickF lb (.tmp rfl) hc23 .cB) <| jmv rfl rfl ?_
               refine JL.sub ⟨[(2, ov (PTR gb_3 0)), (3, ov (PTR gb_4 0)), (99, ov (S rB false))], [cvar gb_3 r_api_Frame t_1, cvar gb_4 r_api_Frame a_2], []⟩ (.cons rfl (.cons rfl (.cons rfl .nil))) rfl rfl ?_
               refine jk rfl rfl <| jk rfl rfl <| jk rfl rfl <| jk rfl rfl <| jk rfl rfl ?_
               refine jc (op_pickF lb (.tmp rfl) rfl .cB) <| jmv rfl rfl <| jk rfl rfl <| jk rfl rfl <| jk rfl rfl ?_
               refine jk rfl rfl <| jk rfl rfl <| jc (op_pickF lb (.tmp rfl) rfl .cB) <| jmv rfl rfl <| jk rfl rfl ?_
               refine jk rfl rfl <| jk rfl rfl <| jk rfl rfl <| jk rfl rfl <| jc (op_pickF lb (.tmp rfl) rfl .cB) ?_
               refine jmv rfl rfl <| jk rfl rfl <| jk rfl rfl <| jk rfl rfl <| jk rfl rfl ?_
               refine jk rfl rfl <| jc (op_pickF lb (.tmp rfl) rfl .cB) <| jmv rfl rfl <| jk rfl rfl <| jk rfl rfl ?_
               refine jk rfl rfl <| jk rfl rfl <| jk rfl rfl <| jc (op_pickF lb (.tmp rfl) rfl .cB) <| jc (op_assign lb (.tmp rfl)) ?_
               refine JL.nil ?_
               try obtain rfl := so hx13
               exact jo rfl rfl rfl
             refine jk rfl hc21 <| jk rfl hc21 <| jk rfl hc21 <| jk rfl hc21 <| jk rfl hc21 ?_
             refine jc (op_pickF lb (.tmp rfl) hc21 .cB) <| jmv rfl rfl <| jk rfl rfl <| jk rfl rfl <| jk rfl rfl ?_
             refine jk rfl rfl <| jk rfl rfl <| jc (op_pickF lb (.tmp rfl) rfl .cB) <| jmv rfl rfl <| jk rfl rfl ?_
             refine jk rfl rfl <| jk rfl rfl <| jk rfl rfl <| jk rfl rfl <| jc (op_pickF lb (.tmp rfl) rfl .cB) ?_
             refine jmv rfl rfl <| jk rfl rfl <| jk rfl rfl <| jk rfl rfl <| jk rfl rfl ?_
             refine jk rfl rfl <| jc (op_pickF lb (.tmp rfl) rfl .cB) <| jmv rfl rfl <| jk rfl rfl <| jk rfl rfl ?_
             refine jk rfl rfl <| jk rfl rfl <| jk rfl rfl <| jc (op_pickF lb (.tmp rfl) rfl .cB) ?_
             refine JL.sub ⟨[(2, ov (PTR gb_3 0)), (3, ov (PTR gb_4 0)), (119, ov (S rB false))], [cvar gb_3 r_api_Frame t_1, cvar gb_4 r_api_Frame a_2], []⟩ (.cons rfl (.cons rfl (.cons rfl .nil))) rfl rfl ?_
             refine jmv rfl rfl <| jk rfl rfl <| jk rfl rfl <| jk rfl rfl <| jk rfl rfl ?_
             refine jk rfl rfl <| jc (op_pickF lb (.tmp rfl) rfl .cB) <| jmv rfl rfl <| jk rfl rfl <| jk rfl rfl ?_
             refine jk rfl rfl <| jk rfl rfl <| jk rfl rfl <| jc (op_pickF lb (.tmp rfl) rfl .cB) <| jc (op_assign lb (.tmp rfl)) ?_
             refine JL.nil ?_
             try obtain rfl := so hx13
             exact jo rfl rfl rfl
           refine jk rfl hc19 <| jk rfl hc19 <| jk rfl hc19 <| jk rfl hc19 <| jk rfl hc19 ?_
           refine jc (op_pickF lb (.tmp rfl) hc19 .cB) <| jmv rfl rfl <| jk rfl rfl <| jk rfl rfl <| jk rfl rfl ?_
           refine jk rfl rfl <| jk rfl rfl <| jc (op_pickF lb (.tmp rfl) rfl .cB) <| jmv rfl rfl ?_
           refine JL.sub ⟨[(2, ov (PTR gb_3 0)), (3, ov (PTR gb_4 0)), (92, ov (S rB false))], [cvar gb_3 r_api_Frame t_1, cvar gb_4 r_api_Frame a_2], []⟩ (.cons rfl (.cons rfl (.cons rfl .nil))) rfl rfl ?_
           refine jk rfl rfl <| jk rfl rfl <| jk rfl rfl <| jk rfl rfl <| jk rfl rfl ?_
           refine jc (op_pickF lb (.tmp rfl) rfl .cB) <| jmv rfl rfl <| jk rfl rfl <| jk rfl rfl <| jk rfl rfl ?_
           refine jk rfl rfl <| jk rfl rfl <| jc (op_pickF lb (.tmp rfl) rfl .cB) <| jmv rfl rfl <| jk rfl rfl ?_
           refine jk rfl rfl <| jk rfl rfl <| jk rfl rfl <| jk rfl rfl <| jc (op_pickF lb (.tmp rfl) rfl .cB) ?_
           refine jmv rfl rfl <| jk rfl rfl <| jk rfl rfl <| jk rfl rfl <| jk rfl rfl ?_
           refine jk rfl rfl <| jc (op_pickF lb (.tmp rfl) rfl .cB) <| jmv rfl rfl <| jk rfl rfl <| jk rfl rfl ?_
           refine jk rfl rfl <| jk rfl rfl <| jk rfl rfl <| jc (op_pickF lb (.tmp rfl) rfl .cB) <| jmv rfl rfl ?_
           refine jk rfl rfl <| jk rfl rfl <| jk rfl rfl <| jk rfl rfl <| jk rfl rfl ?_
           refine jc (op_pickF lb (.tmp rfl) rfl .cB) <| jc (op_assign lb (.tmp rfl)) ?_
           refine JL.nrm ⟨[(4, ov (S rB false))], [], []⟩ [] rfl (.cons rfl .nil) rfl ?_
           refine JL.nil ?_
           try obtain rfl := so hx13
           exact jo rfl rfl rfl
         refine jk rfl hc17 <| jk rfl hc17 <| jk rfl hc17 <| jk rfl hc17 <| jk rfl hc17 ?_
         refine jc (op_pickF lb (.tmp rfl) hc17 .cB) <| jmv rfl rfl <| jk rfl rfl <| jk rfl rfl <| jk rfl rfl ?_
         refine jk rfl rfl <| jk rfl rfl <| jc (op_pickF lb (.tmp rfl) rfl .cB) <| jmv rfl rfl <| jk rfl rfl ?_
         refine jk rfl rfl <| jk rfl rfl <| jk rfl rfl <| jk rfl rfl <| jc (op_pickF lb (.tmp rfl) rfl .cB) ?_
         refine jmv rfl rfl <| jk rfl rfl <| jk rfl rfl <| jk rfl rfl <| jk rfl rfl ?_
         refine jk rfl rfl <| jc (op_pickF lb (.tmp rfl) rfl .cB) <| jmv rfl rfl <| jk rfl rfl <| jk rfl rfl ?_
         refine jk rfl rfl <| jk rfl rfl <| jk rfl rfl <| jc (op_pickF lb (.tmp rfl) rfl .cB) <| jmv rfl rfl ?_
         refine jk rfl rfl <| jk rfl rfl <| jk rfl rfl <| jk rfl rfl <| jk rfl rfl ?_
         refine jc (op_pickF lb (.tmp rfl) rfl .cB) ?_
         refine JL.sub ⟨[(2, ov (PTR gb_3 0)), (3, ov (PTR gb_4 0)), (112, ov (S rB false))], [cvar gb_3 r_api_Frame t_1, cvar gb_4 r_api_Frame a_2], []⟩ (.cons rfl (.cons rfl (.cons rfl .nil))) rfl rfl ?_
         refine jmv rfl rfl <| jk rfl rfl <| jk rfl rfl <| jk rfl rfl <| jk rfl rfl ?_
         refine jk rfl rfl <| jc (op_pickF lb (.tmp rfl) rfl .cB) <| jmv rfl rfl <| jk rfl rfl <| jk rfl rfl ?_
         refine jk rfl rfl <| jk rfl rfl <| jk rfl rfl <| jc (op_pickF lb (.tmp rfl) rfl .cB) <| jmv rfl rfl ?_
         refine jk rfl rfl <| jk rfl rfl <| jk rfl rfl <| jk rfl rfl <| jk rfl rfl ?_
         refine jc (op_pickF lb (.tmp rfl) rfl .cB) <| jc (op_assign lb (.tmp rfl)) <| JL.nil ?_
         try obtain rfl := so hx13
         exact jo rfl rfl rfl
       refine jk rfl hc15 <| jk rfl hc15 <| jk rfl hc15 <| jk rfl hc15 <| jk rfl hc15 ?_
       refine jc (op_pickF lb (.tmp rfl) hc15 .cB) <| jmv rfl rfl <| jk rfl rfl <| jk rfl rfl <| jk rfl rfl ?_
       refine jk rfl rfl <| jk rfl rfl <| jc (op_pickF lb (.tmp rfl) rfl .cB) <| jmv rfl rfl <| jk rfl rfl ?_
       refine jk rfl rfl <| jk rfl rfl <| jk rfl rfl <| jk rfl rfl <| jc (op_pickF lb (.tmp rfl) rfl .cB) ?_
       refine jmv rfl rfl ?_
       refine JL.sub ⟨[(2, ov (PTR gb_3 0)), (3, ov (PTR gb_4 0)), (85, ov (S rB false))], [cvar gb_3 r_api_Frame t_1, cvar gb_4 r_api_Frame a_2], []⟩ (.cons rfl (.cons rfl (.cons rfl .nil))) rfl rfl ?_
       refine jk rfl rfl <| jk rfl rfl <| jk rfl rfl <| jk rfl rfl <| jk rfl rfl ?_
       refine jc (op_pickF lb (.tmp rfl) rfl .cB) <| jmv rfl rfl <| jk rfl rfl <| jk rfl rfl <| jk rfl rfl ?_
       refine jk rfl rfl <| jk rfl rfl <| jc (op_pickF lb (.tmp rfl) rfl .cB) <| jmv rfl rfl <| jk rfl rfl ?_
       refine jk rfl rfl <| jk rfl rfl <| jk rfl rfl <| jk rfl rfl <| jc (op_pickF lb (.tmp rfl) rfl .cB) ?_
       refine jmv rfl rfl <| jk rfl rfl <| jk rfl rfl <| jk rfl rfl <| jk rfl rfl ?_
       refine jk rfl rfl <| jc (op_pickF lb (.tmp rfl) rfl .cB) <| jmv rfl rfl <| jk rfl rfl <| jk rfl rfl ?_
       refine jk rfl rfl <| jk rfl rfl <| jk rfl rfl <| jc (op_pickF lb (.tmp rfl) rfl .cB) <| jmv rfl rfl ?_
       refine jk rfl rfl <| jk rfl rfl <| jk rfl rfl <| jk rfl rfl <| jk rfl rfl ?_
       refine jc (op_pickF lb (.tmp rfl) rfl .cB) <| jmv rfl rfl ?_
       refine JL.sub ⟨[(2, ov (PTR gb_3 0)), (3, ov (PTR gb_4 0)), (127, ov (S rB false))], [cvar gb_3 r_api_Frame t_1, cvar gb_4 r_api_Frame a_2], []⟩ (.cons rfl (.cons rfl (.cons rfl .nil))) rfl rfl ?_
       refine jk rfl rfl <| jk rfl rfl <| jk rfl rfl <| jk rfl rfl <| jk rfl rfl ?_
       refine jc (op_pickF lb (.tmp rfl) rfl .cB) <| jc (op_assign lb (.tmp rfl)) <| JL.nil ?_
       try obtain rfl := so hx13
       exact jo rfl rfl rfl
     refine jr <| jc (op_assign lb .cI) <| jn <| JC.block ?_
     obtain ⟨tv10, hL10, hq10⟩ := bnd_inv hx9
     refine JC.pre ?_ (JC.loop (γ := Unit) (stf := fun s q => ⟨[(2, ov (PTR gb_3 0)), (3, ov (PTR gb_4 0)), (6, ov (S (rI .i64) s))], [cvar gb_3 r_api_Frame t_1, cvar gb_4 r_api_Frame a_2], []⟩) (q := ()) hL10 ?_)
     · exact (Imp.norm (js := [0, 0]) rfl (.cons rfl (.cons rfl (.cons rfl .nil))))
     intro x_14 q x hx hr
     obtain _ := q
     change ref11_Same.b2 k t_1 a_2 x_14 = some x at hx
     unfold ref11_Same.b2 at hx
     refine JC.at ⟨[(2, ov (PTR gb_3 0)), (3, ov (PTR gb_4 0)), (6, ov (S (rI .i64) x_14))], [cvar gb_3 r_api_Frame t_1, cvar gb_4 r_api_Frame a_2], []⟩ ?_
     refine JC.seq <| jr <| jmv rfl rfl <| jc (op_fieldAddr (off := 92) lb tf39_11 (.tmp rfl)) <| jc (op_loadS (j := 0) lb tS37 (.tmp rfl) rfl (cT (comp_api_Frame_Buckets t_1) rfl) rfl rfl) ?_
     refine jc (op_lenL lb tu37 (.tmp rfl)) ?_
     obtain ⟨v_15, hv_15, hx⟩ := lt1_inv hx
     refine jc (op_cmpI lb (.tmp rfl) (.tmp rfl) (cs hv_15)) <| jn ?_
     rcases iteB_inv hx with ⟨hc11, hx⟩ | ⟨hc11, hx⟩
     · refine JC.condT (.tmp rfl) hc11 ?_
       refine JC.skip ?_
       refine JQ.then <| JC.seq <| JC.block <| JC.seq ?_
       obtain ⟨v_16, hv_16, hx⟩ := bnd_inv hx
       obtain ⟨v_17, hv_17, hx⟩ := bnd_inv hx
       obtain ⟨v_18, hv_18, hx⟩ := lt1_inv hx
       refine JC.anyF (base := [(2, ov (PTR gb_3 0)), (3, ov (PTR gb_4 0)), (6, ov (S (rI .i64) x_14))])
           (fs := fun γ => [⟨some 48, ov (PTR gb_3 (0 + 92))⟩, ⟨some 49, ov (S (rL (rI .i64)) t_1.Buckets)⟩, ⟨some 50, ov (S (rI .i64) x_14)⟩, ⟨some 51, ov (PT (rI .i64) v_16)⟩, ⟨some 52, ov (S (rI .i64) v_16)⟩, ⟨some 53, ov (PTR gb_4 (0 + 92))⟩, ⟨some 54, ov (S (rL (rI .i64)) a_2.Buckets)⟩, ⟨some 55, ov (S (rI .i64) x_14)⟩, ⟨some 56, ov (PT (rI .i64) v_17)⟩, ⟨some 57, ov (S (rI .i64) v_17)⟩, ⟨some 58, ov (S rB v_18)⟩])
           (rs := fun γ => [⟨cvar gb_3 r_api_Frame t_1, none, none, [1]⟩, ⟨cvar gb_4 r_api_Frame a_2, none, none, [6]⟩])
           (afts := nn 11) (js := [0, 0]) mixed (.cons rfl (.cons rfl (.cons rfl .nil))) (fun _ => rfl)
           (by
      refine dS 1 (fun γ ρ B hb hd => op_fieldAddr (off := 92) lb tf39_11 (.tmp (hb 2 _ rfl))) <| dR 2 (fun γ ρ B hb hd => OpStep.lk ⟨ρ, (cvar gb_3 r_api_Frame t_1) :: B, _⟩ (op_loadS (j := 0) lb tS37 (tl hd 0 48) rfl (cT (comp_api_Frame_Buckets t_1) rfl) rfl rfl)) <| db 3 6 <| dS 4 (fun γ ρ B hb hd => op_indexAddrLg lb tu37 tz3 (tl hd 1 49) (tl hd 2 50) hv_16) <| dS 5 (fun γ ρ B hb hd => op_loadPSg lb tS3 rfl (tl hd 3 51) rfl) ?_
      refine dS 6 (fun γ ρ B hb hd => op_fieldAddr (off := 92) lb tf39_11 (.tmp (hb 3 _ rfl))) <| dR 7 (fun γ ρ B hb hd => OpStep.lk ⟨ρ, (cvar gb_4 r_api_Frame a_2) :: B, _⟩ (op_loadS (j := 0) lb tS37 (tl hd 5 53) rfl (cT (comp_api_Frame_Buckets a_2) rfl) rfl rfl)) <| db 8 6 <| dS 9 (fun γ ρ B hb hd => op_indexAddrLg lb tu37 tz3 (tl hd 6 54) (tl hd 7 55) hv_17) <| dS 10 (fun γ ρ B hb hd => op_loadPSg lb tS3 rfl (tl hd 8 56) rfl) ?_
      refine dS 11 (fun γ ρ B hb hd => op_cmpI lb (tl hd 4 52) (tl hd 9 57) (cs hv_18)) ?_
      exact DSteps.nil)
           (by decide +kernel) (fun _ => rfl) (fun _ => rfl) (fun _ => rfl) rfl
           (ρ' := fun γ => [(2, ov (PTR gb_3 0)), (3, ov (PTR gb_4 0)), (6, ov (S (rI .i64) x_14)), (58, ov (S rB v_18))])
           (X' := fun γ => [cvar gb_3 r_api_Frame t_1, cvar gb_4 r_api_Frame a_2])
           (fun γ ρ hb hd => (.cons (hb 2 _ rfl) (.cons (hb 3 _ rfl) (.cons (hb 6 _ rfl) (.cons (hdq hd 10 58 rfl) .nil))))) (fun _ => rfl) (fun γ => ?_)
       refine JQ.at ⟨[(2, ov (PTR gb_3 0)), (3, ov (PTR gb_4 0)), (6, ov (S (rI .i64) x_14)), (58, ov (S rB v_18))], [cvar gb_3 r_api_Frame t_1, cvar gb_4 r_api_Frame a_2], []⟩ ?_
       refine JQ.then ?_
       rcases iteB_inv hx with ⟨hc12, hx⟩ | ⟨hc12, hx⟩
       · refine JC.condT (.tmp rfl) hc12 ?_
         refine jr <| jc (op_assign lb .cB) <| jn ?_
         refine JC.ret ?_
         refine JQ.outRB ?_
         refine JQ.outR ?_
         try obtain rfl := so hx
         have ht := hr _ rfl
         clear hr
         first | subst ht | clear ht
         dsimp only at hq10
         refine JQ.outR ?_
         refine JQ.outRB ?_
         try obtain rfl := so hq10
         dsimp only at hq9
         refine JQ.outR ?_
         obtain rfl := so hq9
         exact jd (.val (S rB false)) rfl rfl rfl rfl rfl rfl
       refine JC.condF (.tmp rfl) hc12 ?_
       refine JC.skip ?_
       refine JQ.outNB ?_
       refine JQ.then <| JC.region <| jmv rfl rfl ?_
       obtain ⟨v_19, hv_19, hx⟩ := lt1_inv hx
       refine jc (op_arI lb (.tmp rfl) .cI (cs hv_19)) <| jc (op_assign lb (.tmp rfl)) <| JL.nil ?_
       try obtain rfl := so hx
       exact JQ.next () rfl (Imp.norm (js := [0, 0]) rfl (.cons rfl (.cons rfl (.cons rfl .nil))))
     refine JC.condF (.tmp rfl) hc11 ?_
     refine JC.exit ?_
     refine JQ.outX ?_
     try obtain rfl := so hx
     have ht := hr _ rfl
     clear hr
     first | subst ht | clear ht
     dsimp only at hq10
     refine JQ.outX ?_
     refine JQ.here ?_
     try obtain rfl := so hq10
     exact JQ.joinK () () rfl (Imp.norm (js := [0, 0]) rfl (.cons rfl (.cons rfl .nil)))
   refine jr <| jc (op_assign lb .cI) <| jn <| JC.block ?_
   obtain ⟨tv6, hL6, hq6⟩ := bnd_inv hx5
   refine JC.pre ?_ (JC.loop (γ := Unit) (stf := fun s q => ⟨[(2, ov (PTR gb_3 0)), (3, ov (PTR gb_4 0)), (5, ov (S (rI .i64) s))], [cvar gb_3 r_api_Frame t_1, cvar gb_4 r_api_Frame a_2], []⟩) (q := ()) hL6 ?_)
   · exact (Imp.norm (js := [0, 0]) rfl (.cons rfl (.cons rfl (.cons rfl .nil))))
   intro x_8 q x hx hr
   obtain _ := q
   change ref11_Same.b1 k t_1 a_2 x_8 = some x at hx
   unfold ref11_Same.b1 at hx
   refine JC.at ⟨[(2, ov (PTR gb_3 0)), (3, ov (PTR gb_4 0)), (5, ov (S (rI .i64) x_8))], [cvar gb_3 r_api_Frame t_1, cvar gb_4 r_api_Frame a_2], []⟩ ?_
   refine JC.seq <| jr <| jmv rfl rfl <| jc (op_fieldAddr (off := 91) lb tf39_10 (.tmp rfl)) <| jc (op_loadS (j := 0) lb tS36 (.tmp rfl) rfl (cT (comp_api_Frame_Leaves t_1) rfl) rfl rfl) ?_
   refine jc (op_lenL lb tu36 (.tmp rfl)) ?_
   obtain ⟨v_9, hv_9, hx⟩ := lt1_inv hx
   refine jc (op_cmpI lb (.tmp rfl) (.tmp rfl) (cs hv_9)) <| jn ?_
   rcases iteB_inv hx with ⟨hc7, hx⟩ | ⟨hc7, hx⟩
   · refine JC.condT (.tmp rfl) hc7 ?_
     refine JC.skip ?_
     refine JQ.then <| JC.seq <| JC.block <| JC.seq ?_
     obtain ⟨v_10, hv_10, hx⟩ := bnd_inv hx
     obtain ⟨v_11, hv_11, hx⟩ := bnd_inv hx
     obtain ⟨v_12, hv_12, hx⟩ := lt1_inv hx
     refine JC.anyF (base := [(2, ov (PTR gb_3 0)), (3, ov (PTR gb_4 0)), (5, ov (S (rI .i64) x_8))])
         (fs := fun γ => [⟨some 30, ov (PTR gb_3 (0 + 91))⟩, ⟨some 31, ov (S (rL (rV 32 (rU UInt8))) t_1.Leaves)⟩, ⟨some 32, ov (S (rI .i64) x_8)⟩, ⟨some 33, ov (PT (rV 32 (rU UInt8)) v_10)⟩, ⟨some 34, ov (A (rV 32 (rU UInt8)) v_10)⟩, ⟨some 35, ov (PTR gb_4 (0 + 91))⟩, ⟨some 36, ov (S (rL (rV 32 (rU UInt8))) a_2.Leaves)⟩, ⟨some 37, ov (S (rI .i64) x_8)⟩, ⟨some 38, ov (PT (rV 32 (rU UInt8)) v_11)⟩, ⟨some 39, ov (A (rV 32 (rU UInt8)) v_11)⟩, ⟨some 40, ov (S rB v_12)⟩])
         (rs := fun γ => [⟨cvar gb_3 r_api_Frame t_1, none, none, [1]⟩, ⟨cvar gb_4 r_api_Frame a_2, none, none, [6]⟩])
         (afts := nn 11) (js := [0, 0]) mixed (.cons rfl (.cons rfl (.cons rfl .nil))) (fun _ => rfl)
         (by
      refine dS 1 (fun γ ρ B hb hd => op_fieldAddr (off := 91) lb tf39_10 (.tmp (hb 2 _ rfl))) <| dR 2 (fun γ ρ B hb hd => OpStep.lk ⟨ρ, (cvar gb_3 r_api_Frame t_1) :: B, _⟩ (op_loadS (j := 0) lb tS36 (tl hd 0 30) rfl (cT (comp_api_Frame_Leaves t_1) rfl) rfl rfl)) <| db 3 5 <| dS 4 (fun γ ρ B hb hd => op_indexAddrLg lb tu36 tz35 (tl hd 1 31) (tl hd 2 32) hv_10) <| dS 5 (fun γ ρ B hb hd => op_loadPAg lb tA35 (tl hd 3 33) rfl) ?_
      refine dS 6 (fun γ ρ B hb hd => op_fieldAddr (off := 91) lb tf39_10 (.tmp (hb 3 _ rfl))) <| dR 7 (fun γ ρ B hb hd => OpStep.lk ⟨ρ, (cvar gb_4 r_api_Frame a_2) :: B, _⟩ (op_loadS (j := 0) lb tS36 (tl hd 5 35) rfl (cT (comp_api_Frame_Leaves a_2) rfl) rfl rfl)) <| db 8 5 <| dS 9 (fun γ ρ B hb hd => op_indexAddrLg lb tu36 tz35 (tl hd 6 36) (tl hd 7 37) hv_11) <| dS 10 (fun γ ρ B hb hd => op_loadPAg lb tA35 (tl hd 8 38) rfl) ?_
      refine dS 11 (fun γ ρ B hb hd => op_neA lb qa35 (by decide) ng35 (tl hd 4 34) (tl hd 9 39) hv_12) ?_
      exact DSteps.nil)
         (by decide +kernel) (fun _ => rfl) (fun _ => rfl) (fun _ => rfl) rfl
         (ρ' := fun γ => [(2, ov (PTR gb_3 0)), (3, ov (PTR gb_4 0)), (5, ov (S (rI .i64) x_8)), (40, ov (S rB v_12))])
         (X' := fun γ => [cvar gb_3 r_api_Frame t_1, cvar gb_4 r_api_Frame a_2])
         (fun γ ρ hb hd => (.cons (hb 2 _ rfl) (.cons (hb 3 _ rfl) (.cons (hb 5 _ rfl) (.cons (hdq hd 10 40 rfl) .nil))))) (fun _ => rfl) (fun γ => ?_)
     refine JQ.at ⟨[(2, ov (PTR gb_3 0)), (3, ov (PTR gb_4 0)), (5, ov (S (rI .i64) x_8)), (40, ov (S rB v_12))], [cvar gb_3 r_api_Frame t_1, cvar gb_4 r_api_Frame a_2], []⟩ ?_
     refine JQ.then ?_
     rcases iteB_inv hx with ⟨hc8, hx⟩ | ⟨hc8, hx⟩
     · refine JC.condT (.tmp rfl) hc8 ?_
       refine jr <| jc (op_assign lb .cB) <| jn ?_
       refine JC.ret ?_
       refine JQ.outRB ?_
       refine JQ.outR ?_
       try obtain rfl := so hx
       have ht := hr _ rfl
       clear hr
       first | subst ht | clear ht
       dsimp only at hq6
       refine JQ.outR ?_
       refine JQ.outRB ?_
       try obtain rfl := so hq6
       dsimp only at hq5
       refine JQ.outR ?_
       obtain rfl := so hq5
       exact jd (.val (S rB false)) rfl rfl rfl rfl rfl rfl
     refine JC.condF (.tmp rfl) hc8 ?_
     refine JC.skip ?_
     refine JQ.outNB ?_
     refine JQ.then <| JC.region <| jmv rfl rfl ?_
     obtain ⟨v_13, hv_13, hx⟩ := lt1_inv hx
     refine jc (op_arI lb (.tmp rfl) .cI (cs hv_13)) <| jc (op_assign lb (.tmp rfl)) <| JL.nil ?_
     try obtain rfl := so hx
     exact JQ.next () rfl (Imp.norm (js := [0, 0]) rfl (.cons rfl (.cons rfl (.cons rfl .nil))))
   refine JC.condF (.tmp rfl) hc7 ?_
   refine JC.exit ?_
   refine JQ.outX ?_
   try obtain rfl := so hx
   have ht := hr _ rfl
   clear hr
   first | subst ht | clear ht
   dsimp only at hq6
   refine JQ.outX ?_
   refine JQ.here ?_
   try obtain rfl := so hq6
   exact JQ.joinK () () rfl (Imp.norm (js := [0, 0]) rfl (.cons rfl (.cons rfl .nil)))
 refine JC.region <| jc (op_fieldAddr (off := 91) lb tf39_10 (.tmp rfl)) <| jc (op_loadS (j := 0) lb tS36 (.tmp rfl) rfl (cT (comp_api_Frame_Leaves t_1) rfl) rfl rfl) <| jc (op_lenL lb tu36 (.tmp rfl)) <| jc (op_fieldAddr (off := 91) lb tf39_10 (.tmp rfl)) ?_
 refine jc (op_loadS (j := 1) lb tS36 (.tmp rfl) rfl (cT (comp_api_Frame_Leaves a_2) rfl) rfl rfl) ?_
 refine JL.sub ⟨[(2, ov (PTR gb_3 0)), (3, ov (PTR gb_4 0)), (9, ov (S (rI .i64) (List.length t_1.Leaves : Int))), (11, ov (S (rL (rV 32 (rU UInt8))) a_2.Leaves))], [cvar gb_3 r_api_Frame t_1, cvar gb_4 r_api_Frame a_2], []⟩ (.cons rfl (.cons rfl (.cons rfl (.cons rfl .nil)))) rfl rfl ?_
 refine jc (op_lenL lb tu36 (.tmp rfl)) ?_
 obtain ⟨v_5, hv_5, hx1⟩ := lt1_inv hx1
 refine jc (op_cmpI lb (.tmp rfl) (.tmp rfl) (cs hv_5)) <| jmv rfl rfl ?_
 rcases iteB_inv hx1 with ⟨hc3, hx1⟩ | ⟨hc3, hx1⟩
 · refine jk rfl hc3 <| jk rfl hc3 <| jk rfl hc3 <| jk rfl hc3 <| jk rfl hc3 ?_
   refine jk rfl hc3 <| jk rfl hc3 <| jc (op_pickT lb (.tmp rfl) hc3 .cB) <| JL.nil ?_
   try obtain rfl := so hx1
   exact JQ.join () (Imp.norm (js := [0, 0]) rfl (.cons rfl (.cons rfl (.cons rfl .nil))))
 refine JL.run (.yes rfl (ltB rfl) rfl hc3) (op_fieldAddr (off := 92) lb tf39_11 (.tmp rfl)) ?_
 refine JL.run (.yes rfl (ltB rfl) rfl hc3) (op_loadS (j := 0) lb tS37 (.tmp rfl) rfl (cT (comp_api_Frame_Buckets t_1) rfl) rfl rfl) ?_
 refine JL.run (.yes rfl (ltB rfl) rfl hc3) (op_lenL lb tu37 (.tmp rfl)) ?_
 refine JL.run (.yes rfl (ltB rfl) rfl hc3) (op_fieldAddr (off := 92) lb tf39_11 (.tmp rfl)) ?_
 refine JL.run (.yes rfl (ltB rfl) rfl hc3) (op_loadS (j := 1) lb tS37 (.tmp rfl) rfl (cT (comp_api_Frame_Buckets a_2) rfl) rfl rfl) ?_
 refine JL.run (.yes rfl (ltB rfl) rfl hc3) (op_lenL lb tu37 (.tmp rfl)) ?_
 obtain ⟨v_6, hv_6, hx1⟩ := lt1_inv hx1
 refine JL.run (.yes rfl (ltB rfl) rfl hc3) (op_cmpI lb (.tmp rfl) (.tmp rfl) (cs hv_6)) ?_
 refine jc (op_pickF lb (.tmp rfl) hc3 (.tmp rfl)) <| JL.nil ?_
 try obtain rfl := so hx1
 exact JQ.join () (Imp.norm (js := [0, 0]) rfl (.cons rfl (.cons rfl (.cons rfl .nil))))

theorem sim_ref11_Name (k : Nat) (k_1 : Int) (r : (List UInt8)) (hm : ref11_Name k k_1 = some r) : Sim Tryz.prog 25 [S (rI .i64) k_1] [] (γ := Unit) (fun q => []) (fun q => .one (.val (S rS r))) := by
 unfold ref11_Name at hm
 refine Sim.of Tryz.func25 rfl rfl (lE rfl) (fun e0 w0 => ?_)
 refine JC.at ⟨[(0, ov (S (rI .i64) k_1))], [], []⟩ ?_
 refine jr <| jc (op_assign lb (HasO.cS (l := []) rfl)) <| jn <| jr <| jc (op_buildF (r := rS) lb tu123 tz9 tZ9 rfl (lE rfl) (.S rfl (HasO.cS (l := []) rfl) (.S rfl (HasO.cS (l := [100, 101, 108, 116, 97]) rfl) (.S rfl (HasO.cS (l := [101, 118, 101, 110, 116]) rfl) (.S rfl (HasO.cS (l := [104, 97, 118, 101]) rfl) (.S rfl (HasO.cS (l := [107, 110, 111, 119, 110]) rfl) (.S rfl (HasO.cS (l := [114, 111, 111, 116]) rfl) (.S rfl (HasO.cS (l := [108, 101, 97, 118, 101, 115]) rfl) (.S rfl (HasO.cS (l := [105, 116, 101, 109, 115]) rfl) .nil)))))))) rfl) ?_
 refine jc (op_assign lb (.tmp rfl)) <| jn <| JC.seq ?_
 obtain ⟨x_5, hx1, hq1⟩ := bnd_inv hm
 refine JC.seqJ (γ := Unit) (stj := fun _ => ⟨[(0, ov (S (rI .i64) k_1)), (3, ov (S (rL rS) ([([] : List UInt8), ([100, 101, 108, 116, 97] : List UInt8), ([101, 118, 101, 110, 116] : List UInt8), ([104, 97, 118, 101] : List UInt8), ([107, 110, 111, 119, 110] : List UInt8), ([114, 111, 111, 116] : List UInt8), ([108, 101, 97, 118, 101, 115] : List UInt8), ([105, 116, 101, 109, 115] : List UInt8)] : (List (List UInt8))))), (10, ov (S rB x_5))], [], []⟩) (fun _ => ?_) ?_
 · rcases iteB_inv hq1 with ⟨hc5, hq1⟩ | ⟨hc5, hq1⟩
   · refine JC.condT (.tmp rfl) hc5 ?_
     refine jr <| jc (op_assign lb (HasO.cS (l := []) rfl)) <| jn ?_
     refine JC.ret ?_
     refine JQ.outR ?_
     obtain rfl := so hq1
     exact jd (.val (S rS ([] : List UInt8))) rfl rfl rfl rfl rfl rfl
   refine JC.condF (.tmp rfl) hc5 ?_
   refine JC.skip ?_
   refine JQ.then <| jr <| jmv rfl rfl <| jmv rfl rfl ?_
   obtain ⟨v_6, hv_6, hq1⟩ := bnd_inv hq1
   refine jc (op_indexAddrLg lb tu123 tz9 (.tmp rfl) (.tmp rfl) hv_6) <| jc (op_loadPSg lb tS9 rfl (.tmp rfl) rfl) <| jc (op_assign lb (.tmp rfl)) <| jn ?_
   refine JC.ret ?_
   obtain rfl := so hq1
   exact jd (.val (S rS v_6)) rfl rfl rfl rfl rfl rfl
 refine JC.region <| jmv rfl rfl ?_
 obtain ⟨v_2, hv_2, hx1⟩ := lt1_inv hx1
 refine jc (op_cmpI lb (.tmp rfl) .cI (cs hv_2)) <| jmv rfl rfl ?_
 refine JL.cnd (sv := ov (S (rI .i64) k_1)) (Guard.isF (ltB rfl) rfl rfl) rfl (ltB rfl) (fun hq_2 => op_move lb (.tmp rfl)) ?_
 obtain ⟨v_3, hv_3, hx1⟩ := lt1_inv hx1
 refine JL.cnd (sv := ov (S rB v_3)) (Guard.isF (ltB rfl) rfl rfl) rfl (ltB rfl) (fun hq_3 => op_cmpI lb (HasO.cnd (.tmp rfl) (notT (notF hq_3))) .cI (cs hv_3)) ?_
 obtain ⟨v_4, hv_4, hx1⟩ := lt1_inv hx1
 refine jc (op_pickCS lb (.tmp rfl) (fun hb4 => .cB) (fun hb4 => (HasO.cnd (.tmp rfl) (notT hb4))) hv_4) <| JL.nil ?_
 try obtain rfl := so hx1
 exact JQ.join () (Imp.norm (js := []) rfl (.cons rfl (.cons rfl (.cons rfl .nil))))

end Go.Proofs.YtklnihlchhhhlaaGreat
