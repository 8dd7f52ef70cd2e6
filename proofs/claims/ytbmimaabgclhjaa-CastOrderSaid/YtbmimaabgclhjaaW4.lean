/- Walks. -/
import Derived.Test.YtbmimaabgclhjaaT
import Derived.Test.YtbmimaabgclhjaaW1
import Derived.Test.YtbmimaabgclhjaaW2
import Derived.Test.YtbmimaabgclhjaaW3
namespace Go.Proofs.Ytbmimaabgclhjaa
open Go Fw
set_option linter.unusedVariables false
set_option maxRecDepth 100000
set_option maxHeartbeats 4000000

theorem sim_slices_Collectapi_Event'2 (k : Nat) (x_2 : (List (api_Dot × api_Event))) (gb_1 : Nat) (go_3 : Option Nat) (r : (List api_Event)) (hm : slices_Collectapi_Event'2 k x_2 = some r) : Sim Try.prog 51 [CLO 53 [PTR gb_1 0]] [cvar gb_1 (rW (MPV go_3)) (), cmap go_3 (A r_api_Dot) (A r_api_Event) (some x_2)] (γ := Option Nat × Nat) (fun q => [cown q.1 r_api_Event r 0 q.2, cvar gb_1 (rW (MPV go_3)) (), cmap go_3 (A r_api_Dot) (A r_api_Event) (some x_2)]) (fun q => .one (.val (HDR q.1 0 (List.length r) q.2))) := by
 unfold slices_Collectapi_Event'2 at hm
 refine Sim.of Try.func51 rfl rfl (lE rfl) (fun e0 w0 => ?_)
 refine JC.at ⟨[(0, ov (CLO 53 [PTR gb_1 0]))], [cvar gb_1 (rW (MPV go_3)) (), cmap go_3 (A r_api_Dot) (A r_api_Event) (some x_2)], []⟩ <| jr <| jc (op_assign lb HasO.nilH) <| jn <| jr <| jmv rfl rfl <| bI hm fun v_4 hv_4 hm => JL.pre (Imp.nilown r_api_Event) <| jx (op_call (js := [2, 0, 0]) ld cl61 (sim_slices_AppendSeqapi_Event_api_Event'2 k ([] : (List api_Event)) x_2 none (0) gb_1 go_3 v_4 hv_4) .func (.cons HasO.nilH (.cons tR .nil)) rfl) (fun q => ?_)
 obtain ⟨go_5, gc_6⟩ := q
 refine JL.sub ⟨[(2, ov (HDR none 0 0 0)), (4, ov (HDR go_5 0 (List.length v_4) gc_6))], [cown go_5 r_api_Event v_4 0 gc_6, cvar gb_1 (rW (MPV go_3)) (), cmap go_3 (A r_api_Dot) (A r_api_Event) (some x_2)], []⟩ (.cons rfl (.cons rfl .nil)) rfl rfl <| jc (op_assign lb tR) <| jn <| JC.ret ?_
 obtain rfl := so hm
 exact JQ.done (js := [0, 0, 0]) (ss := [.val (HDR go_5 0 (List.length v_4) gc_6)]) (go_5, gc_6) (.inl rfl) (.nil rfl) rfl (.cons (.tmp rfl) .nil) rfl rfl rfl

theorem sim_math_bits_Len64 (k : Nat) (x_1 : UInt64) (r : Int) (hm : math_bits_Len64 k x_1 = some r) : Sim Try.prog 75 [S (rU UInt64) x_1] [] (γ := Unit) (fun q => []) (fun q => .one (.val (S (rI .i64) r))) := by
 unfold math_bits_Len64 at hm
 refine Sim.of Try.func75 rfl rfl (lE rfl) (fun e0 w0 => ?_)
 refine JC.at ⟨[(0, ov (S (rU UInt64) x_1))], [], []⟩ <| jr <| jc (op_assign lb .cI) <| jn ?_
 obtain ⟨⟨x_4, n_5⟩, hx1, hq1⟩ := bnd_inv hm
 refine JC.seqJ (γ := Unit) (stj := fun _ => ⟨[(0, ov (S (rU UInt64) x_4)), (2, ov (S (rI .i64) n_5))], [], []⟩) (fun _ => ?_) ?_
 · obtain ⟨⟨x_9, n_10⟩, hx3, hq3⟩ := bnd_inv hq1
   refine JC.seqJ (γ := Unit) (stj := fun _ => ⟨[(0, ov (S (rU UInt64) x_9)), (2, ov (S (rI .i64) n_10))], [], []⟩) (fun _ => ?_) ?_
   · obtain ⟨⟨x_14, n_15⟩, hx5, hq5⟩ := bnd_inv hq3
     refine JC.seqJ (γ := Unit) (stj := fun _ => ⟨[(0, ov (S (rU UInt64) x_14)), (2, ov (S (rI .i64) n_15))], [], []⟩) (fun _ => ?_) ?_
     · refine jr <| jmv rfl rfl <| jmv rfl rfl <| lI hq5 fun v_16 hv_16 hq5 => jc (op_convUU lb tu29 tu5 tR hv_16) <| bI hq5 fun v_17 hv_17 hq5 => jc (op_indexStrUg lb tu9 (HasO.cS (l := [0, 1, 2, 2, 3, 3, 3, 3, 4, 4, 4, 4, 4, 4, 4, 4, 5, 5, 5, 5, 5, 5, 5, 5, 5, 5, 5, 5, 5, 5, 5, 5, 6, 6, 6, 6, 6, 6, 6, 6, 6, 6, 6, 6, 6, 6, 6, 6, 6, 6, 6, 6, 6, 6, 6, 6, 6, 6, 6, 6, 6, 6, 6, 6, 7, 7, 7, 7, 7, 7, 7, 7, 7, 7, 7, 7, 7, 7, 7, 7, 7, 7, 7, 7, 7, 7, 7, 7, 7, 7, 7, 7, 7, 7, 7, 7, 7, 7, 7, 7, 7, 7, 7, 7, 7, 7, 7, 7, 7, 7, 7, 7, 7, 7, 7, 7, 7, 7, 7, 7, 7, 7, 7, 7, 7, 7, 7, 7, 8, 8, 8, 8, 8, 8, 8, 8, 8, 8, 8, 8, 8, 8, 8, 8, 8, 8, 8, 8, 8, 8, 8, 8, 8, 8, 8, 8, 8, 8, 8, 8, 8, 8, 8, 8, 8, 8, 8, 8, 8, 8, 8, 8, 8, 8, 8, 8, 8, 8, 8, 8, 8, 8, 8, 8, 8, 8, 8, 8, 8, 8, 8, 8, 8, 8, 8, 8, 8, 8, 8, 8, 8, 8, 8, 8, 8, 8, 8, 8, 8, 8, 8, 8, 8, 8, 8, 8, 8, 8, 8, 8, 8, 8, 8, 8, 8, 8, 8, 8, 8, 8, 8, 8, 8, 8, 8, 8, 8, 8, 8, 8, 8, 8, 8, 8, 8, 8, 8, 8, 8, 8, 8, 8, 8, 8, 8, 8]) rfl) tR hv_17) <| lI hq5 fun v_18 hv_18 hq5 => jc (op_convUI lb tu5 tu3 tR hv_18) <| lI hq5 fun v_19 hv_19 hq5 => jc (op_arI lb tR tR (cs hv_19)) <| jc (op_assign lb tR) <| jn ?_
       refine JC.ret ?_
       obtain rfl := so hq5
       exact jd (.val (S (rI .i64) v_19)) rfl rfl rfl rfl rfl rfl
     refine jr <| jmv rfl rfl <| lI hx5 fun v_11 hv_11 hx5 => jc (op_cmpU lb tR (HasO.cU (x := (256 : UInt64)) rfl (by decide)) (cs hv_11)) <| jn <| jif tR hx5 (fun hc6 hx5 => ?_) (fun hc6 hx5 => ?_)
     · refine jr <| jmv rfl rfl <| lI hx5 fun v_12 hv_12 hx5 => jc (op_shrUU lb tR (HasO.cU (x := (8 : UInt64)) rfl (by decide)) hv_12) <| jc (op_assign lb tR) <| jn <| JC.region <| jmv rfl rfl <| lI hx5 fun v_13 hv_13 hx5 => jc (op_arI lb tR .cI (cs hv_13)) <| jc (op_assign lb tR) <| JL.nil ?_
       have hz := Option.some.inj hx5
       replace hz := Prod.mk.inj hz
       obtain ⟨hz_a, hz⟩ := hz
       first | subst hz_a | clear hz_a
       first | subst hz | clear hz
       exact JQ.join () (Imp.norm (js := []) rfl (.cons rfl (.cons rfl .nil)))
     refine JC.skip ?_
     have hz := Option.some.inj hx5
     replace hz := Prod.mk.inj hz
     obtain ⟨hz_a, hz⟩ := hz
     first | subst hz_a | clear hz_a
     first | subst hz | clear hz
     exact JQ.join () (Imp.norm (js := []) rfl (.cons rfl (.cons rfl .nil)))
   refine jr <| jmv rfl rfl <| lI hx3 fun v_6 hv_6 hx3 => jc (op_cmpU lb tR (HasO.cU (x := (65536 : UInt64)) rfl (by decide)) (cs hv_6)) <| jn <| jif tR hx3 (fun hc4 hx3 => ?_) (fun hc4 hx3 => ?_)
   · refine jr <| jmv rfl rfl <| lI hx3 fun v_7 hv_7 hx3 => jc (op_shrUU lb tR (HasO.cU (x := (16 : UInt64)) rfl (by decide)) hv_7) <| jc (op_assign lb tR) <| jn <| JC.region <| jmv rfl rfl <| lI hx3 fun v_8 hv_8 hx3 => jc (op_arI lb tR .cI (cs hv_8)) <| jc (op_assign lb tR) <| JL.nil ?_
     have hz := Option.some.inj hx3
     replace hz := Prod.mk.inj hz
     obtain ⟨hz_a, hz⟩ := hz
     first | subst hz_a | clear hz_a
     first | subst hz | clear hz
     exact JQ.join () (Imp.norm (js := []) rfl (.cons rfl (.cons rfl .nil)))
   refine JC.skip ?_
   have hz := Option.some.inj hx3
   replace hz := Prod.mk.inj hz
   obtain ⟨hz_a, hz⟩ := hz
   first | subst hz_a | clear hz_a
   first | subst hz | clear hz
   exact JQ.join () (Imp.norm (js := []) rfl (.cons rfl (.cons rfl .nil)))
 refine jr <| jmv rfl rfl <| lI hx1 fun v_2 hv_2 hx1 => jc (op_cmpU lb tR (HasO.cU (x := (4294967296 : UInt64)) rfl (by decide)) (cs hv_2)) <| jn <| jif tR hx1 (fun hc2 hx1 => ?_) (fun hc2 hx1 => ?_)
 · refine jr <| jmv rfl rfl <| lI hx1 fun v_3 hv_3 hx1 => jc (op_shrUU lb tR (HasO.cU (x := (32 : UInt64)) rfl (by decide)) hv_3) <| jc (op_assign lb tR) <| jn <| JC.region <| jc (op_assign lb .cI) <| JL.nil ?_
   have hz := Option.some.inj hx1
   replace hz := Prod.mk.inj hz
   obtain ⟨hz_a, hz⟩ := hz
   first | subst hz_a | clear hz_a
   first | subst hz | clear hz
   exact JQ.join () (Imp.norm (js := []) rfl (.cons rfl (.cons rfl .nil)))
 refine JC.skip ?_
 have hz := Option.some.inj hx1
 replace hz := Prod.mk.inj hz
 obtain ⟨hz_a, hz⟩ := hz
 first | subst hz_a | clear hz_a
 first | subst hz | clear hz
 exact JQ.join () (Imp.norm (js := []) rfl (.cons rfl (.cons rfl .nil)))

theorem sim_math_bits_Len (k : Nat) (x_1 : UInt64) (r : Int) (hm : math_bits_Len k x_1 = some r) : Sim Try.prog 63 [S (rU UInt64) x_1] [] (γ := Unit) (fun q => []) (fun q => .one (.val (S (rI .i64) r))) := by
 unfold math_bits_Len at hm
 refine Sim.of Try.func63 rfl rfl (lE rfl) (fun e0 w0 => ?_)
 refine JC.at ⟨[(0, ov (S (rU UInt64) x_1))], [], []⟩ <| jr <| jc (op_assign lb .cI) <| jn <| JC.seq <| JC.condF .cB rfl <| JC.skip <| JQ.then <| jr <| jmv rfl rfl <| bI hm fun v_2 hv_2 hm => jx (op_call (js := []) ld cl75 (sim_math_bits_Len64 k x_1 v_2 hv_2) .func (.cons tR .nil) rfl) fun _ => jc (op_assign lb tR) <| jn <| JC.ret ?_
 obtain rfl := so hm
 exact jd (.val (S (rI .i64) v_2)) rfl rfl rfl rfl rfl rfl

theorem sim_slices_insertionSortCmpFuncapi_Event (k : Nat) (data_1 : (List api_Event)) (a_2 : Int) (b_3 : Int) (r : Unit) (hm : slices_insertionSortCmpFuncapi_Event k data_1 a_2 b_3 = some r) : Sim Try.prog 66 [S (rL r_api_Event) data_1, S (rI .i64) a_2, S (rI .i64) b_3, CLO 34 []] [] (γ := Unit) (fun q => []) (fun q => .tup []) := by
 unfold slices_insertionSortCmpFuncapi_Event at hm
 refine Sim.of Try.func66 rfl rfl (lE rfl) (fun e0 w0 => ?_)
 refine JC.at ⟨[(0, ov (S (rL r_api_Event) data_1)), (1, ov (S (rI .i64) a_2)), (2, ov (S (rI .i64) b_3)), (3, ov (CLO 34 []))], [], []⟩ <| jr <| jmv rfl rfl <| lI hm fun v_4 hv_4 hm => jc (op_arI lb tR .cI (cs hv_4)) <| jc (op_assign lb tR) <| jn <| JC.block <| JC.pre ?_ (JC.loop (γ := Unit) (stf := fun s q => ⟨[(0, ov (S (rL r_api_Event) data_1)), (1, ov (S (rI .i64) a_2)), (2, ov (S (rI .i64) b_3)), (3, ov (CLO 34 [])), (8, ov (S (rI .i64) s))], [], []⟩) (q := ()) hm ?_)
 · exact (Imp.norm (js := []) rfl (.cons rfl (.cons rfl (.cons rfl (.cons rfl (.cons rfl .nil))))))
 intro i_5 q x hx hr
 obtain _ := q
 change slices_insertionSortCmpFuncapi_Event.b1 k b_3 a_2 data_1 i_5 = some x at hx
 unfold slices_insertionSortCmpFuncapi_Event.b1 at hx
 refine JC.at ⟨[(0, ov (S (rL r_api_Event) data_1)), (1, ov (S (rI .i64) a_2)), (2, ov (S (rI .i64) b_3)), (3, ov (CLO 34 [])), (8, ov (S (rI .i64) i_5))], [], []⟩ <| JC.seq <| jr <| jmv rfl rfl <| jmv rfl rfl <| lI hx fun v_6 hv_6 hx => jc (op_cmpI lb tR tR (cs hv_6)) <| jn <| jif tR hx (fun hc2 hx => ?_) (fun hc2 hx => ?_)
 · refine JC.skip <| JQ.then <| bI hx fun _ hx3 hq3 => JC.seqJ (γ := Unit) (stj := fun _ => ⟨[(0, ov (S (rL r_api_Event) data_1)), (1, ov (S (rI .i64) a_2)), (2, ov (S (rI .i64) b_3)), (3, ov (CLO 34 [])), (8, ov (S (rI .i64) i_5))], [], []⟩) (fun _ => ?_) ?_
   · refine JC.region <| jmv rfl rfl <| lI hq3 fun v_11 hv_11 hq3 => jc (op_arI lb tR .cI (cs hv_11)) <| jc (op_assign lb tR) <| JL.nil ?_
     try obtain rfl := so hq3
     exact JQ.next () rfl (Imp.norm (js := []) rfl (.cons rfl (.cons rfl (.cons rfl (.cons rfl (.cons rfl .nil))))))
   refine JC.block <| jr <| jmv rfl rfl <| jc (op_assign lb tR) <| jn <| JC.block <| JC.pre ?_ (JC.loop (γ := Unit) (stf := fun s q => ⟨[(0, ov (S (rL r_api_Event) data_1)), (1, ov (S (rI .i64) a_2)), (2, ov (S (rI .i64) b_3)), (3, ov (CLO 34 [])), (8, ov (S (rI .i64) i_5)), (9, ov (S (rI .i64) i_5))], [], []⟩) (q := ()) hx3 ?_)
   · exact (Imp.norm (js := []) rfl (.cons rfl (.cons rfl (.cons rfl (.cons rfl (.cons rfl (.cons rfl .nil)))))))
   intro s q x hx hr
   obtain _ := q
   change slices_insertionSortCmpFuncapi_Event.b2 k i_5 a_2 data_1 = some x at hx
   unfold slices_insertionSortCmpFuncapi_Event.b2 at hx
   refine JC.at ⟨[(0, ov (S (rL r_api_Event) data_1)), (1, ov (S (rI .i64) a_2)), (2, ov (S (rI .i64) b_3)), (3, ov (CLO 34 [])), (8, ov (S (rI .i64) i_5)), (9, ov (S (rI .i64) i_5))], [], []⟩ <| JC.seq <| bI hx fun _ hx5 hq5 => JC.seqJ (γ := Unit) (stj := fun _ => ⟨[(0, ov (S (rL r_api_Event) data_1)), (1, ov (S (rI .i64) a_2)), (2, ov (S (rI .i64) b_3)), (3, ov (CLO 34 [])), (8, ov (S (rI .i64) i_5)), (9, ov (S (rI .i64) i_5)), (34, ov (S rB false))], [], []⟩) (fun _ => ?_) ?_
   · refine JC.condF tR rfl <| JC.exit <| JQ.outX ?_
     try obtain rfl := so hq5
     have ht := hr _ rfl
     have hq4 := cs ht
     clear hr ht
     exact JQ.outX <| JQ.here <| JQ.outNB <| JQ.join () (Imp.norm (js := []) rfl (.cons rfl (.cons rfl (.cons rfl (.cons rfl (.cons rfl .nil))))))
   refine lI hx5 fun v_7 hv_7 hx5 => bI hx5 fun v_8 hv_8 hx5 => lI hx5 fun v_9 hv_9 hx5 => ?_
   obtain ⟨v_10, hv_10, hx5⟩ := bnd_inv hx5
   rcases iteB_inv hx5 with ⟨hc17, hx5⟩ | ⟨hc17, hx5⟩
   · cases hx5
   refine JC.anyF (base := [(0, ov (S (rL r_api_Event) data_1)), (1, ov (S (rI .i64) a_2)), (2, ov (S (rI .i64) b_3)), (3, ov (CLO 34 [])), (8, ov (S (rI .i64) i_5)), (9, ov (S (rI .i64) i_5))])
       (fs := fun γ => [⟨some 18, ov (S (rI .i64) i_5)⟩, ⟨some 19, ov (S (rI .i64) a_2)⟩, ⟨some 20, ov (S rB v_7)⟩, ⟨some 21, ov (S rB v_7)⟩, ⟨some 22, bif v_7 then ov (CLO 34 []) else .one .und⟩, ⟨some 23, bif v_7 then ov (S (rL r_api_Event) data_1) else .one .und⟩, ⟨some 24, bif v_7 then ov (S (rI .i64) i_5) else .one .und⟩, ⟨some 25, bif v_7 then ov (PT r_api_Event v_8) else .one .und⟩, ⟨some 26, bif v_7 then ov (A r_api_Event v_8) else .one .und⟩, ⟨some 27, bif v_7 then ov (S (rL r_api_Event) data_1) else .one .und⟩, ⟨some 28, bif v_7 then ov (S (rI .i64) i_5) else .one .und⟩, ⟨some 29, bif v_7 then ov (S (rI .i64) v_9) else .one .und⟩, ⟨some 30, bif v_7 then ov (PT r_api_Event v_10) else .one .und⟩, ⟨some 31, bif v_7 then ov (A r_api_Event v_10) else .one .und⟩, ⟨some 32, .one .und⟩, ⟨some 33, .one .und⟩, ⟨some 34, ov (S rB false)⟩])
       (rs := fun γ => [])
       (afts := nn 17) (js := []) mixed (.cons rfl (.cons rfl (.cons rfl (.cons rfl (.cons rfl (.cons rfl .nil)))))) (fun _ => rfl)
       (by
      refine db 1 9 <| db 2 1 <| dS 3 (fun γ ρ B hb hd => op_cmpI lb (tl hd 0 18) (tl hd 1 19) (cs hv_7)) <| dm 4 2 20 ?_
      refine dT 5 3 21 v_7 (fun γ => ov (CLO 34 [])) (fun γ ρ B hb hd hq_6 => op_move lb (.tmp (hb 3 _ rfl))) ?_
      refine dT 6 3 21 v_7 (fun γ => ov (S (rL r_api_Event) data_1)) (fun γ ρ B hb hd hq_7 => op_move lb (.tmp (hb 0 _ rfl))) ?_
      refine dT 7 3 21 v_7 (fun γ => ov (S (rI .i64) i_5)) (fun γ ρ B hb hd hq_8 => op_move lb (.tmp (hb 9 _ rfl))) ?_
      refine dT 8 3 21 v_7 (fun γ => ov (PT r_api_Event v_8)) (fun γ ρ B hb hd hq_9 => op_indexAddrLg lb tu42 tz37 (HasO.cnd (tl hd 5 23) hq_9) (HasO.cnd (tl hd 6 24) hq_9) (ifT hv_8 hq_9)) ?_
      refine dT 9 3 21 v_7 (fun γ => ov (A r_api_Event v_8)) (fun γ ρ B hb hd hq_10 => op_loadPAg lb tA37 (HasO.cnd (tl hd 7 25) hq_10) rfl) ?_
      refine dT 10 3 21 v_7 (fun γ => ov (S (rL r_api_Event) data_1)) (fun γ ρ B hb hd hq_11 => op_move lb (.tmp (hb 0 _ rfl))) ?_
      refine dT 11 3 21 v_7 (fun γ => ov (S (rI .i64) i_5)) (fun γ ρ B hb hd hq_12 => op_move lb (.tmp (hb 9 _ rfl))) ?_
      refine dT 12 3 21 v_7 (fun γ => ov (S (rI .i64) v_9)) (fun γ ρ B hb hd hq_13 => op_arI lb (HasO.cnd (tl hd 10 28) hq_13) .cI (cs hv_9)) ?_
      refine dT 13 3 21 v_7 (fun γ => ov (PT r_api_Event v_10)) (fun γ ρ B hb hd hq_14 => op_indexAddrLg lb tu42 tz37 (HasO.cnd (tl hd 9 27) hq_14) (HasO.cnd (tl hd 11 29) hq_14) (ifT hv_10 hq_14)) ?_
      refine dT 14 3 21 v_7 (fun γ => ov (A r_api_Event v_10)) (fun γ ρ B hb hd hq_15 => op_loadPAg lb tA37 (HasO.cnd (tl hd 12 30) hq_15) rfl) ?_
      refine kn 15 3 21 rfl hc17 <| kn 16 3 21 rfl hc17 <| dS 17 (fun γ ρ B hb hd => op_pickF lb (tl hd 3 21) hc17 .cB) ?_
      exact DSteps.nil)
       (by decide +kernel) (fun _ => rfl) (fun _ => rfl) (fun _ => rfl) rfl
       (ρ' := fun γ => [(0, ov (S (rL r_api_Event) data_1)), (1, ov (S (rI .i64) a_2)), (2, ov (S (rI .i64) b_3)), (3, ov (CLO 34 [])), (8, ov (S (rI .i64) i_5)), (9, ov (S (rI .i64) i_5)), (34, ov (S rB false))])
       (X' := fun γ => [])
       (fun γ ρ hb hd => (.cons (hb 0 _ rfl) (.cons (hb 1 _ rfl) (.cons (hb 2 _ rfl) (.cons (hb 3 _ rfl) (.cons (hb 8 _ rfl) (.cons (hb 9 _ rfl) (.cons (hdq hd 16 34 rfl) .nil)))))))) (fun _ => rfl) (fun γ => ?_)
   exact JQ.at ⟨[(0, ov (S (rL r_api_Event) data_1)), (1, ov (S (rI .i64) a_2)), (2, ov (S (rI .i64) b_3)), (3, ov (CLO 34 [])), (8, ov (S (rI .i64) i_5)), (9, ov (S (rI .i64) i_5)), (34, ov (S rB false))], [], []⟩ <| JQ.join () (Imp.norm (js := []) rfl (.cons rfl (.cons rfl (.cons rfl (.cons rfl (.cons rfl (.cons rfl (.cons rfl .nil))))))))
 refine JC.exit <| JQ.outX ?_
 try obtain rfl := so hx
 have ht := hr _ rfl
 have hq1 := cs ht
 clear hr ht
 exact JQ.outX <| JQ.here <| JQ.done (js := []) (ss := []) () (.inr rfl) (.nil rfl) rfl .nil rfl rfl rfl

theorem sim_slices_pdqsortCmpFuncapi_Event (k : Nat) (t_1 : (List api_Event)) (a_2 : Int) (a_3 : Int) (a_4 : Int) (r : Unit) (hm : slices_pdqsortCmpFuncapi_Event k t_1 a_2 a_3 a_4 = some r) : Sim Try.prog 62 [S (rL r_api_Event) t_1, S (rI .i64) a_2, S (rI .i64) a_3, S (rI .i64) a_4, CLO 34 []] [] (γ := Unit) (fun q => []) (fun q => .tup []) := by
 unfold slices_pdqsortCmpFuncapi_Event at hm
 refine Sim.of Try.func62 rfl rfl (lE rfl) (fun e0 w0 => ?_)
 refine JC.at ⟨[(0, ov (S (rL r_api_Event) t_1)), (1, ov (S (rI .i64) a_2)), (2, ov (S (rI .i64) a_3)), (3, ov (S (rI .i64) a_4)), (4, ov (CLO 34 []))], [], []⟩ <| jr <| jc (op_assign lb .cB) <| jn <| jr <| jc (op_assign lb .cB) <| jn <| JC.block <| JC.pre ?_ (JC.loop (γ := Unit) (stf := fun s q => ⟨[(0, ov (S (rL r_api_Event) t_1)), (1, ov (S (rI .i64) a_2)), (2, ov (S (rI .i64) a_3)), (3, ov (S (rI .i64) a_4)), (4, ov (CLO 34 [])), (10, ov (S rB true)), (11, ov (S rB true))], [], []⟩) (q := ()) hm ?_)
 · exact (Imp.norm (js := []) rfl (.cons rfl (.cons rfl (.cons rfl (.cons rfl (.cons rfl (.cons rfl (.cons rfl .nil))))))))
 intro s q x hx hr
 obtain _ := q
 change slices_pdqsortCmpFuncapi_Event.b1 k a_3 a_2 t_1 a_4 = some x at hx
 unfold slices_pdqsortCmpFuncapi_Event.b1 at hx
 refine JC.at ⟨[(0, ov (S (rL r_api_Event) t_1)), (1, ov (S (rI .i64) a_2)), (2, ov (S (rI .i64) a_3)), (3, ov (S (rI .i64) a_4)), (4, ov (CLO 34 [])), (10, ov (S rB true)), (11, ov (S rB true))], [], []⟩ <| JC.block <| jr <| jmv rfl rfl <| jmv rfl rfl <| lI hx fun v_5 hv_5 hx => jc (op_arI lb tR tR (cs hv_5)) <| jc (op_assign lb tR) <| jn <| JC.seq <| jr <| jmv rfl rfl <| lI hx fun v_6 hv_6 hx => jc (op_cmpI lb tR .cI (cs hv_6)) <| jn <| jif tR hx (fun hc2 hx => ?_) (fun hc2 hx => ?_)
 · refine jr <| jmv rfl rfl <| jmv rfl rfl <| jmv rfl rfl <| jmv rfl rfl <| bI hx fun _ hv_u_7 hx => jx (op_call (js := []) ld cl66 (sim_slices_insertionSortCmpFuncapi_Event k t_1 a_2 a_3 () hv_u_7) .func (.cons tR (.cons tR (.cons tR (.cons tR .nil)))) rfl) fun _ => jn <| JC.ret <| JQ.outR <| JQ.outRB ?_
   try obtain rfl := so hx
   have ht := hr _ rfl
   have hq1 := cs ht
   clear hr ht
   exact JQ.outR <| JQ.outRB <| JQ.done (js := []) (ss := []) () (.inl rfl) (.nil rfl) rfl .nil rfl rfl rfl
 refine JC.skip <| JQ.then <| JC.seq <| jr <| jmv rfl rfl <| lI hx fun v_8 hv_8 hx => jc (op_cmpI lb tR .cI (cs hv_8)) <| jn <| jif tR hx (fun hc3 hx => ?_) (fun hc3 hx => ?_)
 · refine jr <| jmv rfl rfl <| jmv rfl rfl <| jmv rfl rfl <| jmv rfl rfl <| JL.sub ⟨[(33, ov (S (rL r_api_Event) t_1)), (34, ov (S (rI .i64) a_2)), (35, ov (S (rI .i64) a_3)), (36, ov (CLO 34 []))], [], []⟩ (.cons rfl (.cons rfl (.cons rfl (.cons rfl .nil)))) rfl rfl ?_
   cases hx
 refine JC.skip <| JQ.then <| bI hx fun _ hx4 hq4 => JC.seqJ (γ := Unit) (stj := fun _ => ⟨[(0, ov (S (rL r_api_Event) t_1)), (1, ov (S (rI .i64) a_2)), (2, ov (S (rI .i64) a_3)), (3, ov (S (rI .i64) a_4)), (4, ov (CLO 34 [])), (10, ov (S rB true)), (11, ov (S rB true)), (12, ov (S (rI .i64) v_5))], [], []⟩) (fun _ => ?_) ?_
 · refine jr <| jmv rfl rfl <| jmv rfl rfl <| jmv rfl rfl <| jmv rfl rfl ?_
   cases hq4
 exact jr <| jmv rfl rfl <| jc (op_not lb tR rfl) <| jn <| JC.condF tR rfl <| JC.skip <| JQ.join () (Imp.norm (js := []) rfl (.cons rfl (.cons rfl (.cons rfl (.cons rfl (.cons rfl (.cons rfl (.cons rfl (.cons rfl .nil)))))))))

theorem sim_slices_SortFuncapi_Event_api_Event (k : Nat) (x_1 : (List api_Event)) (r : Unit) (hm : slices_SortFuncapi_Event_api_Event k x_1 = some r) : Sim Try.prog 52 [S (rL r_api_Event) x_1, CLO 34 []] [] (γ := Unit) (fun q => []) (fun q => .tup []) := by
 unfold slices_SortFuncapi_Event_api_Event at hm
 refine Sim.of Try.func52 rfl rfl (lE rfl) (fun e0 w0 => ?_)
 refine JC.at ⟨[(0, ov (S (rL r_api_Event) x_1)), (1, ov (CLO 34 []))], [], []⟩ <| jr <| jmv rfl rfl <| jc (op_lenL lb tu42 tR) <| jc (op_assign lb tR) <| jn <| JC.region <| jmv rfl rfl <| jmv rfl rfl <| jmv rfl rfl <| lI hm fun v_2 hv_2 hm => jc (op_convIU lb tu3 tu107 tR hv_2) <| bI hm fun v_3 hv_3 hm => jx (op_call (js := []) ld cl63 (sim_math_bits_Len k v_2 v_3 hv_3) .func (.cons tR .nil) rfl) fun _ => jmv rfl rfl ?_
 obtain ⟨_, hv_u_4, hm⟩ := bnd_inv hm
 exact jx (op_call (js := []) ld cl62 (sim_slices_pdqsortCmpFuncapi_Event k x_1 (0 : Int) (List.length x_1 : Int) v_3 () hv_u_4) .func (.cons tR (.cons .cI (.cons tR (.cons tR (.cons tR .nil))))) rfl) fun _ => JL.nil <| JQ.done (js := []) (ss := []) () (.inr rfl) (.nil rfl) rfl .nil rfl rfl rfl

theorem sim_slices_SortedFuncapi_Event'2 (k : Nat) (x_2 : (List (api_Dot × api_Event))) (gb_1 : Nat) (go_3 : Option Nat) (r : (List api_Event)) (hm : slices_SortedFuncapi_Event'2 k x_2 = some r) : Sim Try.prog 32 [CLO 53 [PTR gb_1 0], CLO 34 []] [cvar gb_1 (rW (MPV go_3)) (), cmap go_3 (A r_api_Dot) (A r_api_Event) (some x_2)] (γ := Option Nat × Nat) (fun q => [cown q.1 r_api_Event r (List.length r) q.2, cvar gb_1 (rW (MPV go_3)) (), cmap go_3 (A r_api_Dot) (A r_api_Event) (some x_2)]) (fun q => .one (.val (HDR q.1 0 (List.length r) q.2))) := by
 unfold slices_SortedFuncapi_Event'2 at hm
 refine Sim.of Try.func32 rfl rfl (lE rfl) (fun e0 w0 => ?_)
 refine JC.at ⟨[(0, ov (CLO 53 [PTR gb_1 0])), (1, ov (CLO 34 []))], [cvar gb_1 (rW (MPV go_3)) (), cmap go_3 (A r_api_Dot) (A r_api_Event) (some x_2)], []⟩ <| jr <| jc (op_assign lb HasO.nilH) <| jn <| jr <| jmv rfl rfl <| bI hm fun v_4 hv_4 hm => jx (op_call (js := [0, 0]) ld cl51 (sim_slices_Collectapi_Event'2 k x_2 gb_1 go_3 v_4 hv_4) .func (.cons tR .nil) rfl) (fun q => ?_)
 obtain ⟨go_5, gc_6⟩ := q
 refine jc (op_assign lb tR) <| jn <| jr <| jmv rfl rfl <| jmv rfl rfl <| bI hm fun _ hv_u_7 hm => JL.pre (Imp.frz (j := 0) rfl (ImpK.slotH (s := 5) rfl (ImpK.slotH (s := 7) rfl (ImpK.slotH (s := 8) rfl ImpK.refl)))) <| jx (op_call (js := []) ld cl52 (sim_slices_SortFuncapi_Event_api_Event k v_4 () hv_u_7) .func (.cons (HasO.wk tR wkHL) (.cons tR .nil)) rfl) fun _ => jn <| jr <| jmv rfl rfl <| JL.sub ⟨[(4, ov (HDR none 0 0 0)), (11, ov (HL go_5 r_api_Event v_4 gc_6))], [cown go_5 r_api_Event v_4 (List.length v_4) gc_6, cvar gb_1 (rW (MPV go_3)) (), cmap go_3 (A r_api_Dot) (A r_api_Event) (some x_2)], []⟩ (.cons rfl (.cons rfl .nil)) rfl rfl <| jc (op_assign lb tR) <| jn <| JC.ret ?_
 obtain rfl := so hm
 exact JQ.pre (Imp.slot (s := 4) rfl wkHH) <| JQ.done (js := [0, 0, 0]) (ss := [.val (HDR go_5 0 (List.length v_4) gc_6)]) (go_5, gc_6) (.inl rfl) (.nil rfl) rfl (.cons (.tmp rfl) .nil) rfl rfl rfl

theorem sim_cast_Caster_Held_p_svvvoomm (k : Nat) (regions_1 : Int) (own_2 : Int) (v_3 : (Vector UInt64 16)) (x_5 : (List api_Event)) (x_8 : (List (Vector UInt64 16))) (x_11 : (List (api_Dot × api_Event))) (gb_4 : Nat) (go_6 : Option Nat) (gc_7 : Nat) (go_9 : Option Nat) (gc_10 : Nat) (go_12 : Option Nat) (r : (List api_Event)) (hm : cast_Caster_Held_p_svvvoomm k regions_1 own_2 v_3 x_5 x_8 x_11 = some r) : Sim Try.prog 16 [PTR gb_4 0] [zq21 gb_4 go_6 x_5 gc_7 go_9 x_8 gc_10 go_12 regions_1 own_2 v_3, cown go_6 r_api_Event x_5 (List.length x_5) gc_7, cown go_9 (rV 16 (rU UInt64)) x_8 0 gc_10, cmap go_12 (A r_api_Dot) (A r_api_Event) (some x_11)] (γ := Option Nat × Nat) (fun q => [cown q.1 r_api_Event r 0 q.2, zq21 gb_4 go_6 x_5 gc_7 go_9 x_8 gc_10 go_12 regions_1 own_2 v_3, cown go_6 r_api_Event x_5 (List.length x_5) gc_7, cown go_9 (rV 16 (rU UInt64)) x_8 0 gc_10, cmap go_12 (A r_api_Dot) (A r_api_Event) (some x_11)]) (fun q => .one (.val (HDR q.1 0 (List.length r) q.2))) := by
 unfold cast_Caster_Held_p_svvvoomm at hm
 refine Sim.of Try.func16 rfl rfl (lE rfl) (fun e0 w0 => ?_)
 refine JC.at ⟨[(0, ov (PTR gb_4 0))], [zq21 gb_4 go_6 x_5 gc_7 go_9 x_8 gc_10 go_12 regions_1 own_2 v_3, cown go_6 r_api_Event x_5 (List.length x_5) gc_7, cown go_9 (rV 16 (rU UInt64)) x_8 0 gc_10, cmap go_12 (A r_api_Dot) (A r_api_Event) (some x_11)], []⟩ <| jr <| jc (op_assign lb HasO.nilH) <| jn <| JC.seq <| jr <| jmv rfl rfl <| bI hm fun _ hv_u_13 hm => jx (op_call (js := [0, 0, 0, 0]) ld cl26 (sim_cast_Caster_there_p_svvvoomm k regions_1 own_2 v_3 x_5 x_8 x_11 gb_4 go_6 gc_7 go_9 gc_10 go_12 () hv_u_13) .func (.cons tR .nil) rfl) fun _ => jc (op_not lb tR rfl) <| jn <| JC.condF tR rfl <| JC.skip <| JQ.then <| jr <| jmv rfl rfl <| jc (op_nilCheck lb tR (fun e v h => by subst h; rfl)) <| jc (op_fieldAddr (off := 20) lb tf74_5 tR) ?_
 refine jc (op_loadW (j := 0) lb tS72 tR rfl (Comp.trans (Comp.self (zq19 go_6 x_5 gc_7 go_9 x_8 gc_10 go_12) (regions_1, (own_2, (v_3, ((), ((), ((), ()))))))) (Comp.at' (Comp.inS (Comp.inS (Comp.inS (Comp.inS (Comp.inS (Comp.inF (Comp.self (rW (MPV go_12)) ()) (lE rfl))))))) (by rfl : _ = 20)) (lE rfl))) <| bI hm fun _ hv_u_15 hm => jx (op_call (js := [3]) ld cl33 (sim_maps_Valuesmapapi_Dotapi_Event_api_Dot_api_Event k x_11 go_12 () hv_u_15) .func (.cons tR .nil) rfl) fun gb_14 => JL.sub ⟨[(11, ov (CLO 53 [PTR gb_14 0]))], [cvar gb_14 (rW (MPV go_12)) (), cmap go_12 (A r_api_Dot) (A r_api_Event) (some x_11), zq21 gb_4 go_6 x_5 gc_7 go_9 x_8 gc_10 go_12 regions_1 own_2 v_3, cown go_6 r_api_Event x_5 (List.length x_5) gc_7, cown go_9 (rV 16 (rU UInt64)) x_8 0 gc_10], []⟩ (.cons rfl .nil) rfl rfl <| bI hm fun v_16 hv_16 hm => jx (op_call (js := [0, 0]) ld cl32 (sim_slices_SortedFuncapi_Event'2 k x_11 gb_14 go_12 v_16 hv_16) .func (.cons tR (.cons .func .nil)) rfl) (fun q => ?_)
 obtain ⟨go_17, gc_18⟩ := q
 refine jc (op_assign lb tR) <| jn <| jr <| jmv rfl rfl <| bI hm fun v_19 hv_19 hm => JL.pre (Imp.frz (j := 0) rfl (ImpK.slotH (s := 3) rfl (ImpK.slotH (s := 12) rfl (ImpK.slotH (s := 13) rfl ImpK.refl)))) <| jx (op_call (js := []) ld cl31 (sim_cast_all k v_16 v_19 hv_19) .func (.cons (HasO.wk tR wkHL) .nil) rfl) (fun q => ?_)
 obtain ⟨go_20, gc_21⟩ := q
 refine JL.nrm ⟨[(14, ov (HDR go_20 0 (List.length v_19) gc_21))], [cown go_20 r_api_Event v_19 0 gc_21, cmap go_12 (A r_api_Dot) (A r_api_Event) (some x_11), zq21 gb_4 go_6 x_5 gc_7 go_9 x_8 gc_10 go_12 regions_1 own_2 v_3, cown go_6 r_api_Event x_5 (List.length x_5) gc_7, cown go_9 (rV 16 (rU UInt64)) x_8 0 gc_10], []⟩ [0, 2, 2, 2, 2] rfl (.cons rfl .nil) rfl <| jc (op_assign lb tR) <| jn <| JC.ret ?_
 obtain rfl := so hm
 exact JQ.done (js := [0, 1, 1, 1, 0]) (ss := [.val (HDR go_20 0 (List.length v_19) gc_21)]) (go_20, gc_21) (.inl rfl) (.nil rfl) rfl (.cons (.tmp rfl) .nil) rfl rfl rfl

theorem sim_cast_Caster_may_pv_svvvoomm (k : Nat) (e_1 : api_Event) (regions_2 : Int) (own_3 : Int) (v_4 : (Vector UInt64 16)) (x_6 : (List api_Event)) (x_9 : (List (Vector UInt64 16))) (x_12 : (List (api_Dot × api_Event))) (gb_5 : Nat) (go_7 : Option Nat) (gc_8 : Nat) (go_10 : Option Nat) (gc_11 : Nat) (go_13 : Option Nat) (r : Bool) (hm : cast_Caster_may_pv_svvvoomm k e_1 regions_2 own_3 v_4 x_6 x_9 x_12 = some r) : Sim Try.prog 27 [PTR gb_5 0, A r_api_Event e_1] [zq21 gb_5 go_7 x_6 gc_8 go_10 x_9 gc_11 go_13 regions_2 own_3 v_4, cown go_7 r_api_Event x_6 (List.length x_6) gc_8, cown go_10 (rV 16 (rU UInt64)) x_9 0 gc_11, cmap go_13 (A r_api_Dot) (A r_api_Event) (some x_12)] (γ := Unit) (fun q => [zq21 gb_5 go_7 x_6 gc_8 go_10 x_9 gc_11 go_13 regions_2 own_3 v_4, cown go_7 r_api_Event x_6 (List.length x_6) gc_8, cown go_10 (rV 16 (rU UInt64)) x_9 0 gc_11, cmap go_13 (A r_api_Dot) (A r_api_Event) (some x_12)]) (fun q => .one (.val (S rB r))) := by
 unfold cast_Caster_may_pv_svvvoomm at hm
 refine Sim.of Try.func27 rfl rfl (lE rfl) (fun e0 w0 => ?_)
 refine JC.at ⟨[(0, ov (PTR gb_5 0)), (1, ov (A r_api_Event e_1))], [zq21 gb_5 go_7 x_6 gc_8 go_10 x_9 gc_11 go_13 regions_2 own_3 v_4, cown go_7 r_api_Event x_6 (List.length x_6) gc_8, cown go_10 (rV 16 (rU UInt64)) x_9 0 gc_11, cmap go_13 (A r_api_Dot) (A r_api_Event) (some x_12)], []⟩ <| jr <| jx (op_boxA lb tR) fun gb_14 => jc (op_assign lb .cB) <| jn <| JC.seq <| bI hm fun x_24 hx1 hq1 => JC.seqJ (γ := Unit) (stj := fun _ => ⟨[(0, ov (PTR gb_5 0)), (3, ov (PTR gb_14 0)), (33, ov (S rB x_24))], [zq21 gb_5 go_7 x_6 gc_8 go_10 x_9 gc_11 go_13 regions_2 own_3 v_4, cown go_7 r_api_Event x_6 (List.length x_6) gc_8, cown go_10 (rV 16 (rU UInt64)) x_9 0 gc_11, cmap go_13 (A r_api_Dot) (A r_api_Event) (some x_12), cvar gb_14 r_api_Event e_1], []⟩) (fun _ => ?_) ?_
 · refine jif tR hq1 (fun hc18 hq1 => ?_) (fun hc18 hq1 => ?_)
   · refine jr <| jc (op_assign lb .cB) <| jn <| JC.ret <| JQ.outR ?_
     obtain rfl := so hq1
     exact JQ.done (js := [0, 0, 0, 0]) (ss := [.val (S rB false)]) () (.inl rfl) (.nil rfl) rfl (.cons (.tmp rfl) .nil) rfl rfl rfl
   refine JC.skip <| JQ.then <| bI hq1 fun tv19 hx19 hq19 => JC.seqK (α := Unit) (γ := Unit) (stj := fun v q => ⟨[], [zq21 gb_5 go_7 x_6 gc_8 go_10 x_9 gc_11 go_13 regions_2 own_3 v_4, cown go_7 r_api_Event x_6 (List.length x_6) gc_8, cown go_10 (rV 16 (rU UInt64)) x_9 0 gc_11, cmap go_13 (A r_api_Dot) (A r_api_Event) (some x_12)], []⟩) (p := fun v => tv19 = (.inl v)) (fun v q hv => ?_) ?_
   · subst hv
     skip
     obtain _ := q
     dsimp only at hq19
     refine JC.at ⟨[], [zq21 gb_5 go_7 x_6 gc_8 go_10 x_9 gc_11 go_13 regions_2 own_3 v_4, cown go_7 r_api_Event x_6 (List.length x_6) gc_8, cown go_10 (rV 16 (rU UInt64)) x_9 0 gc_11, cmap go_13 (A r_api_Dot) (A r_api_Event) (some x_12)], []⟩ <| jr <| jc (op_assign lb .cB) <| jn <| JC.ret ?_
     obtain rfl := so hq19
     exact JQ.done (js := [0, 0, 0, 0]) (ss := [.val (S rB true)]) () (.inl rfl) (.nil rfl) rfl (.cons (.tmp rfl) .nil) rfl rfl rfl
   refine jr <| jc (op_fieldAddr (off := 4) lb tf37_3 tR) <| jmv rfl rfl <| jc (op_nilCheck lb tR (fun e v h => by subst h; rfl)) <| jc (op_fieldAddr (off := 0) lb tf74_0 tR) <| jc (op_loadS (j := 0) lb tS3 tR rfl (Comp.trans (Comp.self (zq19 go_7 x_6 gc_8 go_10 x_9 gc_11 go_13) (regions_2, (own_3, (v_4, ((), ((), ((), ()))))))) (Comp.at' (Comp.inF (Comp.self (rI .i64) regions_2) (lE rfl)) (by rfl : _ = 0)) (lE rfl)) rfl rfl) <| bI hx19 fun v_25 hv_25 hx19 => JL.pre (Imp.frzVar (j := 4) rfl (ImpK.slotP (s := 3) rfl (Comp.self r_api_Event e_1) (ImpK.slotP (s := 34) rfl (cT (comp_api_Event_Past e_1) rfl) ImpK.refl))) <| jc (op_sliceP lb tu34 tz29 tR (.some tR) .none hv_25) <| jc (op_lenL lb tu95 tR) <| jc (op_move lb .cI) <| jn <| JC.block <| bI hx19 fun tv20 hL20 hq20 => JC.pre ?_ (JC.loop (γ := Unit) (stf := fun s q => ⟨[(39, ov (S (rL (rU UInt64)) v_25)), (40, ov (S (rI .i64) (List.length v_25 : Int))), (41, ov (S (rI .i64) s))], [zq21 gb_5 go_7 x_6 gc_8 go_10 x_9 gc_11 go_13 regions_2 own_3 v_4, cown go_7 r_api_Event x_6 (List.length x_6) gc_8, cown go_10 (rV 16 (rU UInt64)) x_9 0 gc_11, cmap go_13 (A r_api_Dot) (A r_api_Event) (some x_12)], []⟩) (q := ()) hL20 ?_)
   · exact (Imp.norm (js := [0, 0, 0, 0]) rfl (.cons rfl (.cons rfl (.cons rfl .nil))))
   intro x_26 q x hx hr
   obtain _ := q
   change cast_Caster_may_pv_svvvoomm.b1 k v_25 x_26 = some x at hx
   unfold cast_Caster_may_pv_svvvoomm.b1 at hx
   refine JC.at ⟨[(39, ov (S (rL (rU UInt64)) v_25)), (40, ov (S (rI .i64) (List.length v_25 : Int))), (41, ov (S (rI .i64) x_26))], [zq21 gb_5 go_7 x_6 gc_8 go_10 x_9 gc_11 go_13 regions_2 own_3 v_4, cown go_7 r_api_Event x_6 (List.length x_6) gc_8, cown go_10 (rV 16 (rU UInt64)) x_9 0 gc_11, cmap go_13 (A r_api_Dot) (A r_api_Event) (some x_12)], []⟩ <| jr <| lI hx fun v_27 hv_27 hx => jc (op_cmpI lb tR tR (cs hv_27)) <| jn <| JC.seq <| jif tR hx (fun hc21 hx => ?_) (fun hc21 hx => ?_)
   · refine JC.skip <| JQ.then <| JC.seq <| JC.block <| jr <| bI hx fun v_28 hv_28 hx => jc (op_indexAddrLg lb tu95 tz29 tR tR hv_28) <| jc (op_loadPSg lb tS29 rfl tR rfl) <| jc (op_assign lb tR) <| jn <| jr <| jmv rfl rfl <| lI hx fun v_29 hv_29 hx => jc (op_cmpU lb tR (HasO.cU (x := (0 : UInt64)) rfl (by decide)) (cs hv_29)) <| jn <| jif tR hx (fun hc22 hx => ?_) (fun hc22 hx => ?_)
     · refine jr <| jc (op_assign lb .cB) <| jn <| JC.ret <| JQ.outRB <| JQ.outR ?_
       try obtain rfl := so hx
       try obtain rfl := hr _ rfl
       dsimp only at hq20
       refine JQ.outR <| JQ.outRB ?_
       try obtain rfl := so hq20
       dsimp only at hq19
       refine JQ.outR ?_
       obtain rfl := so hq19
       exact JQ.done (js := [0, 0, 0, 0]) (ss := [.val (S rB false)]) () (.inl rfl) (.nil rfl) rfl (.cons (.tmp rfl) .nil) rfl rfl rfl
     refine JC.skip <| JQ.outNB <| JQ.then <| JC.region <| lI hx fun v_30 hv_30 hx => jc (op_arI lb tR .cI (cs hv_30)) <| jmv rfl rfl <| JL.nil ?_
     try obtain rfl := so hx
     exact JQ.next () rfl (Imp.norm (js := [0, 0, 0, 0]) rfl (.cons rfl (.cons rfl (.cons rfl .nil))))
   refine JC.exit <| JQ.outX ?_
   try obtain rfl := so hx
   try obtain rfl := hr _ rfl
   dsimp only at hq20
   refine JQ.outX <| JQ.here ?_
   try obtain rfl := so hq20
   exact JQ.joinK () () rfl (Imp.norm (js := [0, 0, 0, 0]) rfl .nil)
 refine bI hx1 fun v_15 hv_15 hx1 => lI hx1 fun v_16 hv_16 hx1 => lI hx1 fun v_17 hv_17 hx1 => lI hx1 fun v_18 hv_18 hx1 => ?_
 obtain ⟨v_19, hv_19, hx1⟩ := lt1_inv hx1
 rcases iteB_inv hx1 with ⟨hc17, hx1⟩ | ⟨hc17, hx1⟩
 · refine JC.anyF (base := [(0, ov (PTR gb_5 0)), (3, ov (PTR gb_14 0))])
       (fs := fun γ => [⟨some 7, ov (A r_api_Event e_1)⟩, ⟨some 8, ov (S rB v_15)⟩, ⟨some 9, ov (S rB v_16)⟩, ⟨some 10, ov (S rB v_16)⟩, ⟨some 11, bif (!v_16) then ov (PTR gb_14 (0 + 0)) else .one .und⟩, ⟨some 12, bif (!v_16) then ov (PTR gb_14 ((0 + 0) + 0)) else .one .und⟩, ⟨some 13, bif (!v_16) then ov (S (rI .i64) e_1.ID.Region) else .one .und⟩, ⟨some 14, bif (!v_16) then ov (PTR gb_5 0) else .one .und⟩, ⟨some 15, bif (!v_16) then ov (PTR gb_5 0) else .one .und⟩, ⟨some 16, bif (!v_16) then ov (PTR gb_5 (0 + 0)) else .one .und⟩, ⟨some 17, bif (!v_16) then ov (S (rI .i64) regions_2) else .one .und⟩, ⟨some 18, bif (!v_16) then ov (S rB v_17) else .one .und⟩, ⟨some 19, ov (S rB v_18)⟩, ⟨some 20, ov (S rB v_18)⟩, ⟨some 21, bif (!v_18) then ov (PTR gb_14 (0 + 0)) else .one .und⟩, ⟨some 22, bif (!v_18) then ov (PTR gb_14 ((0 + 0) + 0)) else .one .und⟩, ⟨some 23, bif (!v_18) then ov (S (rI .i64) e_1.ID.Region) else .one .und⟩, ⟨some 24, bif (!v_18) then ov (S (rI .i64) v_19) else .one .und⟩, ⟨some 25, bif (!v_18) then ov (PTR gb_14 (0 + 4)) else .one .und⟩, ⟨some 26, .one .und⟩, ⟨some 27, .one .und⟩, ⟨some 28, .one .und⟩, ⟨some 29, .one .und⟩, ⟨some 30, .one .und⟩, ⟨some 31, .one .und⟩, ⟨some 32, .one .und⟩, ⟨some 33, ov (S rB true)⟩])
       (rs := fun γ => [⟨zq21 gb_5 go_7 x_6 gc_8 go_10 x_9 gc_11 go_13 regions_2 own_3 v_4, none, none, [10]⟩, ⟨cown go_7 r_api_Event x_6 (List.length x_6) gc_8, none, none, []⟩, ⟨cown go_10 (rV 16 (rU UInt64)) x_9 0 gc_11, none, none, []⟩, ⟨cmap go_13 (A r_api_Dot) (A r_api_Event) (some x_12), none, none, []⟩, ⟨cvar gb_14 r_api_Event e_1, none, none, [0, 6, 16]⟩])
       (afts := nn 27) (js := [0, 0, 0, 0, 0]) mixed (.cons rfl (.cons rfl .nil)) (fun _ => rfl)
       (by
      refine dR 1 (fun γ ρ B hb hd => OpStep.lk ⟨ρ, (cvar gb_14 r_api_Event e_1) :: B, _⟩ (op_loadA (j := 0) lb tA37 (.tmp (hb 3 _ rfl)) rfl (Comp.self r_api_Event e_1) rfl)) <| dS 2 (fun γ ρ B hb hd => (op_call (js := []) ld cl47 (sim_event_May k e_1 v_15 hv_15) .func (.cons (tl hd 0 7) .nil) rfl).post (fun _ => Imp.refl)) <| dS 3 (fun γ ρ B hb hd => op_not lb (tl hd 1 8) hv_16) <| dm 4 2 9 ?_
      refine dF 5 3 10 v_16 (fun γ => ov (PTR gb_14 (0 + 0))) (fun γ ρ B hb hd hq_2 => op_fieldAddr (off := 0) lb tf37_0 (.tmp (hb 3 _ rfl))) ?_
      refine dF 6 3 10 v_16 (fun γ => ov (PTR gb_14 ((0 + 0) + 0))) (fun γ ρ B hb hd hq_3 => op_fieldAddr (off := 0) lb tf31_0 (HasO.cnd (tl hd 4 11) (notT (notF hq_3)))) ?_
      refine eF 7 3 10 v_16 (fun γ => ov (S (rI .i64) e_1.ID.Region)) (fun γ ρ B hb hd hq_4 => OpStep.lk ⟨ρ, (cvar gb_14 r_api_Event e_1) :: B, _⟩ (op_loadS (j := 0) lb tS3 (HasO.cnd (tl hd 5 12) (notT (notF hq_4))) rfl (Comp.trans (cT (comp_api_Event_ID e_1) rfl) (comp_api_Dot_Region e_1.ID) (lE rfl)) rfl rfl)) ?_
      refine dF 8 3 10 v_16 (fun γ => ov (PTR gb_5 0)) (fun γ ρ B hb hd hq_5 => op_move lb (.tmp (hb 0 _ rfl))) ?_
      refine dF 9 3 10 v_16 (fun γ => ov (PTR gb_5 0)) (fun γ ρ B hb hd hq_6 => op_nilCheck lb (HasO.cnd (tl hd 7 14) (notT (notF hq_6))) (fun e v h => by subst h; rfl)) ?_
      refine dF 10 3 10 v_16 (fun γ => ov (PTR gb_5 (0 + 0))) (fun γ ρ B hb hd hq_7 => op_fieldAddr (off := 0) lb tf74_0 (HasO.cnd (tl hd 8 15) (notT (notF hq_7)))) ?_
      refine eF 11 3 10 v_16 (fun γ => ov (S (rI .i64) regions_2)) (fun γ ρ B hb hd hq_8 => OpStep.lk ⟨ρ, (zq21 gb_5 go_7 x_6 gc_8 go_10 x_9 gc_11 go_13 regions_2 own_3 v_4) :: B, _⟩ (op_loadS (j := 0) lb tS3 (HasO.cnd (tl hd 9 16) (notT (notF hq_8))) rfl (Comp.trans (Comp.self (zq19 go_7 x_6 gc_8 go_10 x_9 gc_11 go_13) (regions_2, (own_3, (v_4, ((), ((), ((), ()))))))) (Comp.at' (Comp.inF (Comp.self (rI .i64) regions_2) (lE rfl)) (by rfl : _ = 0)) (lE rfl)) rfl rfl)) ?_
      refine dF 12 3 10 v_16 (fun γ => ov (S rB v_17)) (fun γ ρ B hb hd hq_9 => op_cmpI lb (HasO.cnd (tl hd 6 13) (notT (notF hq_9))) (HasO.cnd (tl hd 10 17) (notT (notF hq_9))) (cs hv_17)) ?_
      refine dS 13 (fun γ ρ B hb hd => op_pickCS lb (tl hd 3 10) (fun hb10 => .cB) (fun hb10 => (HasO.cnd (tl hd 11 18) (notT hb10))) hv_18) <| dm 14 12 19 ?_
      refine dF 15 13 20 v_18 (fun γ => ov (PTR gb_14 (0 + 0))) (fun γ ρ B hb hd hq_11 => op_fieldAddr (off := 0) lb tf37_0 (.tmp (hb 3 _ rfl))) ?_
      refine dF 16 13 20 v_18 (fun γ => ov (PTR gb_14 ((0 + 0) + 0))) (fun γ ρ B hb hd hq_12 => op_fieldAddr (off := 0) lb tf31_0 (HasO.cnd (tl hd 14 21) (notT (notF hq_12)))) ?_
      refine eF 17 13 20 v_18 (fun γ => ov (S (rI .i64) e_1.ID.Region)) (fun γ ρ B hb hd hq_13 => OpStep.lk ⟨ρ, (cvar gb_14 r_api_Event e_1) :: B, _⟩ (op_loadS (j := 0) lb tS3 (HasO.cnd (tl hd 15 22) (notT (notF hq_13))) rfl (Comp.trans (cT (comp_api_Event_ID e_1) rfl) (comp_api_Dot_Region e_1.ID) (lE rfl)) rfl rfl)) ?_
      refine dF 18 13 20 v_18 (fun γ => ov (S (rI .i64) v_19)) (fun γ ρ B hb hd hq_14 => op_arI lb (HasO.cnd (tl hd 16 23) (notT (notF hq_14))) .cI (cs hv_19)) ?_
      refine dF 19 13 20 v_18 (fun γ => ov (PTR gb_14 (0 + 4))) (fun γ ρ B hb hd hq_15 => op_fieldAddr (off := 4) lb tf37_3 (.tmp (hb 3 _ rfl))) ?_
      refine kn 20 13 20 rfl hc17 <| kn 21 13 20 rfl hc17 <| kn 22 13 20 rfl hc17 <| kn 23 13 20 rfl hc17 <| kn 24 13 20 rfl hc17 ?_
      refine kn 25 13 20 rfl hc17 <| kn 26 13 20 rfl hc17 <| dS 27 (fun γ ρ B hb hd => op_pickT lb (tl hd 13 20) hc17 .cB) ?_
      exact DSteps.nil)
       (by decide +kernel) (fun _ => rfl) (fun _ => rfl) (fun _ => rfl) rfl
       (ρ' := fun γ => [(0, ov (PTR gb_5 0)), (3, ov (PTR gb_14 0)), (33, ov (S rB true))])
       (X' := fun γ => [zq21 gb_5 go_7 x_6 gc_8 go_10 x_9 gc_11 go_13 regions_2 own_3 v_4, cown go_7 r_api_Event x_6 (List.length x_6) gc_8, cown go_10 (rV 16 (rU UInt64)) x_9 0 gc_11, cmap go_13 (A r_api_Dot) (A r_api_Event) (some x_12), cvar gb_14 r_api_Event e_1])
       (fun γ ρ hb hd => (.cons (hb 0 _ rfl) (.cons (hb 3 _ rfl) (.cons (hdq hd 26 33 rfl) .nil)))) (fun _ => rfl) (fun γ => ?_)
   refine JQ.at ⟨[(0, ov (PTR gb_5 0)), (3, ov (PTR gb_14 0)), (33, ov (S rB true))], [zq21 gb_5 go_7 x_6 gc_8 go_10 x_9 gc_11 go_13 regions_2 own_3 v_4, cown go_7 r_api_Event x_6 (List.length x_6) gc_8, cown go_10 (rV 16 (rU UInt64)) x_9 0 gc_11, cmap go_13 (A r_api_Dot) (A r_api_Event) (some x_12), cvar gb_14 r_api_Event e_1], []⟩ ?_
   try obtain rfl := so hx1
   refine JQ.pre (Imp.var (j := 0) (q := (zq19 go_7 x_6 gc_8 go_10 x_9 gc_11 go_13)) (y := (regions_2, (own_3, (v_4, ((), ((), ((), ()))))))) rfl Wk.refl) ?_
   exact JQ.join () (Imp.norm (js := [0, 0, 0, 0, 0]) rfl (.cons rfl (.cons rfl (.cons rfl .nil))))
 refine bI hx1 fun i_20 hv_i_20 hx1 => lI hx1 fun v_21 hv_21 hx1 => lI hx1 fun v_22 hv_22 hx1 => ?_
 obtain ⟨v_23, hv_23, hx1⟩ := lt1_inv hx1
 refine JC.anyF (base := [(0, ov (PTR gb_5 0)), (3, ov (PTR gb_14 0))])
     (fs := fun γ => [⟨some 7, ov (A r_api_Event e_1)⟩, ⟨some 8, ov (S rB v_15)⟩, ⟨some 9, ov (S rB v_16)⟩, ⟨some 10, ov (S rB v_16)⟩, ⟨some 11, bif (!v_16) then ov (PTR gb_14 (0 + 0)) else .one .und⟩, ⟨some 12, bif (!v_16) then ov (PTR gb_14 ((0 + 0) + 0)) else .one .und⟩, ⟨some 13, bif (!v_16) then ov (S (rI .i64) e_1.ID.Region) else .one .und⟩, ⟨some 14, bif (!v_16) then ov (PTR gb_5 0) else .one .und⟩, ⟨some 15, bif (!v_16) then ov (PTR gb_5 0) else .one .und⟩, ⟨some 16, bif (!v_16) then ov (PTR gb_5 (0 + 0)) else .one .und⟩, ⟨some 17, bif (!v_16) then ov (S (rI .i64) regions_2) else .one .und⟩, ⟨some 18, bif (!v_16) then ov (S rB v_17) else .one .und⟩, ⟨some 19, ov (S rB v_18)⟩, ⟨some 20, ov (S rB v_18)⟩, ⟨some 21, bif (!v_18) then ov (PTR gb_14 (0 + 0)) else .one .und⟩, ⟨some 22, bif (!v_18) then ov (PTR gb_14 ((0 + 0) + 0)) else .one .und⟩, ⟨some 23, bif (!v_18) then ov (S (rI .i64) e_1.ID.Region) else .one .und⟩, ⟨some 24, bif (!v_18) then ov (S (rI .i64) v_19) else .one .und⟩, ⟨some 25, bif (!v_18) then ov (PTR gb_14 (0 + 4)) else .one .und⟩, ⟨some 26, ov (PTR gb_14 ((0 + 4) + i_20.1 * 1))⟩, ⟨some 27, ov (S (rU UInt64) v_21)⟩, ⟨some 28, ov (PTR gb_14 (0 + 0))⟩, ⟨some 29, ov (PTR gb_14 ((0 + 0) + 1))⟩, ⟨some 30, ov (S (rU UInt64) e_1.ID.Count)⟩, ⟨some 31, ov (S (rU UInt64) v_22)⟩, ⟨some 32, ov (S rB v_23)⟩, ⟨some 33, ov (S rB v_23)⟩])
     (rs := fun γ => [⟨zq21 gb_5 go_7 x_6 gc_8 go_10 x_9 gc_11 go_13 regions_2 own_3 v_4, none, none, [10]⟩, ⟨cown go_7 r_api_Event x_6 (List.length x_6) gc_8, none, none, []⟩, ⟨cown go_10 (rV 16 (rU UInt64)) x_9 0 gc_11, none, none, []⟩, ⟨cmap go_13 (A r_api_Dot) (A r_api_Event) (some x_12), none, none, []⟩, ⟨cvar gb_14 r_api_Event e_1, none, none, [0, 6, 16, 20, 23]⟩])
     (afts := nn 27) (js := [0, 0, 0, 0, 0]) mixed (.cons rfl (.cons rfl .nil)) (fun _ => rfl)
     (by
      refine dR 1 (fun γ ρ B hb hd => OpStep.lk ⟨ρ, (cvar gb_14 r_api_Event e_1) :: B, _⟩ (op_loadA (j := 0) lb tA37 (.tmp (hb 3 _ rfl)) rfl (Comp.self r_api_Event e_1) rfl)) <| dS 2 (fun γ ρ B hb hd => (op_call (js := []) ld cl47 (sim_event_May k e_1 v_15 hv_15) .func (.cons (tl hd 0 7) .nil) rfl).post (fun _ => Imp.refl)) <| dS 3 (fun γ ρ B hb hd => op_not lb (tl hd 1 8) hv_16) <| dm 4 2 9 ?_
      refine dF 5 3 10 v_16 (fun γ => ov (PTR gb_14 (0 + 0))) (fun γ ρ B hb hd hq_2 => op_fieldAddr (off := 0) lb tf37_0 (.tmp (hb 3 _ rfl))) ?_
      refine dF 6 3 10 v_16 (fun γ => ov (PTR gb_14 ((0 + 0) + 0))) (fun γ ρ B hb hd hq_3 => op_fieldAddr (off := 0) lb tf31_0 (HasO.cnd (tl hd 4 11) (notT (notF hq_3)))) ?_
      refine eF 7 3 10 v_16 (fun γ => ov (S (rI .i64) e_1.ID.Region)) (fun γ ρ B hb hd hq_4 => OpStep.lk ⟨ρ, (cvar gb_14 r_api_Event e_1) :: B, _⟩ (op_loadS (j := 0) lb tS3 (HasO.cnd (tl hd 5 12) (notT (notF hq_4))) rfl (Comp.trans (cT (comp_api_Event_ID e_1) rfl) (comp_api_Dot_Region e_1.ID) (lE rfl)) rfl rfl)) ?_
      refine dF 8 3 10 v_16 (fun γ => ov (PTR gb_5 0)) (fun γ ρ B hb hd hq_5 => op_move lb (.tmp (hb 0 _ rfl))) ?_
      refine dF 9 3 10 v_16 (fun γ => ov (PTR gb_5 0)) (fun γ ρ B hb hd hq_6 => op_nilCheck lb (HasO.cnd (tl hd 7 14) (notT (notF hq_6))) (fun e v h => by subst h; rfl)) ?_
      refine dF 10 3 10 v_16 (fun γ => ov (PTR gb_5 (0 + 0))) (fun γ ρ B hb hd hq_7 => op_fieldAddr (off := 0) lb tf74_0 (HasO.cnd (tl hd 8 15) (notT (notF hq_7)))) ?_
      refine eF 11 3 10 v_16 (fun γ => ov (S (rI .i64) regions_2)) (fun γ ρ B hb hd hq_8 => OpStep.lk ⟨ρ, (zq21 gb_5 go_7 x_6 gc_8 go_10 x_9 gc_11 go_13 regions_2 own_3 v_4) :: B, _⟩ (op_loadS (j := 0) lb tS3 (HasO.cnd (tl hd 9 16) (notT (notF hq_8))) rfl (Comp.trans (Comp.self (zq19 go_7 x_6 gc_8 go_10 x_9 gc_11 go_13) (regions_2, (own_3, (v_4, ((), ((), ((), ()))))))) (Comp.at' (Comp.inF (Comp.self (rI .i64) regions_2) (lE rfl)) (by rfl : _ = 0)) (lE rfl)) rfl rfl)) ?_
      refine dF 12 3 10 v_16 (fun γ => ov (S rB v_17)) (fun γ ρ B hb hd hq_9 => op_cmpI lb (HasO.cnd (tl hd 6 13) (notT (notF hq_9))) (HasO.cnd (tl hd 10 17) (notT (notF hq_9))) (cs hv_17)) ?_
      refine dS 13 (fun γ ρ B hb hd => op_pickCS lb (tl hd 3 10) (fun hb10 => .cB) (fun hb10 => (HasO.cnd (tl hd 11 18) (notT hb10))) hv_18) <| dm 14 12 19 ?_
      refine dF 15 13 20 v_18 (fun γ => ov (PTR gb_14 (0 + 0))) (fun γ ρ B hb hd hq_11 => op_fieldAddr (off := 0) lb tf37_0 (.tmp (hb 3 _ rfl))) ?_
      refine dF 16 13 20 v_18 (fun γ => ov (PTR gb_14 ((0 + 0) + 0))) (fun γ ρ B hb hd hq_12 => op_fieldAddr (off := 0) lb tf31_0 (HasO.cnd (tl hd 14 21) (notT (notF hq_12)))) ?_
      refine eF 17 13 20 v_18 (fun γ => ov (S (rI .i64) e_1.ID.Region)) (fun γ ρ B hb hd hq_13 => OpStep.lk ⟨ρ, (cvar gb_14 r_api_Event e_1) :: B, _⟩ (op_loadS (j := 0) lb tS3 (HasO.cnd (tl hd 15 22) (notT (notF hq_13))) rfl (Comp.trans (cT (comp_api_Event_ID e_1) rfl) (comp_api_Dot_Region e_1.ID) (lE rfl)) rfl rfl)) ?_
      refine dF 18 13 20 v_18 (fun γ => ov (S (rI .i64) v_19)) (fun γ ρ B hb hd hq_14 => op_arI lb (HasO.cnd (tl hd 16 23) (notT (notF hq_14))) .cI (cs hv_19)) ?_
      refine dF 19 13 20 v_18 (fun γ => ov (PTR gb_14 (0 + 4))) (fun γ ρ B hb hd hq_15 => op_fieldAddr (off := 4) lb tf37_3 (.tmp (hb 3 _ rfl))) ?_
      refine dY 20 (fun γ ρ B hb hd => ⟨.yes rfl (ltB rfl) (hl hd 13 20 rfl) hc17, lkB (op_indexAddrIF lb tr34 (HasO.cnd (tl hd 18 25) (notT hc17)) (HasO.cnd (tl hd 17 24) (notT hc17)) hv_i_20)⟩) <| dY 21 (fun γ ρ B hb hd => ⟨.yes rfl (ltB rfl) (hl hd 13 20 rfl) hc17, OpStep.lk ⟨ρ, (cvar gb_14 r_api_Event e_1) :: B, _⟩ (op_loadS (j := 0) lb tS29 (tl hd 19 26) rfl (Comp.at (cT (comp_api_Event_Past e_1) rfl) i_20.2 rfl) rfl hv_21)⟩) <| dY 22 (fun γ ρ B hb hd => ⟨.yes rfl (ltB rfl) (hl hd 13 20 rfl) hc17, lkB (op_fieldAddr (off := 0) lb tf37_0 (.tmp (hb 3 _ rfl)))⟩) <| dY 23 (fun γ ρ B hb hd => ⟨.yes rfl (ltB rfl) (hl hd 13 20 rfl) hc17, lkB (op_fieldAddr (off := 1) lb tf31_1 (tl hd 21 28))⟩) <| dY 24 (fun γ ρ B hb hd => ⟨.yes rfl (ltB rfl) (hl hd 13 20 rfl) hc17, OpStep.lk ⟨ρ, (cvar gb_14 r_api_Event e_1) :: B, _⟩ (op_loadS (j := 0) lb tS29 (tl hd 22 29) rfl (Comp.trans (cT (comp_api_Event_ID e_1) rfl) (comp_api_Dot_Count e_1.ID) (lE rfl)) rfl rfl)⟩) ?_
      refine dY 25 (fun γ ρ B hb hd => ⟨.yes rfl (ltB rfl) (hl hd 13 20 rfl) hc17, lkB (op_arU lb (tl hd 23 30) (HasO.cU (x := (1 : UInt64)) rfl (by decide)) (cs hv_22))⟩) <| dY 26 (fun γ ρ B hb hd => ⟨.yes rfl (ltB rfl) (hl hd 13 20 rfl) hc17, lkB (op_cmpU lb (tl hd 20 27) (tl hd 24 31) (cs hv_23))⟩) <| dS 27 (fun γ ρ B hb hd => op_pickF lb (tl hd 13 20) hc17 (tl hd 25 32)) ?_
      exact DSteps.nil)
     (by decide +kernel) (fun _ => rfl) (fun _ => rfl) (fun _ => rfl) rfl
     (ρ' := fun γ => [(0, ov (PTR gb_5 0)), (3, ov (PTR gb_14 0)), (33, ov (S rB v_23))])
     (X' := fun γ => [zq21 gb_5 go_7 x_6 gc_8 go_10 x_9 gc_11 go_13 regions_2 own_3 v_4, cown go_7 r_api_Event x_6 (List.length x_6) gc_8, cown go_10 (rV 16 (rU UInt64)) x_9 0 gc_11, cmap go_13 (A r_api_Dot) (A r_api_Event) (some x_12), cvar gb_14 r_api_Event e_1])
     (fun γ ρ hb hd => (.cons (hb 0 _ rfl) (.cons (hb 3 _ rfl) (.cons (hdq hd 26 33 rfl) .nil)))) (fun _ => rfl) (fun γ => ?_)
 refine JQ.at ⟨[(0, ov (PTR gb_5 0)), (3, ov (PTR gb_14 0)), (33, ov (S rB v_23))], [zq21 gb_5 go_7 x_6 gc_8 go_10 x_9 gc_11 go_13 regions_2 own_3 v_4, cown go_7 r_api_Event x_6 (List.length x_6) gc_8, cown go_10 (rV 16 (rU UInt64)) x_9 0 gc_11, cmap go_13 (A r_api_Dot) (A r_api_Event) (some x_12), cvar gb_14 r_api_Event e_1], []⟩ ?_
 try obtain rfl := so hx1
 refine JQ.pre (Imp.var (j := 0) (q := (zq19 go_7 x_6 gc_8 go_10 x_9 gc_11 go_13)) (y := (regions_2, (own_3, (v_4, ((), ((), ((), ()))))))) rfl Wk.refl) ?_
 exact JQ.join () (Imp.norm (js := [0, 0, 0, 0, 0]) rfl (.cons rfl (.cons rfl (.cons rfl .nil))))

theorem sim_cast_Caster_can_pv_svvvoomm'2 (k : Nat) (e_1 : api_Event) (regions_2 : Int) (own_3 : Int) (v_4 : (Vector UInt64 16)) (x_6 : (List api_Event)) (x_9 : (List (Vector UInt64 16))) (x_12 : (List (api_Dot × api_Event))) (gb_5 : Nat) (go_7 : Option Nat) (gc_8 : Nat) (go_10 : Option Nat) (gc_11 : Nat) (go_13 : Option Nat) (r : Bool) (hm : cast_Caster_can_pv_svvvoomm'2 k e_1 regions_2 own_3 v_4 x_6 x_9 x_12 = some r) : Sim Try.prog 30 [PTR gb_5 0, A r_api_Event e_1] [zq21 gb_5 go_7 x_6 gc_8 go_10 x_9 gc_11 go_13 regions_2 own_3 v_4, cown go_7 r_api_Event x_6 (List.length x_6) gc_8, cown go_10 (rV 16 (rU UInt64)) x_9 0 gc_11, cmap go_13 (A r_api_Dot) (A r_api_Event) (some x_12)] (γ := Unit) (fun q => [zq21 gb_5 go_7 x_6 gc_8 go_10 x_9 gc_11 go_13 regions_2 own_3 v_4, cown go_7 r_api_Event x_6 (List.length x_6) gc_8, cown go_10 (rV 16 (rU UInt64)) x_9 0 gc_11, cmap go_13 (A r_api_Dot) (A r_api_Event) (some x_12)]) (fun q => .one (.val (S rB r))) := by
 unfold cast_Caster_can_pv_svvvoomm'2 at hm
 refine Sim.of Try.func30 rfl rfl (lE rfl) (fun e0 w0 => ?_)
 refine JC.at ⟨[(0, ov (PTR gb_5 0)), (1, ov (A r_api_Event e_1))], [zq21 gb_5 go_7 x_6 gc_8 go_10 x_9 gc_11 go_13 regions_2 own_3 v_4, cown go_7 r_api_Event x_6 (List.length x_6) gc_8, cown go_10 (rV 16 (rU UInt64)) x_9 0 gc_11, cmap go_13 (A r_api_Dot) (A r_api_Event) (some x_12)], []⟩ <| jr <| jx (op_boxA lb tR) fun gb_14 => jc (op_assign lb .cB) <| jn <| JC.seq <| JC.seq <| lI hm fun v_15 hv_15 hm => bI hm fun i_16 hv_i_16 hm => lI hm fun v_17 hv_17 hm => lI hm fun v_18 hv_18 hm => ?_
 obtain ⟨v_19, hv_19, hm⟩ := lt1_inv hm
 refine JC.anyF (base := [(0, ov (PTR gb_5 0)), (3, ov (PTR gb_14 0))])
     (fs := fun γ => [⟨some 7, ov (PTR gb_14 (0 + 0))⟩, ⟨some 8, ov (PTR gb_14 ((0 + 0) + 1))⟩, ⟨some 9, ov (S (rU UInt64) e_1.ID.Count)⟩, ⟨some 10, ov (PTR gb_5 0)⟩, ⟨some 11, ov (PTR gb_14 (0 + 0))⟩, ⟨some 12, ov (PTR gb_14 ((0 + 0) + 0))⟩, ⟨some 13, ov (S (rI .i64) e_1.ID.Region)⟩, ⟨some 14, ov (S (rI .i64) v_15)⟩, ⟨some 15, ov (PTR gb_5 0)⟩, ⟨some 16, ov (PTR gb_5 (0 + 2))⟩, ⟨some 17, ov (PTR gb_5 ((0 + 2) + i_16.1 * 1))⟩, ⟨some 18, ov (S (rU UInt64) v_17)⟩, ⟨some 19, ov (S (rU UInt64) v_18)⟩, ⟨some 20, ov (S rB v_19)⟩])
     (rs := fun γ => [⟨zq21 gb_5 go_7 x_6 gc_8 go_10 x_9 gc_11 go_13 regions_2 own_3 v_4, none, none, [11]⟩, ⟨cown go_7 r_api_Event x_6 (List.length x_6) gc_8, none, none, []⟩, ⟨cown go_10 (rV 16 (rU UInt64)) x_9 0 gc_11, none, none, []⟩, ⟨cmap go_13 (A r_api_Dot) (A r_api_Event) (some x_12), none, none, []⟩, ⟨cvar gb_14 r_api_Event e_1, none, none, [2, 6]⟩])
     (afts := nn 14) (js := [0, 0, 0, 0, 0]) mixed (.cons rfl (.cons rfl .nil)) (fun _ => rfl)
     (by
      refine dS 1 (fun γ ρ B hb hd => op_fieldAddr (off := 0) lb tf37_0 (.tmp (hb 3 _ rfl))) <| dS 2 (fun γ ρ B hb hd => op_fieldAddr (off := 1) lb tf31_1 (tl hd 0 7)) <| dR 3 (fun γ ρ B hb hd => OpStep.lk ⟨ρ, (cvar gb_14 r_api_Event e_1) :: B, _⟩ (op_loadS (j := 0) lb tS29 (tl hd 1 8) rfl (Comp.trans (cT (comp_api_Event_ID e_1) rfl) (comp_api_Dot_Count e_1.ID) (lE rfl)) rfl rfl)) <| db 4 0 <| dS 5 (fun γ ρ B hb hd => op_fieldAddr (off := 0) lb tf37_0 (.tmp (hb 3 _ rfl))) ?_
      refine dS 6 (fun γ ρ B hb hd => op_fieldAddr (off := 0) lb tf31_0 (tl hd 4 11)) <| dR 7 (fun γ ρ B hb hd => OpStep.lk ⟨ρ, (cvar gb_14 r_api_Event e_1) :: B, _⟩ (op_loadS (j := 0) lb tS3 (tl hd 5 12) rfl (Comp.trans (cT (comp_api_Event_ID e_1) rfl) (comp_api_Dot_Region e_1.ID) (lE rfl)) rfl rfl)) <| dS 8 (fun γ ρ B hb hd => op_arI lb (tl hd 6 13) .cI (cs hv_15)) <| dS 9 (fun γ ρ B hb hd => op_nilCheck lb (tl hd 3 10) (fun e v h => by subst h; rfl)) <| dS 10 (fun γ ρ B hb hd => op_fieldAddr (off := 2) lb tf74_2 (tl hd 8 15)) ?_
      refine dS 11 (fun γ ρ B hb hd => op_indexAddrIF lb tr34 (tl hd 9 16) (tl hd 7 14) hv_i_16) <| dR 12 (fun γ ρ B hb hd => OpStep.lk ⟨ρ, (zq21 gb_5 go_7 x_6 gc_8 go_10 x_9 gc_11 go_13 regions_2 own_3 v_4) :: B, _⟩ (op_loadS (j := 0) lb tS29 (tl hd 10 17) rfl (Comp.at (Comp.trans (Comp.self (zq19 go_7 x_6 gc_8 go_10 x_9 gc_11 go_13) (regions_2, (own_3, (v_4, ((), ((), ((), ()))))))) (Comp.at' (Comp.inS (Comp.inS (Comp.inF (Comp.self (rV 16 (rU UInt64)) v_4) (lE rfl)))) (by rfl : _ = 2)) (lE rfl)) i_16.2 rfl) rfl hv_17)) <| dS 13 (fun γ ρ B hb hd => op_arU lb (tl hd 11 18) (HasO.cU (x := (1 : UInt64)) rfl (by decide)) (cs hv_18)) <| dS 14 (fun γ ρ B hb hd => op_cmpU lb (tl hd 2 9) (tl hd 12 19) (cs hv_19)) ?_
      exact DSteps.nil)
     (by decide +kernel) (fun _ => rfl) (fun _ => rfl) (fun _ => rfl) rfl
     (ρ' := fun γ => [(0, ov (PTR gb_5 0)), (3, ov (PTR gb_14 0)), (20, ov (S rB v_19))])
     (X' := fun γ => [zq21 gb_5 go_7 x_6 gc_8 go_10 x_9 gc_11 go_13 regions_2 own_3 v_4, cown go_7 r_api_Event x_6 (List.length x_6) gc_8, cown go_10 (rV 16 (rU UInt64)) x_9 0 gc_11, cmap go_13 (A r_api_Dot) (A r_api_Event) (some x_12), cvar gb_14 r_api_Event e_1])
     (fun γ ρ hb hd => (.cons (hb 0 _ rfl) (.cons (hb 3 _ rfl) (.cons (hdq hd 13 20 rfl) .nil)))) (fun _ => rfl) (fun γ => ?_)
 refine JQ.at ⟨[(0, ov (PTR gb_5 0)), (3, ov (PTR gb_14 0)), (20, ov (S rB v_19))], [zq21 gb_5 go_7 x_6 gc_8 go_10 x_9 gc_11 go_13 regions_2 own_3 v_4, cown go_7 r_api_Event x_6 (List.length x_6) gc_8, cown go_10 (rV 16 (rU UInt64)) x_9 0 gc_11, cmap go_13 (A r_api_Dot) (A r_api_Event) (some x_12), cvar gb_14 r_api_Event e_1], []⟩ <| JQ.then <| jif tR hm (fun hc1 hm => ?_) (fun hc1 hm => ?_)
 · refine jr <| jc (op_assign lb .cB) <| jn <| JC.ret <| JQ.outR ?_
   obtain rfl := so hm
   refine JQ.pre (Imp.var (j := 0) (q := (zq19 go_7 x_6 gc_8 go_10 x_9 gc_11 go_13)) (y := (regions_2, (own_3, (v_4, ((), ((), ((), ()))))))) rfl Wk.refl) ?_
   exact JQ.done (js := [0, 0, 0, 0]) (ss := [.val (S rB false)]) () (.inl rfl) (.nil rfl) rfl (.cons (.tmp rfl) .nil) rfl rfl rfl
 refine JC.skip <| JQ.then <| bI hm fun tv2 hx2 hq2 => JC.seqK (α := Unit) (γ := Unit) (stj := fun v q => ⟨[], [zq21 gb_5 go_7 x_6 gc_8 go_10 x_9 gc_11 go_13 regions_2 own_3 v_4, cown go_7 r_api_Event x_6 (List.length x_6) gc_8, cown go_10 (rV 16 (rU UInt64)) x_9 0 gc_11, cmap go_13 (A r_api_Dot) (A r_api_Event) (some x_12)], []⟩) (p := fun v => tv2 = (.inl v)) (fun v q hv => ?_) ?_
 · subst hv
   skip
   obtain _ := q
   dsimp only at hq2
   refine JC.at ⟨[], [zq21 gb_5 go_7 x_6 gc_8 go_10 x_9 gc_11 go_13 regions_2 own_3 v_4, cown go_7 r_api_Event x_6 (List.length x_6) gc_8, cown go_10 (rV 16 (rU UInt64)) x_9 0 gc_11, cmap go_13 (A r_api_Dot) (A r_api_Event) (some x_12)], []⟩ <| jr <| jc (op_assign lb .cB) <| jn <| JC.ret ?_
   obtain rfl := so hq2
   exact JQ.done (js := [0, 0, 0, 0]) (ss := [.val (S rB true)]) () (.inl rfl) (.nil rfl) rfl (.cons (.tmp rfl) .nil) rfl rfl rfl
 refine jr <| jc (op_fieldAddr (off := 4) lb tf37_3 tR) <| jc (op_loadA (j := 4) lb tA34 tR rfl (cT (comp_api_Event_Past e_1) rfl) rfl) <| jc (op_move lb .cI) <| jn <| JC.block <| bI hx2 fun tv3 hL3 hq3 => JC.pre (Imp.var (j := 0) (q := (zq19 go_7 x_6 gc_8 go_10 x_9 gc_11 go_13)) (y := (regions_2, (own_3, (v_4, ((), ((), ((), ()))))))) rfl Wk.refl) ?_
 refine JC.pre ?_ (JC.loop (γ := Unit) (stf := fun s q => ⟨[(0, ov (PTR gb_5 0)), (3, ov (PTR gb_14 0)), (22, ov (A (rV 16 (rU UInt64)) e_1.Past)), (23, ov (S (rI .i64) s))], [zq21 gb_5 go_7 x_6 gc_8 go_10 x_9 gc_11 go_13 regions_2 own_3 v_4, cown go_7 r_api_Event x_6 (List.length x_6) gc_8, cown go_10 (rV 16 (rU UInt64)) x_9 0 gc_11, cmap go_13 (A r_api_Dot) (A r_api_Event) (some x_12), cvar gb_14 r_api_Event e_1], []⟩) (q := ()) hL3 ?_)
 · exact (Imp.norm (js := [0, 0, 0, 0, 0]) rfl (.cons rfl (.cons rfl (.cons rfl (.cons rfl .nil)))))
 intro x_20 q x hx hr
 obtain _ := q
 change cast_Caster_can_pv_svvvoomm'2.b1 k e_1 v_4 x_20 = some x at hx
 unfold cast_Caster_can_pv_svvvoomm'2.b1 at hx
 refine JC.at ⟨[(0, ov (PTR gb_5 0)), (3, ov (PTR gb_14 0)), (22, ov (A (rV 16 (rU UInt64)) e_1.Past)), (23, ov (S (rI .i64) x_20))], [zq21 gb_5 go_7 x_6 gc_8 go_10 x_9 gc_11 go_13 regions_2 own_3 v_4, cown go_7 r_api_Event x_6 (List.length x_6) gc_8, cown go_10 (rV 16 (rU UInt64)) x_9 0 gc_11, cmap go_13 (A r_api_Dot) (A r_api_Event) (some x_12), cvar gb_14 r_api_Event e_1], []⟩ <| jr <| lI hx fun v_21 hv_21 hx => jc (op_cmpI lb tR .cI (cs hv_21)) <| jn <| JC.seq <| jif tR hx (fun hc4 hx => ?_) (fun hc4 hx => ?_)
 · refine JC.skip <| JQ.then <| JC.seq <| JC.block <| jr <| jmv rfl rfl <| bI hx fun v_22 hv_22 hx => jc (op_indexSg lb tu34 tS29 rfl tR tR hv_22) <| jc (op_assign lb tR) <| jc (op_assign lb tR) <| jn <| bI hx fun x_28 hx5 hq5 => JC.seqJ (γ := Unit) (stj := fun _ => ⟨[(0, ov (PTR gb_5 0)), (3, ov (PTR gb_14 0)), (22, ov (A (rV 16 (rU UInt64)) e_1.Past)), (23, ov (S (rI .i64) x_20)), (42, ov (S rB x_28))], [zq21 gb_5 go_7 x_6 gc_8 go_10 x_9 gc_11 go_13 regions_2 own_3 v_4, cown go_7 r_api_Event x_6 (List.length x_6) gc_8, cown go_10 (rV 16 (rU UInt64)) x_9 0 gc_11, cmap go_13 (A r_api_Dot) (A r_api_Event) (some x_12), cvar gb_14 r_api_Event e_1], []⟩) (fun _ => ?_) ?_
   · refine jif tR hq5 (fun hc13 hq5 => ?_) (fun hc13 hq5 => ?_)
     · refine jr <| jc (op_assign lb .cB) <| jn <| JC.ret <| JQ.outRB <| JQ.outR ?_
       try obtain rfl := so hq5
       try obtain rfl := hr _ rfl
       dsimp only at hq3
       refine JQ.outR <| JQ.outRB ?_
       try obtain rfl := so hq3
       dsimp only at hq2
       refine JQ.outR ?_
       obtain rfl := so hq2
       exact JQ.done (js := [0, 0, 0, 0]) (ss := [.val (S rB false)]) () (.inl rfl) (.nil rfl) rfl (.cons (.tmp rfl) .nil) rfl rfl rfl
     refine JC.skip <| JQ.outNB <| JQ.then <| JC.region <| lI hq5 fun v_29 hv_29 hq5 => jc (op_arI lb tR .cI (cs hv_29)) <| jmv rfl rfl <| JL.nil ?_
     try obtain rfl := so hq5
     exact JQ.next () rfl (Imp.norm (js := [0, 0, 0, 0, 0]) rfl (.cons rfl (.cons rfl (.cons rfl (.cons rfl .nil)))))
   refine JC.region <| jmv rfl rfl <| jc (op_fieldAddr (off := 0) lb tf37_0 tR) <| jc (op_fieldAddr (off := 0) lb tf31_0 tR) <| jc (op_loadS (j := 4) lb tS3 tR rfl (Comp.trans (cT (comp_api_Event_ID e_1) rfl) (comp_api_Dot_Region e_1.ID) (lE rfl)) rfl rfl) <| lI hx5 fun v_23 hv_23 hx5 => jc (op_arI lb tR .cI (cs hv_23)) <| lI hx5 fun v_24 hv_24 hx5 => jc (op_cmpI lb tR tR (cs hv_24)) <| jmv rfl rfl <| JL.sub ⟨[(0, ov (PTR gb_5 0)), (3, ov (PTR gb_14 0)), (5, ov (S (rI .i64) x_20)), (6, ov (S (rU UInt64) v_22)), (22, ov (A (rV 16 (rU UInt64)) e_1.Past)), (23, ov (S (rI .i64) x_20)), (33, ov (S rB v_24))], [zq21 gb_5 go_7 x_6 gc_8 go_10 x_9 gc_11 go_13 regions_2 own_3 v_4, cown go_7 r_api_Event x_6 (List.length x_6) gc_8, cown go_10 (rV 16 (rU UInt64)) x_9 0 gc_11, cmap go_13 (A r_api_Dot) (A r_api_Event) (some x_12), cvar gb_14 r_api_Event e_1], []⟩ (.cons rfl (.cons rfl (.cons rfl (.cons rfl (.cons rfl (.cons rfl (.cons rfl .nil))))))) rfl rfl <| jT (ov (S (rU UInt64) v_22)) rfl rfl rfl rfl (fun hq_6 => op_move lb tR) <| jT (ov (PTR gb_5 0)) rfl rfl rfl rfl (fun hq_7 => op_move lb tR) <| jT (ov (S (rI .i64) x_20)) rfl rfl rfl rfl (fun hq_8 => op_move lb tR) ?_
   refine jT (ov (PTR gb_5 0)) rfl rfl rfl rfl (fun hq_9 => op_nilCheck lb (HasO.cnd tR hq_9) (fun e v h => by subst h; rfl)) <| jT (ov (PTR gb_5 (0 + 2))) rfl rfl rfl rfl (fun hq_10 => op_fieldAddr (off := 2) lb tf74_2 (HasO.cnd tR hq_10)) ?_
   rcases iteB_inv hx5 with ⟨hc12, hx5⟩ | ⟨hc12, hx5⟩
   · refine bI hx5 fun i_25 hv_i_25 hx5 => JL.run (.yes rfl (ltB rfl) rfl hc12) (op_indexAddrIF lb tr34 (HasO.cnd tR hc12) (HasO.cnd tR hc12) hv_i_25) <| lI hx5 fun v_26 hv_26 hx5 => JL.run (.yes rfl (ltB rfl) rfl hc12) (op_loadS (j := 0) lb tS29 tR rfl (Comp.at (Comp.trans (Comp.self (zq19 go_7 x_6 gc_8 go_10 x_9 gc_11 go_13) (regions_2, (own_3, (v_4, ((), ((), ((), ()))))))) (Comp.at' (Comp.inS (Comp.inS (Comp.inF (Comp.self (rV 16 (rU UInt64)) v_4) (lE rfl)))) (by rfl : _ = 2)) (lE rfl)) i_25.2 rfl) rfl hv_26) <| lI hx5 fun v_27 hv_27 hx5 => JL.run (.yes rfl (ltB rfl) rfl hc12) (op_cmpU lb (HasO.cnd tR hc12) tR (cs hv_27)) <| jc (op_pickT lb tR hc12 tR) <| JL.nil ?_
     try obtain rfl := so hx5
     exact JQ.join () (Imp.norm (js := [0, 0, 0, 0, 0]) rfl (.cons rfl (.cons rfl (.cons rfl (.cons rfl (.cons rfl .nil))))))
   refine jk rfl hc12 <| jk rfl hc12 <| jk rfl hc12 <| jc (op_pickF lb tR hc12 .cB) <| JL.nil ?_
   try obtain rfl := so hx5
   exact JQ.join () (Imp.norm (js := [0, 0, 0, 0, 0]) rfl (.cons rfl (.cons rfl (.cons rfl (.cons rfl (.cons rfl .nil))))))
 refine JC.exit <| JQ.outX ?_
 try obtain rfl := so hx
 try obtain rfl := hr _ rfl
 dsimp only at hq3
 refine JQ.outX <| JQ.here ?_
 try obtain rfl := so hq3
 exact JQ.joinK () () rfl (Imp.norm (js := [0, 0, 0, 0]) rfl .nil)

end Go.Proofs.Ytbmimaabgclhjaa
