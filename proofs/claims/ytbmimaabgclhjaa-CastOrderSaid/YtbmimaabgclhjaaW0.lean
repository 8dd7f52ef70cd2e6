/- Walks. -/
import Derived.Test.YtbmimaabgclhjaaT
namespace Go.Proofs.Ytbmimaabgclhjaa
open Go Fw
set_option linter.unusedVariables false
set_option maxRecDepth 100000
set_option maxHeartbeats 4000000

theorem sim_law13_much (k : Nat) (l_1 : (List law13_Act)) (r : Bool) (hm : law13_much k l_1 = some r) : Sim Try.prog 8 [S (rL r_law13_Act) l_1] [] (γ := Unit) (fun q => []) (fun q => .one (.val (S rB r))) := by
 unfold law13_much at hm
 refine Sim.of Try.func8 rfl rfl (lE rfl) (fun e0 w0 => ?_)
 refine JC.at ⟨[(0, ov (S (rL r_law13_Act) l_1))], [], []⟩ <| jr <| jc (op_assign lb .cB) <| jn <| bI hm fun tv1 hx1 hq1 => JC.seqK (α := Unit) (γ := Unit) (stj := fun v q => ⟨[(0, ov (S (rL r_law13_Act) l_1))], [], []⟩) (p := fun v => tv1 = (.inl v)) (fun v q hv => ?_) ?_
 · subst hv
   skip
   obtain _ := q
   dsimp only at hq1
   refine JC.at ⟨[(0, ov (S (rL r_law13_Act) l_1))], [], []⟩ <| jr <| jmv rfl rfl <| jc (op_lenL lb tu22 tR) <| lI hq1 fun v_11 hv_11 hq1 => jc (op_cmpI lb tR .cI (cs hv_11)) <| jc (op_assign lb tR) <| jn <| JC.ret ?_
   obtain rfl := so hq1
   exact jd (.val (S rB v_11)) rfl rfl rfl rfl rfl rfl
 refine jr <| jc (op_assign lb .cI) <| jn <| JC.block <| bI hx1 fun tv2 hL2 hq2 => JC.pre ?_ (JC.loop (γ := Unit) (stf := fun s q => ⟨[(0, ov (S (rL r_law13_Act) l_1)), (3, ov (S (rI .i64) s))], [], []⟩) (q := ()) hL2 ?_)
 · exact (Imp.norm (js := []) rfl (.cons rfl (.cons rfl .nil)))
 intro i_2 q x hx hr
 obtain _ := q
 change law13_much.b1 k l_1 i_2 = some x at hx
 unfold law13_much.b1 at hx
 refine JC.at ⟨[(0, ov (S (rL r_law13_Act) l_1)), (3, ov (S (rI .i64) i_2))], [], []⟩ <| JC.seq <| jr <| jmv rfl rfl <| jmv rfl rfl <| jc (op_lenL lb tu22 tR) <| lI hx fun v_3 hv_3 hx => jc (op_cmpI lb tR tR (cs hv_3)) <| jn <| jif tR hx (fun hc3 hx => ?_) (fun hc3 hx => ?_)
 · refine JC.skip <| JQ.then <| JC.seq <| JC.block <| bI hx fun x_9 hx4 hq4 => JC.seqJ (γ := Unit) (stj := fun _ => ⟨[(0, ov (S (rL r_law13_Act) l_1)), (3, ov (S (rI .i64) i_2)), (27, ov (S rB x_9))], [], []⟩) (fun _ => ?_) ?_
   · refine jif tR hq4 (fun hc14 hq4 => ?_) (fun hc14 hq4 => ?_)
     · refine jr <| jc (op_assign lb .cB) <| jn <| JC.ret <| JQ.outRB <| JQ.outR ?_
       try obtain rfl := so hq4
       try obtain rfl := hr _ rfl
       dsimp only at hq2
       refine JQ.outR <| JQ.outRB ?_
       try obtain rfl := so hq2
       dsimp only at hq1
       refine JQ.outR ?_
       obtain rfl := so hq1
       exact jd (.val (S rB true)) rfl rfl rfl rfl rfl rfl
     refine JC.skip <| JQ.outNB <| JQ.then <| JC.region <| jmv rfl rfl <| lI hq4 fun v_10 hv_10 hq4 => jc (op_arI lb tR .cI (cs hv_10)) <| jc (op_assign lb tR) <| JL.nil ?_
     try obtain rfl := so hq4
     exact JQ.next () rfl (Imp.norm (js := []) rfl (.cons rfl (.cons rfl .nil)))
   refine JC.region <| jmv rfl rfl <| jmv rfl rfl <| bI hx4 fun v_4 hv_4 hx4 => jc (op_indexAddrLg lb tu22 tz39 tR tR hv_4) <| jc (op_fieldAddrP lb tf39_1 tR (comp_law13_Act_Event v_4)) <| jc (op_fieldAddrP lb tf37_4 tR (comp_api_Event_To v_4.Event)) <| jc (op_loadPSg lb tS35 rfl tR rfl) <| jc (op_lenL lb tu35 tR) <| lI hx4 fun v_5 hv_5 hx4 => jc (op_cmpI lb tR .cI (cs hv_5)) <| JL.sub ⟨[(0, ov (S (rL r_law13_Act) l_1)), (3, ov (S (rI .i64) i_2)), (17, ov (S rB v_5))], [], []⟩ (.cons rfl (.cons rfl (.cons rfl .nil))) rfl rfl <| jmv rfl rfl <| jF (ov (S (rL r_law13_Act) l_1)) rfl rfl rfl rfl (fun hq_5 => op_move lb tR) <| jF (ov (S (rI .i64) i_2)) rfl rfl rfl rfl (fun hq_6 => op_move lb tR) ?_
   refine bI hx4 fun v_6 hv_6 hx4 => jF (ov (PT r_law13_Act v_6)) rfl rfl rfl rfl (fun hq_7 => op_indexAddrLg lb tu22 tz39 (HasO.cnd tR (notT (notF hq_7))) (HasO.cnd tR (notT (notF hq_7))) (ifT hv_6 hq_7)) <| jF (ov (PT r_api_Event v_6.Event)) rfl rfl rfl rfl (fun hq_8 => op_fieldAddrP lb tf39_1 (HasO.cnd tR (notT (notF hq_8))) (comp_law13_Act_Event v_6)) <| jF (ov (PT (rL (rU UInt8)) v_6.Event.Payload)) rfl rfl rfl rfl (fun hq_9 => op_fieldAddrP lb tf37_2 (HasO.cnd tR (notT (notF hq_9))) (comp_api_Event_Payload v_6.Event)) <| jF (ov (S (rL (rU UInt8)) v_6.Event.Payload)) rfl rfl rfl rfl (fun hq_10 => op_loadPSg lb tS32 rfl (HasO.cnd tR (notT (notF hq_10))) rfl) <| jF (ov (S (rI .i64) (List.length v_6.Event.Payload : Int))) rfl rfl rfl rfl (fun hq_11 => op_lenL lb tu32 (HasO.cnd tR (notT (notF hq_11)))) <| lI hx4 fun v_7 hv_7 hx4 => jF (ov (S rB v_7)) rfl rfl rfl rfl (fun hq_12 => op_cmpI lb (HasO.cnd tR (notT (notF hq_12))) .cI (cs hv_7)) ?_
   obtain ⟨v_8, hv_8, hx4⟩ := lt1_inv hx4
   refine jc (op_pickCS lb tR (fun hb13 => .cB) (fun hb13 => (HasO.cnd tR (notT hb13))) hv_8) <| JL.nil ?_
   try obtain rfl := so hx4
   exact JQ.join () (Imp.norm (js := []) rfl (.cons rfl (.cons rfl (.cons rfl .nil))))
 refine JC.exit <| JQ.outX ?_
 try obtain rfl := so hx
 try obtain rfl := hr _ rfl
 dsimp only at hq2
 refine JQ.outX <| JQ.here ?_
 try obtain rfl := so hq2
 exact JQ.joinK () () rfl (Imp.norm (js := []) rfl (.cons rfl .nil))

theorem sim_cast_New_v0 (k : Nat) (regions_1 : Int) (own_2 : Int) (r : Unit) (hm : cast_New k regions_1 own_2 = some (.inl r)) : Sim Try.prog 10 [S (rI .i64) regions_1, S (rI .i64) own_2] [] (γ := Nat × Option Nat) (fun q => [cvar q.1 (rP (rI .i64) (rP (rI .i64) (rP (rV 16 (rU UInt64)) (rP (rW (HDR none 0 0 0)) (rP (rW (HDR none 0 0 0)) (rP (rW (MPV q.2)) r0)))))) (regions_1, (own_2, ((Vector.replicate 16 (0 : UInt64)), ((), ((), ((), ())))))), cmap q.2 (A r_api_Dot) (A r_api_Event) (some ([] : (List (api_Dot × api_Event))))]) (fun q => .tup [.val (PTR q.1 0), .val (S (rI .i64) (0 : Int))]) := by
 unfold cast_New at hm
 refine Sim.of Try.func10 rfl rfl (lE rfl) (fun e0 w0 => ?_)
 refine JC.at ⟨[(0, ov (S (rI .i64) regions_1)), (1, ov (S (rI .i64) own_2))], [], []⟩ <| jr <| jc (op_assign lb (HasO.const (p := PTO none) fun _ => rfl)) <| jc (op_assign lb .cI) <| jn <| JC.seq <| bI hm fun x_10 hx1 hq1 => JC.seqJ (γ := Unit) (stj := fun _ => ⟨[(0, ov (S (rI .i64) regions_1)), (1, ov (S (rI .i64) own_2)), (20, ov (S rB x_10))], [], []⟩) (fun _ => ?_) ?_
 · refine jif tR hq1 (fun hc12 hq1 => ?_) (fun hc12 hq1 => ?_)
   · refine jr <| jc (op_assign lb (HasO.const (p := PTO none) fun _ => rfl)) <| jc (op_assign lb .cI) <| jn <| JC.ret <| JQ.outR ?_
     cases hq1
   exact JC.skip <| JQ.then <| jr <| jmv rfl rfl <| jmv rfl rfl <| jx (op_makeMap lb (A r_api_Dot) (A r_api_Event)) fun gb_11 => jc (op_build lb tZ74 zr74 tp74 (.S (off := 0) rfl tR rfl ((UpdR.fst (UpdR.self (by rfl))).at (by rfl)) (.S (off := 1) rfl tR rfl ((UpdR.snd (UpdR.fst (UpdR.self (by rfl)))).at (by rfl)) (.S (off := 20) (s := rW (MPV (some gb_11))) (u := ()) rfl (HasO.wk (q := S (rW (MPV (some gb_11))) ()) tR wkV) rfl ((UpdR.snd (UpdR.snd (UpdR.snd (UpdR.snd (UpdR.snd (UpdR.fst (UpdR.self (by rfl)))))))).at (by rfl)) .nil))) rfl) <| jx (op_boxA lb tR) fun gb_12 => jc (op_assign lb tR) <| jc (op_assign lb .cI) <| jn <| JC.ret <| JQ.done (js := [1, 0]) (ss := [.val (PTR gb_12 0), .val (S (rI .i64) (0 : Int))]) (gb_12, (some gb_11)) (.inl rfl) (.nil rfl) rfl (.cons (.tmp rfl) (.cons (.tmp rfl) .nil)) rfl rfl rfl
 refine JC.region <| jmv rfl rfl <| lI hx1 fun v_3 hv_3 hx1 => jc (op_cmpI lb tR .cI (cs hv_3)) <| jmv rfl rfl <| jF (ov (S (rI .i64) regions_1)) rfl rfl rfl rfl (fun hq_2 => op_move lb tR) <| lI hx1 fun v_4 hv_4 hx1 => jF (ov (S rB v_4)) rfl rfl rfl rfl (fun hq_3 => op_cmpI lb (HasO.cnd tR (notT (notF hq_3))) .cI (cs hv_4)) <| lI hx1 fun v_5 hv_5 hx1 => jc (op_pickCS lb tR (fun hb4 => .cB) (fun hb4 => (HasO.cnd tR (notT hb4))) hv_5) <| jmv rfl rfl <| jF (ov (S (rI .i64) own_2)) rfl rfl rfl rfl (fun hq_5 => op_move lb tR) ?_
 refine lI hx1 fun v_6 hv_6 hx1 => jF (ov (S rB v_6)) rfl rfl rfl rfl (fun hq_6 => op_cmpI lb (HasO.cnd tR (notT (notF hq_6))) .cI (cs hv_6)) <| lI hx1 fun v_7 hv_7 hx1 => jc (op_pickCS lb tR (fun hb7 => .cB) (fun hb7 => (HasO.cnd tR (notT hb7))) hv_7) <| JL.sub ⟨[(0, ov (S (rI .i64) regions_1)), (1, ov (S (rI .i64) own_2)), (15, ov (S rB v_7))], [], []⟩ (.cons rfl (.cons rfl (.cons rfl .nil))) rfl rfl <| jmv rfl rfl <| jF (ov (S (rI .i64) own_2)) rfl rfl rfl rfl (fun hq_8 => op_move lb tR) <| jF (ov (S (rI .i64) regions_1)) rfl rfl rfl rfl (fun hq_9 => op_move lb tR) ?_
 obtain ⟨v_8, hv_8, hx1⟩ := lt1_inv hx1
 refine jF (ov (S rB v_8)) rfl rfl rfl rfl (fun hq_10 => op_cmpI lb (HasO.cnd tR (notT (notF hq_10))) (HasO.cnd tR (notT (notF hq_10))) (cs hv_8)) <| lI hx1 fun v_9 hv_9 hx1 => jc (op_pickCS lb tR (fun hb11 => .cB) (fun hb11 => (HasO.cnd tR (notT hb11))) hv_9) <| JL.nil ?_
 try obtain rfl := so hx1
 exact JQ.join () (Imp.norm (js := []) rfl (.cons rfl (.cons rfl (.cons rfl .nil))))

theorem sim_cast_New_v1 (k : Nat) (regions_1 : Int) (own_2 : Int) (r : Unit) (hm : cast_New k regions_1 own_2 = some (.inr r)) : Sim Try.prog 10 [S (rI .i64) regions_1, S (rI .i64) own_2] [] (γ := Unit) (fun q => []) (fun q => .tup [.val (PTO none), .val (S (rI .i64) (2 : Int))]) := by
 unfold cast_New at hm
 refine Sim.of Try.func10 rfl rfl (lE rfl) (fun e0 w0 => ?_)
 refine JC.at ⟨[(0, ov (S (rI .i64) regions_1)), (1, ov (S (rI .i64) own_2))], [], []⟩ <| jr <| jc (op_assign lb (HasO.const (p := PTO none) fun _ => rfl)) <| jc (op_assign lb .cI) <| jn <| JC.seq <| bI hm fun x_10 hx1 hq1 => JC.seqJ (γ := Unit) (stj := fun _ => ⟨[(0, ov (S (rI .i64) regions_1)), (1, ov (S (rI .i64) own_2)), (20, ov (S rB x_10))], [], []⟩) (fun _ => ?_) ?_
 · refine jif tR hq1 (fun hc12 hq1 => ?_) (fun hc12 hq1 => ?_)
   · exact jr <| jc (op_assign lb (HasO.const (p := PTO none) fun _ => rfl)) <| jc (op_assign lb .cI) <| jn <| JC.ret <| JQ.outR <| JQ.done (js := []) (ss := [.val (PTO none), .val (S (rI .i64) (2 : Int))]) () (.inl rfl) (.nil rfl) rfl (.cons (.tmp rfl) (.cons (.tmp rfl) .nil)) rfl rfl rfl
   refine JC.skip <| JQ.then <| jr <| jmv rfl rfl <| jmv rfl rfl <| jx (op_makeMap lb (A r_api_Dot) (A r_api_Event)) fun gb_11 => jc (op_build lb tZ74 zr74 tp74 (.S (off := 0) rfl tR rfl ((UpdR.fst (UpdR.self (by rfl))).at (by rfl)) (.S (off := 1) rfl tR rfl ((UpdR.snd (UpdR.fst (UpdR.self (by rfl)))).at (by rfl)) (.S (off := 20) (s := rW (MPV (some gb_11))) (u := ()) rfl (HasO.wk (q := S (rW (MPV (some gb_11))) ()) tR wkV) rfl ((UpdR.snd (UpdR.snd (UpdR.snd (UpdR.snd (UpdR.snd (UpdR.fst (UpdR.self (by rfl)))))))).at (by rfl)) .nil))) rfl) <| jx (op_boxA lb tR) fun gb_12 => jc (op_assign lb tR) <| jc (op_assign lb .cI) <| jn <| JC.ret ?_
   cases hq1
 refine JC.region <| jmv rfl rfl <| lI hx1 fun v_3 hv_3 hx1 => jc (op_cmpI lb tR .cI (cs hv_3)) <| jmv rfl rfl <| jF (ov (S (rI .i64) regions_1)) rfl rfl rfl rfl (fun hq_2 => op_move lb tR) <| lI hx1 fun v_4 hv_4 hx1 => jF (ov (S rB v_4)) rfl rfl rfl rfl (fun hq_3 => op_cmpI lb (HasO.cnd tR (notT (notF hq_3))) .cI (cs hv_4)) <| lI hx1 fun v_5 hv_5 hx1 => jc (op_pickCS lb tR (fun hb4 => .cB) (fun hb4 => (HasO.cnd tR (notT hb4))) hv_5) <| jmv rfl rfl <| jF (ov (S (rI .i64) own_2)) rfl rfl rfl rfl (fun hq_5 => op_move lb tR) ?_
 refine lI hx1 fun v_6 hv_6 hx1 => jF (ov (S rB v_6)) rfl rfl rfl rfl (fun hq_6 => op_cmpI lb (HasO.cnd tR (notT (notF hq_6))) .cI (cs hv_6)) <| lI hx1 fun v_7 hv_7 hx1 => jc (op_pickCS lb tR (fun hb7 => .cB) (fun hb7 => (HasO.cnd tR (notT hb7))) hv_7) <| JL.sub ⟨[(0, ov (S (rI .i64) regions_1)), (1, ov (S (rI .i64) own_2)), (15, ov (S rB v_7))], [], []⟩ (.cons rfl (.cons rfl (.cons rfl .nil))) rfl rfl <| jmv rfl rfl <| jF (ov (S (rI .i64) own_2)) rfl rfl rfl rfl (fun hq_8 => op_move lb tR) <| jF (ov (S (rI .i64) regions_1)) rfl rfl rfl rfl (fun hq_9 => op_move lb tR) ?_
 obtain ⟨v_8, hv_8, hx1⟩ := lt1_inv hx1
 refine jF (ov (S rB v_8)) rfl rfl rfl rfl (fun hq_10 => op_cmpI lb (HasO.cnd tR (notT (notF hq_10))) (HasO.cnd tR (notT (notF hq_10))) (cs hv_8)) <| lI hx1 fun v_9 hv_9 hx1 => jc (op_pickCS lb tR (fun hb11 => .cB) (fun hb11 => (HasO.cnd tR (notT hb11))) hv_9) <| JL.nil ?_
 try obtain rfl := so hx1
 exact JQ.join () (Imp.norm (js := []) rfl (.cons rfl (.cons rfl (.cons rfl .nil))))

theorem sim_law13_named (k : Nat) (region_1 : Int) (count_2 : UInt64) (r : api_Event) (hm : law13_named k region_1 count_2 = some r) : Sim Try.prog 24 [S (rI .i64) region_1, S (rU UInt64) count_2] [] (γ := Unit) (fun q => []) (fun q => .one (.val (A r_api_Event r))) := by
 unfold law13_named at hm
 refine Sim.of Try.func24 rfl rfl (lE rfl) (fun e0 w0 => ?_)
 refine JC.at ⟨[(0, ov (S (rI .i64) region_1)), (1, ov (S (rU UInt64) count_2))], [], []⟩ <| jr <| jx (op_alloc lb tZ37 zr37) fun gb_3 => jn <| jr <| jx (op_alloc lb tZ34 zr34) fun gb_4 => jn <| jr <| jmv rfl rfl <| lI hm fun v_5 hv_5 hm => jc (op_arI lb tR .cI (cs hv_5)) <| jmv rfl rfl ?_
 obtain ⟨v_6, hv_6, hm⟩ := lt1_inv hm
 refine jc (op_arU lb tR (HasO.cU (x := (1 : UInt64)) rfl (by decide)) (cs hv_6)) <| bI hm fun i_7 hv_i_7 hm => jc (op_indexAddrIF lb tr34 tR tR hv_i_7) <| lI hm fun past_8 hv_past_8 hm => jc (op_storeS (j := 1) tS29 tR tR rfl rfl (Upd.at (Comp.self (rV 16 (rU UInt64)) (Vector.replicate 16 (0 : UInt64))) i_7.2 rfl (Upd.self (rV 16 (rU UInt64)) (Vector.replicate 16 (0 : UInt64)) _)).R hv_past_8) <| JL.sub ⟨[(0, ov (S (rI .i64) region_1)), (1, ov (S (rU UInt64) count_2)), (4, ov (PTR gb_3 0)), (5, ov (PTR gb_4 0))], [cvar gb_3 zq1 zq2, cvar gb_4 (rV 16 (rU UInt64)) past_8], []⟩ (.cons rfl (.cons rfl (.cons rfl (.cons rfl .nil)))) rfl rfl <| jn <| jr <| jmv rfl rfl <| jmv rfl rfl <| jc (op_build lb tZ31 zs31 tp31 (.S (off := 0) rfl tR rfl ((UpdR.fst (UpdR.self (by rfl))).at (by rfl)) (.S (off := 1) rfl tR rfl ((UpdR.snd (UpdR.fst (UpdR.self (by rfl)))).at (by rfl)) .nil)) rfl) <| jc (op_loadA (j := 1) lb tA34 tR rfl (Comp.self (rV 16 (rU UInt64)) past_8) rfl) <| jc (op_build lb tZ37 zr37 tp37 (.A (off := 0) rfl (HasO.wk (q := A r_api_Dot (api_Dot.mk region_1 count_2)) tR (wkAK (Wk.st Wk.refl))) ((UpdR.fst (UpdR.self (by rfl))).at (by rfl)) (.S (off := 2) rfl (HasO.cS (l := [116]) rfl) rfl ((UpdR.snd (UpdR.fst (UpdR.self (by rfl)))).at (by rfl)) (.A (off := 4) rfl tR ((UpdR.snd (UpdR.snd (UpdR.snd (UpdR.fst (UpdR.self (by rfl)))))).at (by rfl)) .nil))) rfl) <| jc (op_storeA (j := 0) tA37 tR tR rfl (UpdR.self (by rfl)) rfl) <| jn <| JC.ret ?_
 obtain rfl := so hm
 refine JQ.pre (Imp.var (j := 0) (q := r_api_Event) (y := (api_Event.mk (api_Dot.mk region_1 count_2) ([116] : List UInt8) ([] : (List UInt8)) past_8 ([] : (List api_Dest)))) rfl (Wk.st (Wk.pair Wk.refl (Wk.pair Wk.refl (Wk.pair Wk.nil (Wk.pair Wk.refl (Wk.pair Wk.nil Wk.refl))))))) ?_
 exact JQ.done (js := []) (ss := [.val (A r_api_Event (api_Event.mk (api_Dot.mk region_1 count_2) ([116] : List UInt8) ([] : (List UInt8)) past_8 ([] : (List api_Dest))))]) () (.inl rfl) (.nil rfl) rfl (.cons (.cellA (j := 0) tA37 rfl rfl) .nil) rfl rfl rfl

theorem sim_cast_Caster_there_p_svvvnnmm (k : Nat) (regions_1 : Int) (own_2 : Int) (v_3 : (Vector UInt64 16)) (x_5 : (List (api_Dot × api_Event))) (gb_4 : Nat) (go_6 : Option Nat) (r : Unit) (hm : cast_Caster_there_p_svvvnnmm k regions_1 own_2 v_3 x_5 = some r) : Sim Try.prog 26 [PTR gb_4 0] [cvar gb_4 (zq4 go_6) (regions_1, (own_2, (v_3, ((), ((), ((), ())))))), cmap go_6 (A r_api_Dot) (A r_api_Event) (some x_5)] (γ := Unit) (fun q => [cvar gb_4 (zq4 go_6) (regions_1, (own_2, (v_3, ((), ((), ((), ())))))), cmap go_6 (A r_api_Dot) (A r_api_Event) (some x_5)]) (fun q => .one (.val (S rB true))) := by
 unfold cast_Caster_there_p_svvvnnmm at hm
 refine Sim.of Try.func26 rfl rfl (lE rfl) (fun e0 w0 => ?_)
 refine JC.at ⟨[(0, ov (PTR gb_4 0))], [cvar gb_4 (zq4 go_6) (regions_1, (own_2, (v_3, ((), ((), ((), ())))))), cmap go_6 (A r_api_Dot) (A r_api_Event) (some x_5)], []⟩ <| jr <| jc (op_assign lb .cB) <| jn <| bI hm fun _ hx1 hq1 => JC.seqJ (γ := Unit) (stj := fun _ => ⟨[(2, ov (S rB true))], [cvar gb_4 (zq4 go_6) (regions_1, (own_2, (v_3, ((), ((), ((), ())))))), cmap go_6 (A r_api_Dot) (A r_api_Event) (some x_5)], []⟩) (fun _ => ?_) ?_
 · exact JC.ret <| JQ.done (js := [0, 0]) (ss := [.val (S rB true)]) () (.inl rfl) (.nil rfl) rfl (.cons (.tmp rfl) .nil) rfl rfl rfl
 refine JC.region <| jmv rfl rfl <| jc (op_nilP (neg := true) lb tu25 tR (HasO.const (p := PTO none) fun _ => rfl)) <| jmv rfl rfl <| JL.run (.yes rfl (ltB rfl) rfl rfl) (op_move lb tR) <| JL.run (.yes rfl (ltB rfl) rfl rfl) (op_nilCheck lb tR (fun e v h => by subst h; rfl)) <| JL.run (.yes rfl (ltB rfl) rfl rfl) (op_fieldAddr (off := 20) lb tf74_5 tR) <| JL.run (.yes rfl (ltB rfl) rfl rfl) (op_loadW (j := 0) lb tS72 tR rfl (Comp.trans (Comp.self (zq4 go_6) (regions_1, (own_2, (v_3, ((), ((), ((), ()))))))) (Comp.at' (Comp.inS (Comp.inS (Comp.inS (Comp.inS (Comp.inS (Comp.inF (Comp.self (rW (MPV go_6)) ()) (lE rfl))))))) (by rfl : _ = 20)) (lE rfl))) <| JL.run (.yes rfl (ltB rfl) rfl rfl) (op_nilMX (neg := true) (j := 1) lb tu72 rfl tR (HasO.const (p := MPV none) fun _ => rfl) rfl) <| jc (op_pickT lb tR rfl tR) <| jc (op_assign lb tR) <| JL.nil <| JQ.pre (Imp.var (j := 0) (q := (zq4 go_6)) (y := (regions_1, (own_2, (v_3, ((), ((), ((), ()))))))) rfl Wk.refl) ?_
 exact JQ.join () (Imp.norm (js := [0, 0]) rfl (.cons rfl .nil))

theorem sim_event_MayDot (k : Nat) (d_1 : api_Dot) (r : Bool) (hm : event_MayDot k d_1 = some r) : Sim Try.prog 57 [A r_api_Dot d_1] [] (γ := Unit) (fun q => []) (fun q => .one (.val (S rB r))) := by
 unfold event_MayDot at hm
 refine Sim.of Try.func57 rfl rfl (lE rfl) (fun e0 w0 => ?_)
 refine JC.at ⟨[(0, ov (A r_api_Dot d_1))], [], []⟩ <| jr <| jx (op_boxA lb tR) fun gb_2 => jc (op_assign lb .cB) <| jn <| bI hm fun x_10 hx1 hq1 => JC.seqJ (γ := Unit) (stj := fun _ => ⟨[(2, ov (S rB x_10))], [], []⟩) (fun _ => ?_) ?_
 · refine JC.ret ?_
   obtain rfl := so hq1
   exact jd (.val (S rB x_10)) rfl rfl rfl rfl rfl rfl
 refine JC.region <| jc (op_fieldAddr (off := 0) lb tf31_0 tR) <| jc (op_loadS (j := 0) lb tS3 tR rfl (cT (comp_api_Dot_Region d_1) rfl) rfl rfl) <| lI hx1 fun v_3 hv_3 hx1 => jc (op_cmpI lb tR .cI (cs hv_3)) <| jmv rfl rfl <| jT (ov (PTR gb_2 (0 + 0))) rfl rfl rfl rfl (fun hq_2 => op_fieldAddr (off := 0) lb tf31_0 tR) <| jT (ov (S (rI .i64) d_1.Region)) rfl rfl rfl rfl (fun hq_3 => op_loadS (j := 0) lb tS3 (HasO.cnd tR hq_3) rfl (cT (comp_api_Dot_Region d_1) rfl) rfl rfl) <| lI hx1 fun v_4 hv_4 hx1 => jT (ov (S rB v_4)) rfl rfl rfl rfl (fun hq_4 => op_cmpI lb (HasO.cnd tR hq_4) .cI (cs hv_4)) <| lI hx1 fun v_5 hv_5 hx1 => jc (op_pickCS lb tR (fun hb5 => (HasO.cnd tR hb5)) (fun hb5 => .cB) hv_5) ?_
 refine JL.sub ⟨[(1, ov (PTR gb_2 0)), (2, ov (S rB false)), (10, ov (S rB v_5))], [cvar gb_2 r_api_Dot d_1], []⟩ (.cons rfl (.cons rfl (.cons rfl .nil))) rfl rfl <| jmv rfl rfl <| jT (ov (PTR gb_2 (0 + 1))) rfl rfl rfl rfl (fun hq_6 => op_fieldAddr (off := 1) lb tf31_1 tR) <| jT (ov (S (rU UInt64) d_1.Count)) rfl rfl rfl rfl (fun hq_7 => op_loadS (j := 0) lb tS29 (HasO.cnd tR hq_7) rfl (cT (comp_api_Dot_Count d_1) rfl) rfl rfl) <| lI hx1 fun v_6 hv_6 hx1 => jT (ov (S rB v_6)) rfl rfl rfl rfl (fun hq_8 => op_cmpU lb (HasO.cnd tR hq_8) (HasO.cU (x := (1 : UInt64)) rfl (by decide)) (cs hv_6)) <| lI hx1 fun v_7 hv_7 hx1 => jc (op_pickCS lb tR (fun hb9 => (HasO.cnd tR hb9)) (fun hb9 => .cB) hv_7) <| jmv rfl rfl <| jT (ov (PTR gb_2 (0 + 1))) rfl rfl rfl rfl (fun hq_10 => op_fieldAddr (off := 1) lb tf31_1 tR) ?_
 refine jT (ov (S (rU UInt64) d_1.Count)) rfl rfl rfl rfl (fun hq_11 => op_loadS (j := 0) lb tS29 (HasO.cnd tR hq_11) rfl (cT (comp_api_Dot_Count d_1) rfl) rfl rfl) <| lI hx1 fun v_8 hv_8 hx1 => jT (ov (S rB v_8)) rfl rfl rfl rfl (fun hq_12 => op_cmpU lb (HasO.cnd tR hq_12) (HasO.cU (x := (4611686018427387904 : UInt64)) rfl (by decide)) (cs hv_8)) <| lI hx1 fun v_9 hv_9 hx1 => jc (op_pickCS lb tR (fun hb13 => (HasO.cnd tR hb13)) (fun hb13 => .cB) hv_9) <| jc (op_assign lb tR) <| JL.nil ?_
 try obtain rfl := so hx1
 exact jo rfl rfl rfl

theorem sim_event_mayVector_1 (k : Nat) (n_1 : UInt64) (r : Bool) (hm : event_mayVector_1 k n_1 = some r) : Sim Try.prog 65 [S (rU UInt64) n_1] [] (γ := Unit) (fun q => []) (fun q => .one (.val (S rB r))) := by
 unfold event_mayVector_1 at hm
 refine Sim.of Try.func65 rfl rfl (lE rfl) (fun e0 w0 => ?_)
 refine JC.at ⟨[(0, ov (S (rU UInt64) n_1))], [], []⟩ <| jr <| jc (op_assign lb .cB) <| jn <| jr <| jmv rfl rfl <| lI hm fun v_2 hv_2 hm => jc (op_cmpU lb tR (HasO.cU (x := (4611686018427387904 : UInt64)) rfl (by decide)) (cs hv_2)) <| jc (op_assign lb tR) <| jn <| JC.ret ?_
 obtain rfl := so hm
 exact jd (.val (S rB v_2)) rfl rfl rfl rfl rfl rfl

theorem sim_slices_IndexFuncuint64_uint64 (k : Nat) (s_1 : (List UInt64)) (r : Int) (hm : slices_IndexFuncuint64_uint64 k s_1 = some r) : Sim Try.prog 76 [S (rL (rU UInt64)) s_1, CLO 65 []] [] (γ := Unit) (fun q => []) (fun q => .one (.val (S (rI .i64) r))) := by
 unfold slices_IndexFuncuint64_uint64 at hm
 refine Sim.of Try.func76 rfl rfl (lE rfl) (fun e0 w0 => ?_)
 refine JC.at ⟨[(0, ov (S (rL (rU UInt64)) s_1)), (1, ov (CLO 65 []))], [], []⟩ <| jr <| jc (op_assign lb .cI) <| jn <| bI hm fun tv1 hx1 hq1 => JC.seqK (α := Unit) (γ := Unit) (stj := fun v q => ⟨[], [], []⟩) (p := fun v => tv1 = (.inl v)) (fun v q hv => ?_) ?_
 · subst hv
   skip
   obtain _ := q
   dsimp only at hq1
   refine JC.at ⟨[], [], []⟩ <| jr <| jc (op_assign lb .cI) <| jn <| JC.ret ?_
   obtain rfl := so hq1
   exact jd (.val (S (rI .i64) (-1 : Int))) rfl rfl rfl rfl rfl rfl
 refine jr <| jmv rfl rfl <| jc (op_lenL lb tu95 tR) <| jc (op_move lb .cI) <| jn <| JC.block <| bI hx1 fun tv2 hL2 hq2 => JC.pre ?_ (JC.loop (γ := Unit) (stf := fun s q => ⟨[(0, ov (S (rL (rU UInt64)) s_1)), (1, ov (CLO 65 [])), (7, ov (S (rI .i64) (List.length s_1 : Int))), (8, ov (S (rI .i64) s))], [], []⟩) (q := ()) hL2 ?_)
 · exact (Imp.norm (js := []) rfl (.cons rfl (.cons rfl (.cons rfl (.cons rfl .nil)))))
 intro x_2 q x hx hr
 obtain _ := q
 change slices_IndexFuncuint64_uint64.b1 k s_1 x_2 = some x at hx
 unfold slices_IndexFuncuint64_uint64.b1 at hx
 refine JC.at ⟨[(0, ov (S (rL (rU UInt64)) s_1)), (1, ov (CLO 65 [])), (7, ov (S (rI .i64) (List.length s_1 : Int))), (8, ov (S (rI .i64) x_2))], [], []⟩ <| jr <| lI hx fun v_3 hv_3 hx => jc (op_cmpI lb tR tR (cs hv_3)) <| jn <| JC.seq <| jif tR hx (fun hc3 hx => ?_) (fun hc3 hx => ?_)
 · refine JC.skip <| JQ.then <| JC.seq <| JC.block <| jr <| jmv rfl rfl <| jc (op_assign lb tR) <| jn <| jr <| jmv rfl rfl <| jmv rfl rfl <| jmv rfl rfl <| bI hx fun v_4 hv_4 hx => jc (op_indexAddrLg lb tu95 tz29 tR tR hv_4) <| jc (op_loadPSg lb tS29 rfl tR rfl) <| bI hx fun v_5 hv_5 hx => jx (op_call (js := []) ld cl65 (sim_event_mayVector_1 k v_4 v_5 hv_5) tR (.cons tR .nil) rfl) fun _ => jn ?_
   refine jif tR hx (fun hc4 hx => ?_) (fun hc4 hx => ?_)
   · refine jr <| jmv rfl rfl <| jc (op_assign lb tR) <| jn <| JC.ret <| JQ.outRB <| JQ.outR ?_
     try obtain rfl := so hx
     try obtain rfl := hr _ rfl
     dsimp only at hq2
     refine JQ.outR <| JQ.outRB ?_
     try obtain rfl := so hq2
     dsimp only at hq1
     refine JQ.outR ?_
     obtain rfl := so hq1
     exact jd (.val (S (rI .i64) x_2)) rfl rfl rfl rfl rfl rfl
   refine JC.skip <| JQ.outNB <| JQ.then <| JC.region <| lI hx fun v_6 hv_6 hx => jc (op_arI lb tR .cI (cs hv_6)) <| jmv rfl rfl <| JL.nil ?_
   try obtain rfl := so hx
   exact JQ.next () rfl (Imp.norm (js := []) rfl (.cons rfl (.cons rfl (.cons rfl (.cons rfl .nil)))))
 refine JC.exit <| JQ.outX ?_
 try obtain rfl := so hx
 try obtain rfl := hr _ rfl
 dsimp only at hq2
 refine JQ.outX <| JQ.here ?_
 try obtain rfl := so hq2
 exact JQ.joinK () () rfl (Imp.norm (js := []) rfl .nil)

theorem sim_slices_ContainsFuncuint64_uint64 (k : Nat) (s_1 : (List UInt64)) (r : Bool) (hm : slices_ContainsFuncuint64_uint64 k s_1 = some r) : Sim Try.prog 64 [S (rL (rU UInt64)) s_1, CLO 65 []] [] (γ := Unit) (fun q => []) (fun q => .one (.val (S rB r))) := by
 unfold slices_ContainsFuncuint64_uint64 at hm
 refine Sim.of Try.func64 rfl rfl (lE rfl) (fun e0 w0 => ?_)
 refine JC.at ⟨[(0, ov (S (rL (rU UInt64)) s_1)), (1, ov (CLO 65 []))], [], []⟩ <| jr <| jc (op_assign lb .cB) <| jn <| jr <| jmv rfl rfl <| jmv rfl rfl <| bI hm fun v_2 hv_2 hm => jx (op_call (js := []) ld cl76 (sim_slices_IndexFuncuint64_uint64 k s_1 v_2 hv_2) .func (.cons tR (.cons tR .nil)) rfl) fun _ => lI hm fun v_3 hv_3 hm => jc (op_cmpI lb tR .cI (cs hv_3)) <| jc (op_assign lb tR) <| jn <| JC.ret ?_
 obtain rfl := so hm
 exact jd (.val (S rB v_3)) rfl rfl rfl rfl rfl rfl

theorem sim_event_mayVector (k : Nat) (v_1 : (Vector UInt64 16)) (r : Bool) (hm : event_mayVector k v_1 = some r) : Sim Try.prog 58 [A (rV 16 (rU UInt64)) v_1] [] (γ := Unit) (fun q => []) (fun q => .one (.val (S rB r))) := by
 unfold event_mayVector at hm
 refine Sim.of Try.func58 rfl rfl (lE rfl) (fun e0 w0 => ?_)
 refine JC.at ⟨[(0, ov (A (rV 16 (rU UInt64)) v_1))], [], []⟩ <| jr <| jx (op_boxA lb tR) fun gb_2 => jc (op_assign lb .cB) <| jn <| jr <| bI hm fun v_3 hv_3 hm => JL.pre (Imp.frzVar (j := 0) rfl (ImpK.slotP (s := 1) rfl (Comp.self (rV 16 (rU UInt64)) v_1) ImpK.refl)) <| jc (op_sliceP lb tu34 tz29 tR .none .none hv_3) <| bI hm fun v_4 hv_4 hm => jx (op_call (js := []) ld cl64 (sim_slices_ContainsFuncuint64_uint64 k v_3 v_4 hv_4) .func (.cons tR (.cons .func .nil)) rfl) (fun _ => ?_)
 refine lI hm fun v_5 hv_5 hm => jc (op_not lb tR hv_5) <| jc (op_assign lb tR) <| jn <| JC.ret ?_
 obtain rfl := so hm
 exact jd (.val (S rB v_5)) rfl rfl rfl rfl rfl rfl

theorem sim_event_MayName (k : Nat) (s_1 : (List UInt8)) (r : Bool) (hm : event_MayName k s_1 = some r) : Sim Try.prog 59 [S rS s_1] [] (γ := Unit) (fun q => []) (fun q => .one (.val (S rB r))) := by
 unfold event_MayName at hm
 refine Sim.of Try.func59 rfl rfl (lE rfl) (fun e0 w0 => ?_)
 refine JC.at ⟨[(0, ov (S rS s_1))], [], []⟩ <| jr <| jc (op_assign lb .cB) <| jn <| bI hm fun x_5 hx1 hq1 => JC.seqJ (γ := Unit) (stj := fun _ => ⟨[(2, ov (S rB x_5))], [], []⟩) (fun _ => ?_) ?_
 · refine JC.ret ?_
   obtain rfl := so hq1
   exact jd (.val (S rB x_5)) rfl rfl rfl rfl rfl rfl
 refine JC.region <| jmv rfl rfl <| jc (op_lenS lb tu9 tR) <| lI hx1 fun v_2 hv_2 hx1 => jc (op_cmpI lb tR .cI (cs hv_2)) <| jmv rfl rfl <| jT (ov (S rS s_1)) rfl rfl rfl rfl (fun hq_2 => op_move lb tR) <| jT (ov (S (rI .i64) (List.length s_1 : Int))) rfl rfl rfl rfl (fun hq_3 => op_lenS lb tu9 (HasO.cnd tR hq_3)) <| lI hx1 fun v_3 hv_3 hx1 => jT (ov (S rB v_3)) rfl rfl rfl rfl (fun hq_4 => op_cmpI lb (HasO.cnd tR hq_4) .cI (cs hv_3)) <| lI hx1 fun v_4 hv_4 hx1 => jc (op_pickCS lb tR (fun hb5 => (HasO.cnd tR hb5)) (fun hb5 => .cB) hv_4) <| jc (op_assign lb tR) <| JL.nil ?_
 try obtain rfl := so hx1
 exact jo rfl rfl rfl

theorem sim_cmp_isNaNint (k : Nat) (x_1 : Int) (r : Bool) (hm : cmp_isNaNint k x_1 = some r) : Sim Try.prog 54 [S (rI .i64) x_1] [] (γ := Unit) (fun q => []) (fun q => .one (.val (S rB r))) := by
 unfold cmp_isNaNint at hm
 refine Sim.of Try.func54 rfl rfl (lE rfl) (fun e0 w0 => ?_)
 refine JC.at ⟨[(0, ov (S (rI .i64) x_1))], [], []⟩ <| jr <| jc (op_assign lb .cB) <| jn <| jr <| jmv rfl rfl <| jmv rfl rfl <| lI hm fun v_2 hv_2 hm => jc (op_cmpI lb tR tR (cs hv_2)) <| jc (op_assign lb tR) <| jn <| JC.ret ?_
 obtain rfl := so hm
 exact jd (.val (S rB v_2)) rfl rfl rfl rfl rfl rfl

theorem sim_cmp_Compareint (k : Nat) (x_1 : Int) (y_2 : Int) (r : Int) (hm : cmp_Compareint k x_1 y_2 = some r) : Sim Try.prog 36 [S (rI .i64) x_1, S (rI .i64) y_2] [] (γ := Unit) (fun q => []) (fun q => .one (.val (S (rI .i64) r))) := by
 unfold cmp_Compareint at hm
 refine Sim.of Try.func36 rfl rfl (lE rfl) (fun e0 w0 => ?_)
 refine JC.at ⟨[(0, ov (S (rI .i64) x_1)), (1, ov (S (rI .i64) y_2))], [], []⟩ <| jr <| jc (op_assign lb .cI) <| jn <| jr <| jmv rfl rfl <| bI hm fun v_3 hv_3 hm => jx (op_call (js := []) ld cl54 (sim_cmp_isNaNint k x_1 v_3 hv_3) .func (.cons tR .nil) rfl) fun _ => jc (op_assign lb tR) <| jn <| jr <| jmv rfl rfl <| bI hm fun v_4 hv_4 hm => jx (op_call (js := []) ld cl54 (sim_cmp_isNaNint k y_2 v_4 hv_4) .func (.cons tR .nil) rfl) fun _ => jc (op_assign lb tR) <| jn <| JC.seq <| jr <| jmv rfl rfl <| jn ?_
 refine jif tR hm (fun hc1 hm => ?_) (fun hc1 hm => ?_)
 · refine JC.seq <| jr <| jmv rfl rfl <| jn <| jif tR hm (fun hc2 hm => ?_) (fun hc2 hm => ?_)
   · refine jr <| jc (op_assign lb .cI) <| jn <| JC.ret <| JQ.outR <| JQ.outR ?_
     obtain rfl := so hm
     exact jd (.val (S (rI .i64) (0 : Int))) rfl rfl rfl rfl rfl rfl
   refine JC.skip <| JQ.then <| jr <| jc (op_assign lb .cI) <| jn <| JC.ret <| JQ.outR ?_
   obtain rfl := so hm
   exact jd (.val (S (rI .i64) (-1 : Int))) rfl rfl rfl rfl rfl rfl
 refine JC.skip <| JQ.then <| JC.seq <| jr <| jmv rfl rfl <| jn <| jif tR hm (fun hc3 hm => ?_) (fun hc3 hm => ?_)
 · refine jr <| jc (op_assign lb .cI) <| jn <| JC.ret <| JQ.outR ?_
   obtain rfl := so hm
   exact jd (.val (S (rI .i64) (1 : Int))) rfl rfl rfl rfl rfl rfl
 refine JC.skip <| JQ.then <| JC.seq <| jr <| jmv rfl rfl <| jmv rfl rfl <| lI hm fun v_5 hv_5 hm => jc (op_cmpI lb tR tR (cs hv_5)) <| JL.sub ⟨[(0, ov (S (rI .i64) x_1)), (1, ov (S (rI .i64) y_2)), (16, ov (S rB v_5))], [], []⟩ (.cons rfl (.cons rfl (.cons rfl .nil))) rfl rfl <| jn <| jif tR hm (fun hc4 hm => ?_) (fun hc4 hm => ?_)
 · refine jr <| jc (op_assign lb .cI) <| jn <| JC.ret <| JQ.outR ?_
   obtain rfl := so hm
   exact jd (.val (S (rI .i64) (-1 : Int))) rfl rfl rfl rfl rfl rfl
 refine JC.skip <| JQ.then <| JC.seq <| jr <| jmv rfl rfl <| jmv rfl rfl <| lI hm fun v_6 hv_6 hm => jc (op_cmpI lb tR tR (cs hv_6)) <| jn <| jif tR hm (fun hc5 hm => ?_) (fun hc5 hm => ?_)
 · refine jr <| jc (op_assign lb .cI) <| jn <| JC.ret <| JQ.outR ?_
   obtain rfl := so hm
   exact jd (.val (S (rI .i64) (1 : Int))) rfl rfl rfl rfl rfl rfl
 refine JC.skip <| JQ.then <| jr <| jc (op_assign lb .cI) <| jn <| JC.ret ?_
 obtain rfl := so hm
 exact jd (.val (S (rI .i64) (0 : Int))) rfl rfl rfl rfl rfl rfl

theorem sim_cmp_isNaNuint64 (k : Nat) (x_1 : UInt64) (r : Bool) (hm : cmp_isNaNuint64 k x_1 = some r) : Sim Try.prog 55 [S (rU UInt64) x_1] [] (γ := Unit) (fun q => []) (fun q => .one (.val (S rB r))) := by
 unfold cmp_isNaNuint64 at hm
 refine Sim.of Try.func55 rfl rfl (lE rfl) (fun e0 w0 => ?_)
 refine JC.at ⟨[(0, ov (S (rU UInt64) x_1))], [], []⟩ <| jr <| jc (op_assign lb .cB) <| jn <| jr <| jmv rfl rfl <| jmv rfl rfl <| lI hm fun v_2 hv_2 hm => jc (op_cmpU lb tR tR (cs hv_2)) <| jc (op_assign lb tR) <| jn <| JC.ret ?_
 obtain rfl := so hm
 exact jd (.val (S rB v_2)) rfl rfl rfl rfl rfl rfl

theorem sim_cmp_Compareuint64 (k : Nat) (x_1 : UInt64) (y_2 : UInt64) (r : Int) (hm : cmp_Compareuint64 k x_1 y_2 = some r) : Sim Try.prog 37 [S (rU UInt64) x_1, S (rU UInt64) y_2] [] (γ := Unit) (fun q => []) (fun q => .one (.val (S (rI .i64) r))) := by
 unfold cmp_Compareuint64 at hm
 refine Sim.of Try.func37 rfl rfl (lE rfl) (fun e0 w0 => ?_)
 refine JC.at ⟨[(0, ov (S (rU UInt64) x_1)), (1, ov (S (rU UInt64) y_2))], [], []⟩ <| jr <| jc (op_assign lb .cI) <| jn <| jr <| jmv rfl rfl <| bI hm fun v_3 hv_3 hm => jx (op_call (js := []) ld cl55 (sim_cmp_isNaNuint64 k x_1 v_3 hv_3) .func (.cons tR .nil) rfl) fun _ => jc (op_assign lb tR) <| jn <| jr <| jmv rfl rfl <| bI hm fun v_4 hv_4 hm => jx (op_call (js := []) ld cl55 (sim_cmp_isNaNuint64 k y_2 v_4 hv_4) .func (.cons tR .nil) rfl) fun _ => jc (op_assign lb tR) <| jn <| JC.seq <| jr <| jmv rfl rfl <| jn ?_
 refine jif tR hm (fun hc1 hm => ?_) (fun hc1 hm => ?_)
 · refine JC.seq <| jr <| jmv rfl rfl <| jn <| jif tR hm (fun hc2 hm => ?_) (fun hc2 hm => ?_)
   · refine jr <| jc (op_assign lb .cI) <| jn <| JC.ret <| JQ.outR <| JQ.outR ?_
     obtain rfl := so hm
     exact jd (.val (S (rI .i64) (0 : Int))) rfl rfl rfl rfl rfl rfl
   refine JC.skip <| JQ.then <| jr <| jc (op_assign lb .cI) <| jn <| JC.ret <| JQ.outR ?_
   obtain rfl := so hm
   exact jd (.val (S (rI .i64) (-1 : Int))) rfl rfl rfl rfl rfl rfl
 refine JC.skip <| JQ.then <| JC.seq <| jr <| jmv rfl rfl <| jn <| jif tR hm (fun hc3 hm => ?_) (fun hc3 hm => ?_)
 · refine jr <| jc (op_assign lb .cI) <| jn <| JC.ret <| JQ.outR ?_
   obtain rfl := so hm
   exact jd (.val (S (rI .i64) (1 : Int))) rfl rfl rfl rfl rfl rfl
 refine JC.skip <| JQ.then <| JC.seq <| jr <| jmv rfl rfl <| jmv rfl rfl <| lI hm fun v_5 hv_5 hm => jc (op_cmpU lb tR tR (cs hv_5)) <| JL.sub ⟨[(0, ov (S (rU UInt64) x_1)), (1, ov (S (rU UInt64) y_2)), (16, ov (S rB v_5))], [], []⟩ (.cons rfl (.cons rfl (.cons rfl .nil))) rfl rfl <| jn <| jif tR hm (fun hc4 hm => ?_) (fun hc4 hm => ?_)
 · refine jr <| jc (op_assign lb .cI) <| jn <| JC.ret <| JQ.outR ?_
   obtain rfl := so hm
   exact jd (.val (S (rI .i64) (-1 : Int))) rfl rfl rfl rfl rfl rfl
 refine JC.skip <| JQ.then <| JC.seq <| jr <| jmv rfl rfl <| jmv rfl rfl <| lI hm fun v_6 hv_6 hm => jc (op_cmpU lb tR tR (cs hv_6)) <| jn <| jif tR hm (fun hc5 hm => ?_) (fun hc5 hm => ?_)
 · refine jr <| jc (op_assign lb .cI) <| jn <| JC.ret <| JQ.outR ?_
   obtain rfl := so hm
   exact jd (.val (S (rI .i64) (1 : Int))) rfl rfl rfl rfl rfl rfl
 refine JC.skip <| JQ.then <| jr <| jc (op_assign lb .cI) <| jn <| JC.ret ?_
 obtain rfl := so hm
 exact jd (.val (S (rI .i64) (0 : Int))) rfl rfl rfl rfl rfl rfl

theorem sim_cmp_Orint (k : Nat) (vals_1 : (List Int)) (r : Int) (hm : cmp_Orint k vals_1 = some r) : Sim Try.prog 35 [S (rL (rI .i64)) vals_1] [] (γ := Unit) (fun q => []) (fun q => .one (.val (S (rI .i64) r))) := by
 unfold cmp_Orint at hm
 refine Sim.of Try.func35 rfl rfl (lE rfl) (fun e0 w0 => ?_)
 refine JC.at ⟨[(0, ov (S (rL (rI .i64)) vals_1))], [], []⟩ <| jr <| jc (op_assign lb .cI) <| jn <| jr <| jc (op_assign lb .cI) <| jn <| bI hm fun tv1 hx1 hq1 => JC.seqK (α := Unit) (γ := Unit) (stj := fun v q => ⟨[(3, ov (S (rI .i64) (0 : Int)))], [], []⟩) (p := fun v => tv1 = (.inl v)) (fun v q hv => ?_) ?_
 · subst hv
   skip
   obtain _ := q
   dsimp only at hq1
   refine JC.at ⟨[(3, ov (S (rI .i64) (0 : Int)))], [], []⟩ <| jr <| jmv rfl rfl <| jc (op_assign lb tR) <| jn <| JC.ret ?_
   obtain rfl := so hq1
   exact jd (.val (S (rI .i64) (0 : Int))) rfl rfl rfl rfl rfl rfl
 refine jr <| jmv rfl rfl <| jc (op_lenL lb tu50 tR) <| jc (op_move lb .cI) <| jn <| JC.block <| bI hx1 fun tv2 hL2 hq2 => JC.pre ?_ (JC.loop (γ := Unit) (stf := fun s q => ⟨[(3, ov (S (rI .i64) (0 : Int))), (6, ov (S (rL (rI .i64)) vals_1)), (7, ov (S (rI .i64) (List.length vals_1 : Int))), (8, ov (S (rI .i64) s))], [], []⟩) (q := ()) hL2 ?_)
 · exact (Imp.norm (js := []) rfl (.cons rfl (.cons rfl (.cons rfl (.cons rfl .nil)))))
 intro x_2 q x hx hr
 obtain _ := q
 change cmp_Orint.b1 k vals_1 x_2 = some x at hx
 unfold cmp_Orint.b1 at hx
 refine JC.at ⟨[(3, ov (S (rI .i64) (0 : Int))), (6, ov (S (rL (rI .i64)) vals_1)), (7, ov (S (rI .i64) (List.length vals_1 : Int))), (8, ov (S (rI .i64) x_2))], [], []⟩ <| jr <| lI hx fun v_3 hv_3 hx => jc (op_cmpI lb tR tR (cs hv_3)) <| jn <| JC.seq <| jif tR hx (fun hc3 hx => ?_) (fun hc3 hx => ?_)
 · refine JC.skip <| JQ.then <| JC.seq <| JC.block <| jr <| bI hx fun v_4 hv_4 hx => jc (op_indexAddrLg lb tu50 tz3 tR tR hv_4) <| jc (op_loadPSg lb tS3 rfl tR rfl) <| jc (op_assign lb tR) <| jn <| jr <| jmv rfl rfl <| jmv rfl rfl <| lI hx fun v_5 hv_5 hx => jc (op_cmpI lb tR tR (cs hv_5)) <| jn <| jif tR hx (fun hc4 hx => ?_) (fun hc4 hx => ?_)
   · refine jr <| jmv rfl rfl <| jc (op_assign lb tR) <| jn <| JC.ret <| JQ.outRB <| JQ.outR ?_
     try obtain rfl := so hx
     try obtain rfl := hr _ rfl
     dsimp only at hq2
     refine JQ.outR <| JQ.outRB ?_
     try obtain rfl := so hq2
     dsimp only at hq1
     refine JQ.outR ?_
     obtain rfl := so hq1
     exact jd (.val (S (rI .i64) v_4)) rfl rfl rfl rfl rfl rfl
   refine JC.skip <| JQ.outNB <| JQ.then <| JC.region <| lI hx fun v_6 hv_6 hx => jc (op_arI lb tR .cI (cs hv_6)) <| jmv rfl rfl <| JL.nil ?_
   try obtain rfl := so hx
   exact JQ.next () rfl (Imp.norm (js := []) rfl (.cons rfl (.cons rfl (.cons rfl (.cons rfl .nil)))))
 refine JC.exit <| JQ.outX ?_
 try obtain rfl := so hx
 try obtain rfl := hr _ rfl
 dsimp only at hq2
 refine JQ.outX <| JQ.here ?_
 try obtain rfl := so hq2
 exact JQ.joinK () () rfl (Imp.norm (js := []) rfl (.cons rfl .nil))

theorem sim_event_Less (k : Nat) (a_1 : api_Dot) (b_2 : api_Dot) (r : Bool) (hm : event_Less k a_1 b_2 = some r) : Sim Try.prog 60 [A r_api_Dot a_1, A r_api_Dot b_2] [] (γ := Unit) (fun q => []) (fun q => .one (.val (S rB r))) := by
 unfold event_Less at hm
 refine Sim.of Try.func60 rfl rfl (lE rfl) (fun e0 w0 => ?_)
 refine JC.at ⟨[(0, ov (A r_api_Dot a_1)), (1, ov (A r_api_Dot b_2))], [], []⟩ <| jr <| jx (op_boxA lb tR) fun gb_3 => jx (op_boxA lb tR) fun gb_4 => jc (op_assign lb .cB) <| jn <| JC.seq <| bI hm fun v_5 hv_5 hm => bI hm fun v_6 hv_6 hm => bI hm fun v_7 hv_7 hm => ?_
 obtain ⟨v_8, hv_8, hm⟩ := lt1_inv hm
 refine JC.anyF (base := [(2, ov (PTR gb_3 0)), (3, ov (PTR gb_4 0))])
     (fs := fun γ => [⟨some 5, ov (PTR gb_3 (0 + 0))⟩, ⟨some 6, ov (S (rI .i64) a_1.Region)⟩, ⟨some 7, ov (PTR gb_4 (0 + 0))⟩, ⟨some 8, ov (S (rI .i64) b_2.Region)⟩, ⟨some 9, ov (S (rI .i64) v_5)⟩, ⟨some 10, ov (PTR gb_3 (0 + 1))⟩, ⟨some 11, ov (S (rU UInt64) a_1.Count)⟩, ⟨some 12, ov (PTR gb_4 (0 + 1))⟩, ⟨some 13, ov (S (rU UInt64) b_2.Count)⟩, ⟨some 14, ov (S (rI .i64) v_6)⟩, ⟨some 15, ov (S (rL (rI .i64)) ([v_5, v_6] : (List Int)))⟩, ⟨some 16, ov (S (rI .i64) v_7)⟩, ⟨some 17, ov (S rB v_8)⟩, ⟨some 4, ov (S rB v_8)⟩])
     (rs := fun γ => [⟨cvar gb_3 r_api_Dot a_1, none, none, [1, 6]⟩, ⟨cvar gb_4 r_api_Dot b_2, none, none, [3, 8]⟩])
     (afts := nn 14) (js := [0, 0]) mixed (.cons rfl (.cons rfl .nil)) (fun _ => rfl)
     (by
      refine dS 1 (fun γ ρ B hb hd => op_fieldAddr (off := 0) lb tf31_0 (.tmp (hb 2 _ rfl))) <| dR 2 (fun γ ρ B hb hd => OpStep.lk ⟨ρ, (cvar gb_3 r_api_Dot a_1) :: B, _⟩ (op_loadS (j := 0) lb tS3 (tl hd 0 5) rfl (cT (comp_api_Dot_Region a_1) rfl) rfl rfl)) <| dS 3 (fun γ ρ B hb hd => op_fieldAddr (off := 0) lb tf31_0 (.tmp (hb 3 _ rfl))) <| dR 4 (fun γ ρ B hb hd => OpStep.lk ⟨ρ, (cvar gb_4 r_api_Dot b_2) :: B, _⟩ (op_loadS (j := 0) lb tS3 (tl hd 2 7) rfl (cT (comp_api_Dot_Region b_2) rfl) rfl rfl)) <| dS 5 (fun γ ρ B hb hd => (op_call (js := []) ld cl36 (sim_cmp_Compareint k a_1.Region b_2.Region v_5 hv_5) .func (.cons (tl hd 1 6) (.cons (tl hd 3 8) .nil)) rfl).post (fun _ => Imp.refl)) ?_
      refine dS 6 (fun γ ρ B hb hd => op_fieldAddr (off := 1) lb tf31_1 (.tmp (hb 2 _ rfl))) <| dR 7 (fun γ ρ B hb hd => OpStep.lk ⟨ρ, (cvar gb_3 r_api_Dot a_1) :: B, _⟩ (op_loadS (j := 0) lb tS29 (tl hd 5 10) rfl (cT (comp_api_Dot_Count a_1) rfl) rfl rfl)) <| dS 8 (fun γ ρ B hb hd => op_fieldAddr (off := 1) lb tf31_1 (.tmp (hb 3 _ rfl))) <| dR 9 (fun γ ρ B hb hd => OpStep.lk ⟨ρ, (cvar gb_4 r_api_Dot b_2) :: B, _⟩ (op_loadS (j := 0) lb tS29 (tl hd 7 12) rfl (cT (comp_api_Dot_Count b_2) rfl) rfl rfl)) <| dS 10 (fun γ ρ B hb hd => (op_call (js := []) ld cl37 (sim_cmp_Compareuint64 k a_1.Count b_2.Count v_6 hv_6) .func (.cons (tl hd 6 11) (.cons (tl hd 8 13) .nil)) rfl).post (fun _ => Imp.refl)) ?_
      refine dS 11 (fun γ ρ B hb hd => op_buildF (r := (rI .i64)) lb tu50 tz3 tZ3 rfl (lE rfl) (.S rfl (tl hd 4 9) (.S rfl (tl hd 9 14) .nil)) rfl) <| dS 12 (fun γ ρ B hb hd => (op_call (js := []) ld cl35 (sim_cmp_Orint k ([v_5, v_6] : (List Int)) v_7 hv_7) .func (.cons (tl hd 10 15) .nil) rfl).post (fun _ => Imp.refl)) <| dS 13 (fun γ ρ B hb hd => op_cmpI lb (tl hd 11 16) .cI (cs hv_8)) <| dS 14 (fun γ ρ B hb hd => op_assign lb (tl hd 12 17)) ?_
      exact DSteps.nil)
     (by decide +kernel) (fun _ => rfl) (fun _ => rfl) (fun _ => rfl) rfl
     (ρ' := fun γ => [(4, ov (S rB v_8))])
     (X' := fun γ => [cvar gb_3 r_api_Dot a_1, cvar gb_4 r_api_Dot b_2])
     (fun γ ρ hb hd => (.cons (hdq hd 13 4 rfl) .nil)) (fun _ => rfl) (fun γ => ?_)
 refine JQ.at ⟨[(4, ov (S rB v_8))], [cvar gb_3 r_api_Dot a_1, cvar gb_4 r_api_Dot b_2], []⟩ <| JQ.then <| JC.ret ?_
 obtain rfl := so hm
 exact jd (.val (S rB v_8)) rfl rfl rfl rfl rfl rfl

end Go.Proofs.Ytbmimaabgclhjaa
