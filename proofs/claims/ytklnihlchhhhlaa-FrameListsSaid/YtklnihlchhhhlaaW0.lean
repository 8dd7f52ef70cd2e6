/- Walks. -/
import Derived.Test.YtklnihlchhhhlaaT
namespace Go.Proofs.Ytklnihlchhhhlaa
open Go Fw
set_option linter.unusedVariables false
set_option maxRecDepth 100000
set_option maxHeartbeats 4000000

theorem sim_ref11_Long (k : Nat) (l_1 : (List api_Item)) (r : Bool) (hm : ref11_Long k l_1 = some r) : Sim Try.prog 4 [S (rL r_api_Item) l_1] [] (γ := Unit) (fun q => []) (fun q => .one (.val (S rB r))) := by
 unfold ref11_Long at hm
 refine Sim.of Try.func4 rfl rfl (lE rfl) (fun e0 w0 => ?_)
 refine JC.at ⟨[(0, ov (S (rL r_api_Item) l_1))], [], []⟩ ?_
 refine jr <| jc (op_assign lb .cB) <| jn <| jr <| jc (op_assign lb .cI) ?_
 refine jn ?_
 replace hm := bnd_inv hm
 obtain ⟨tv1, hx1, hq1⟩ := hm
 refine JC.seqK (α := Unit) (γ := Unit) (stj := fun v q => ⟨[(0, ov (S (rL r_api_Item) l_1))], [], []⟩) (p := fun v => tv1 = (.inl v)) (fun v q hv => ?_) ?_
 · subst hv
   skip
   obtain _ := q
   dsimp only at hq1
   refine JC.at ⟨[(0, ov (S (rL r_api_Item) l_1))], [], []⟩ ?_
   refine jr <| jmv rfl rfl <| jc (op_lenL lb tu22 (.tmp rfl)) ?_
   replace hq1 := lt1_inv hq1
   obtain ⟨v_16, hv_v_16, hq1⟩ := hq1
   refine jc (op_cmpI lb (.tmp rfl) .cI (congrArg some hv_v_16)) <| jc (op_assign lb (.tmp rfl)) <| jn ?_
   refine JC.ret ?_
   replace hq1 := Option.some.inj hq1
   subst hq1
   exact JQ.done (js := []) (ss := [.val (S rB v_16)]) () (.inl rfl) (.nil rfl) rfl (.cons (.tmp rfl) .nil) rfl rfl rfl
 refine jr <| jc (op_assign lb .cI) <| jn <| JC.block ?_
 replace hx1 := bnd_inv hx1
 obtain ⟨tv2, hL2, hq2⟩ := hx1
 refine JC.pre ?_ (JC.loop (γ := Unit) (stf := fun s q => ⟨[(0, ov (S (rL r_api_Item) l_1)), (3, ov (S (rI .i64) s.1)), (4, ov (S (rI .i64) s.2))], [], []⟩) (q := ()) hL2 ?_)
 · exact (Imp.norm (js := []) rfl (.cons rfl (.cons rfl (.cons rfl .nil))))
 intro s q x hx hr
 obtain ⟨n_2, i_3⟩ := s
 obtain _ := q
 change ref11_Long.b1 k l_1 n_2 i_3 = some x at hx
 unfold ref11_Long.b1 at hx
 refine JC.at ⟨[(0, ov (S (rL r_api_Item) l_1)), (3, ov (S (rI .i64) n_2)), (4, ov (S (rI .i64) i_3))], [], []⟩ ?_
 refine JC.seq ?_
 replace hx := bnd_inv hx
 obtain ⟨x_7, hx3, hq3⟩ := hx
 refine JC.seqJ (γ := Unit) (stj := fun _ => ⟨[(0, ov (S (rL r_api_Item) l_1)), (3, ov (S (rI .i64) n_2)), (4, ov (S (rI .i64) i_3)), (12, ov (S rB x_7))], [], []⟩) (fun _ => ?_) ?_
 · replace hq3 := iteB_inv hq3
   rcases hq3 with ⟨hc7, hq3⟩ | ⟨hc7, hq3⟩
   · refine JC.condT (.tmp rfl) hc7 ?_
     refine JC.skip ?_
     refine JQ.then <| JC.seq <| JC.block <| JC.seq ?_
     replace hq3 := bnd_inv hq3
     obtain ⟨v_8, hv_v_8, hq3⟩ := hq3
     replace hq3 := lt1_inv hq3
     obtain ⟨v_9, hv_v_9, hq3⟩ := hq3
     replace hq3 := lt1_inv hq3
     obtain ⟨v_10, hv_v_10, hq3⟩ := hq3
     replace hq3 := bnd_inv hq3
     obtain ⟨v_11, hv_v_11, hq3⟩ := hq3
     replace hq3 := lt1_inv hq3
     obtain ⟨v_12, hv_v_12, hq3⟩ := hq3
     replace hq3 := lt1_inv hq3
     obtain ⟨v_13, hv_v_13, hq3⟩ := hq3
     refine JC.anyE (kl := [3]) (kk := 19) (base := [(0, ov (S (rL r_api_Item) l_1)), (3, ov (S (rI .i64) n_2)), (4, ov (S (rI .i64) i_3))])
         (fs := fun γ => [⟨some 15, ov (S (rI .i64) n_2)⟩, ⟨some 16, ov (S (rL r_api_Item) l_1)⟩, ⟨some 17, ov (S (rI .i64) i_3)⟩, ⟨some 18, ov (PT r_api_Item v_8)⟩, ⟨some 19, ov (PT r_api_Key v_8.Key)⟩, ⟨some 20, ov (PT rS v_8.Key.Topic)⟩, ⟨some 21, ov (S rS v_8.Key.Topic)⟩, ⟨some 22, ov (S (rI .i64) (List.length v_8.Key.Topic : Int))⟩, ⟨some 23, ov (S (rI .i64) v_9)⟩, ⟨some 24, ov (S (rI .i64) v_10)⟩, ⟨some 25, ov (S (rL r_api_Item) l_1)⟩, ⟨some 26, ov (S (rI .i64) i_3)⟩, ⟨some 27, ov (PT r_api_Item v_11)⟩, ⟨some 28, ov (PT r_api_Key v_11.Key)⟩, ⟨some 29, ov (PT rS v_11.Key.Device)⟩, ⟨some 30, ov (S rS v_11.Key.Device)⟩, ⟨some 31, ov (S (rI .i64) (List.length v_11.Key.Device : Int))⟩, ⟨some 32, ov (S (rI .i64) v_12)⟩, ⟨some 33, ov (S (rI .i64) v_13)⟩, ⟨some 3, ov (S (rI .i64) v_13)⟩])
         (rs := fun γ => [])
         (ds := [15, 16, 17, 18, 19, 20, 21, 22, 23, 24, 25, 26, 27, 28, 29, 30, 31, 32, 33, 3]) (bs := [0, 3, 4]) (afts := [[], [], [], [], [], [], [], [], [], [], [], [], [], [], [], [], [], [], [], []]) (js := []) mixed (.cons rfl (.cons rfl (.cons rfl .nil))) (fun _ => rfl)
         (by
      refine dS 1 (fun γ ρ B hb hd => op_move lb (.tmp (hb 3 _ rfl))) <| dS 2 (fun γ ρ B hb hd => op_move lb (.tmp (hb 0 _ rfl))) <| dS 3 (fun γ ρ B hb hd => op_move lb (.tmp (hb 4 _ rfl))) <| dS 4 (fun γ ρ B hb hd => op_indexAddrLg lb tu22 tz33 (tl hd 1 16) (tl hd 2 17) hv_v_8) <| dS 5 (fun γ ρ B hb hd => op_fieldAddrP lb tf33_1 (tl hd 3 18) (comp_api_Item_Key v_8)) ?_
      refine dS 6 (fun γ ρ B hb hd => op_fieldAddrP lb tf31_0 (tl hd 4 19) (comp_api_Key_Topic v_8.Key)) <| dS 7 (fun γ ρ B hb hd => op_loadPSg lb tS9 rfl (tl hd 5 20) rfl) <| dS 8 (fun γ ρ B hb hd => op_lenS lb tu9 (tl hd 6 21)) <| dS 9 (fun γ ρ B hb hd => op_minI lb (tl hd 7 22) .cI hv_v_9) <| dS 10 (fun γ ρ B hb hd => op_arI lb (tl hd 0 15) (tl hd 8 23) (congrArg some hv_v_10)) ?_
      refine dS 11 (fun γ ρ B hb hd => op_move lb (.tmp (hb 0 _ rfl))) <| dS 12 (fun γ ρ B hb hd => op_move lb (.tmp (hb 4 _ rfl))) <| dS 13 (fun γ ρ B hb hd => op_indexAddrLg lb tu22 tz33 (tl hd 10 25) (tl hd 11 26) hv_v_11) <| dS 14 (fun γ ρ B hb hd => op_fieldAddrP lb tf33_1 (tl hd 12 27) (comp_api_Item_Key v_11)) <| dS 15 (fun γ ρ B hb hd => op_fieldAddrP lb tf31_1 (tl hd 13 28) (comp_api_Key_Device v_11.Key)) ?_
      refine dS 16 (fun γ ρ B hb hd => op_loadPSg lb tS9 rfl (tl hd 14 29) rfl) <| dS 17 (fun γ ρ B hb hd => op_lenS lb tu9 (tl hd 15 30)) <| dS 18 (fun γ ρ B hb hd => op_minI lb (tl hd 16 31) .cI hv_v_12) <| dS 19 (fun γ ρ B hb hd => op_arI lb (tl hd 9 24) (tl hd 17 32) (congrArg some hv_v_13)) <| dS 20 (fun γ ρ B hb hd => op_assign lb (tl hd 18 33)) ?_
      exact DSteps.nil)
         (by decide +kernel) (fun _ => rfl) rfl (fun _ => rfl) (fun _ => rfl) rfl (by decide) (by decide) (by decide +kernel) (fun _ d h => by simp at h; subst h; exact ⟨_, rfl, rfl⟩)
         (ρ' := fun γ => [(0, ov (S (rL r_api_Item) l_1)), (3, ov (S (rI .i64) v_13)), (4, ov (S (rI .i64) i_3))])
         (X' := fun γ => [])
         (fun γ ρ hb hd => (.cons (hb 0 _ rfl (by decide)) (.cons (hdq hd 19 3 rfl) (.cons (hb 4 _ rfl (by decide)) .nil)))) (fun _ => rfl) (fun γ => ?_)
     refine JQ.at ⟨[(0, ov (S (rL r_api_Item) l_1)), (3, ov (S (rI .i64) v_13)), (4, ov (S (rI .i64) i_3))], [], []⟩ ?_
     refine JQ.then <| jr <| jmv rfl rfl ?_
     replace hq3 := lt1_inv hq3
     obtain ⟨v_14, hv_v_14, hq3⟩ := hq3
     refine jc (op_cmpI lb (.tmp rfl) .cI (congrArg some hv_v_14)) <| jn ?_
     replace hq3 := iteB_inv hq3
     rcases hq3 with ⟨hc8, hq3⟩ | ⟨hc8, hq3⟩
     · refine JC.condT (.tmp rfl) hc8 ?_
       refine jr <| jc (op_assign lb .cB) <| jn ?_
       refine JC.ret ?_
       refine JQ.outRB ?_
       refine JQ.outR ?_
       replace hq3 := Option.some.inj hq3
       first | subst hq3 | clear hq3
       have ht := hr _ rfl
       clear hr
       first | subst ht | clear ht
       dsimp only at hq2
       refine JQ.outR ?_
       refine JQ.outRB ?_
       replace hq2 := Option.some.inj hq2
       first | subst hq2 | clear hq2
       dsimp only at hq1
       refine JQ.outR ?_
       replace hq1 := Option.some.inj hq1
       subst hq1
       exact JQ.done (js := []) (ss := [.val (S rB true)]) () (.inl rfl) (.nil rfl) rfl (.cons (.tmp rfl) .nil) rfl rfl rfl
     refine JC.condF (.tmp rfl) hc8 ?_
     refine JC.skip ?_
     refine JQ.outNB ?_
     refine JQ.then <| JC.region <| jmv rfl rfl ?_
     replace hq3 := lt1_inv hq3
     obtain ⟨v_15, hv_v_15, hq3⟩ := hq3
     refine jc (op_arI lb (.tmp rfl) .cI (congrArg some hv_v_15)) <| jc (op_assign lb (.tmp rfl)) <| JL.nil ?_
     replace hq3 := Option.some.inj hq3
     first | subst hq3 | clear hq3
     exact JQ.next () rfl (Imp.norm (js := []) rfl (.cons rfl (.cons rfl (.cons rfl .nil))))
   refine JC.condF (.tmp rfl) hc7 ?_
   refine JC.exit ?_
   refine JQ.outX ?_
   replace hq3 := Option.some.inj hq3
   first | subst hq3 | clear hq3
   have ht := hr _ rfl
   clear hr
   first | subst ht | clear ht
   dsimp only at hq2
   refine JQ.outX ?_
   refine JQ.here ?_
   replace hq2 := Option.some.inj hq2
   first | subst hq2 | clear hq2
   exact JQ.joinK () () rfl (Imp.norm (js := []) rfl (.cons rfl .nil))
 refine JC.region <| jmv rfl rfl <| jmv rfl rfl <| jc (op_lenL lb tu22 (.tmp rfl)) ?_
 replace hx3 := lt1_inv hx3
 obtain ⟨v_4, hv_v_4, hx3⟩ := hx3
 refine jc (op_cmpI lb (.tmp rfl) (.tmp rfl) (congrArg some hv_v_4)) <| jmv rfl rfl ?_
 refine JL.cnd (sv := ov (S (rI .i64) i_3)) (Guard.isT (ltB rfl) rfl rfl) rfl (ltB rfl) (fun hq_4 => op_move lb (.tmp rfl)) ?_
 replace hx3 := lt1_inv hx3
 obtain ⟨v_5, hv_v_5, hx3⟩ := hx3
 refine JL.cnd (sv := ov (S rB v_5)) (Guard.isT (ltB rfl) rfl rfl) rfl (ltB rfl) (fun hq_5 => op_cmpI lb (HasO.cnd (.tmp rfl) hq_5) .cI (congrArg some hv_v_5)) ?_
 replace hx3 := lt1_inv hx3
 obtain ⟨v_6, hv_v_6, hx3⟩ := hx3
 refine jc (op_pickCS lb (.tmp rfl) (fun hb6 => (HasO.cnd (.tmp rfl) hb6)) (fun hb6 => .cB) hv_v_6) <| JL.nil ?_
 replace hx3 := Option.some.inj hx3
 first | subst hx3 | clear hx3
 exact JQ.join () (Imp.norm (js := []) rfl (.cons rfl (.cons rfl (.cons rfl (.cons rfl .nil)))))

theorem sim_frame_bare (k : Nat) (t_1 : api_Frame) (r : api_Frame) (hm : frame_bare k t_1 = some r) : Sim Try.prog 22 [A r_api_Frame t_1] [] (γ := Unit) (fun q => []) (fun q => .one (.val (A r_api_Frame r))) := by
 unfold frame_bare at hm
 refine Sim.of Try.func22 rfl rfl (lE rfl) (fun e0 w0 => ?_)
 refine JC.at ⟨[(0, ov (A r_api_Frame t_1))], [], []⟩ ?_
 refine jr ?_
 refine jx (op_boxA lb (.tmp rfl)) (fun q => ?_)
 obtain ⟨gb_2, hqq⟩ : ∃ z, z = q := ⟨_, rfl⟩
 subst hqq
 refine jx (op_alloc lb tZ50 zr50) (fun q => ?_)
 obtain ⟨gb_3, hqq⟩ : ∃ z, z = q := ⟨_, rfl⟩
 subst hqq
 refine jn <| jr <| jc (op_fieldAddr (off := 0) lb tf50_0 (.tmp rfl)) <| jc (op_loadS (j := 0) lb tS38 (.tmp rfl) rfl (cT (comp_api_Frame_Kind t_1) rfl) rfl rfl) <| jc (op_fieldAddr (off := 1) lb tf50_1 (.tmp rfl)) ?_
 refine jc (op_loadS (j := 0) lb tS3 (.tmp rfl) rfl (cT (comp_api_Frame_From t_1) rfl) rfl rfl) <| jc (op_fieldAddr (off := 2) lb tf50_2 (.tmp rfl)) <| jc (op_loadS (j := 0) lb tS3 (.tmp rfl) rfl (cT (comp_api_Frame_To t_1) rfl) rfl rfl) ?_
 refine JL.sub ⟨[(1, ov (PTR gb_2 0)), (2, ov (PTR gb_3 0)), (5, ov (S (rI .i64) t_1.Kind)), (7, ov (S (rI .i64) t_1.From)), (9, ov (S (rI .i64) t_1.To))], [cvar gb_2 r_api_Frame t_1, cvar gb_3 zq0 zq1], []⟩ (.cons rfl (.cons rfl (.cons rfl (.cons rfl (.cons rfl .nil))))) rfl rfl ?_
 refine jc (op_build lb tZ50 zr50 tp50 (.S (off := 0) rfl (.tmp rfl) rfl ((UpdR.fst (UpdR.self (by rfl))).at (by rfl)) (.S (off := 1) rfl (.tmp rfl) rfl ((UpdR.snd (UpdR.fst (UpdR.self (by rfl)))).at (by rfl)) (.S (off := 2) rfl (.tmp rfl) rfl ((UpdR.snd (UpdR.snd (UpdR.fst (UpdR.self (by rfl))))).at (by rfl)) .nil))) rfl) ?_
 refine jx (op_alloc lb tZ50 zr50) (fun q => ?_)
 obtain ⟨gb_4, hqq⟩ : ∃ z, z = q := ⟨_, rfl⟩
 subst hqq
 refine jc (op_storeA (j := 2) tA50 (.tmp rfl) (.tmp rfl) rfl (UpdR.self (by rfl)) rfl) <| jn ?_
 replace hm := bnd_inv hm
 obtain ⟨x_12, hx1, hq1⟩ := hm
 refine JC.seqJ (γ := Unit) (stj := fun _ => ⟨[(2, ov (PTR gb_3 0)), (3, ov (PTR gb_4 0))], [cvar gb_3 zq0 zq1, cvar gb_4 r_api_Frame x_12], []⟩) (fun _ => ?_) ?_
 · refine jr <| jc (op_loadA (j := 1) lb tA50 (.tmp rfl) rfl (Comp.self r_api_Frame x_12) rfl) <| jc (op_storeA (j := 0) tA50 (.tmp rfl) (.tmp rfl) rfl (UpdR.self (by rfl)) rfl) <| jn ?_
   refine JC.ret ?_
   replace hq1 := Option.some.inj hq1
   subst hq1
   exact JQ.done (js := []) (ss := [.val (A r_api_Frame x_12)]) () (.inl rfl) (.nil rfl) rfl (.cons (.cellA (j := 0) tA50 rfl rfl) .nil) rfl rfl rfl
 refine jr <| jc (op_fieldAddr (off := 0) lb tf50_0 (.tmp rfl)) <| jc (op_loadS (j := 0) lb tS38 (.tmp rfl) rfl (cT (comp_api_Frame_Kind t_1) rfl) rfl rfl) <| jn <| JC.block ?_
 refine jr ?_
 replace hx1 := lt1_inv hx1
 obtain ⟨v_5, hv_v_5, hx1⟩ := hx1
 refine jc (op_cmpI lb (.tmp rfl) .cI (congrArg some hv_v_5)) <| jc (op_assign lb (.tmp rfl)) <| jn ?_
 replace hx1 := iteB_inv hx1
 rcases hx1 with ⟨hc2, hx1⟩ | ⟨hc2, hx1⟩
 · refine JC.condT (.tmp rfl) hc2 ?_
   refine JC.region <| jc (op_fieldAddr (off := 3) lb tf50_3 (.tmp rfl)) ?_
   refine JL.sub ⟨[(2, ov (PTR gb_3 0)), (3, ov (PTR gb_4 0)), (15, ov (PTR gb_2 (0 + 3)))], [cvar gb_2 r_api_Frame t_1, cvar gb_3 zq0 zq1, cvar gb_4 zq0 (zq2 t_1)], []⟩ (.cons rfl (.cons rfl (.cons rfl .nil))) rfl rfl ?_
   refine jc (op_loadS (j := 0) lb tS22 (.tmp rfl) rfl (cT (comp_api_Frame_Items t_1) rfl) rfl rfl) <| jc (op_fieldAddr (off := 3) lb tf50_3 (.tmp rfl)) <| jc (op_storeS (j := 2) tS22 (.tmp rfl) (.tmp rfl) rfl rfl ((UpdR.snd (UpdR.snd (UpdR.snd (UpdR.fst (UpdR.self (by rfl)))))).at (by change (1 + (1 + (1 + 0))) = (0 + 3); omega)) rfl) <| JL.nil ?_
   refine JQ.outNB ?_
   replace hx1 := Option.some.inj hx1
   first | subst hx1 | clear hx1
   refine JQ.pre (Imp.var (j := 2) (q := r_api_Frame) (y := (api_Frame.mk t_1.Kind t_1.From t_1.To t_1.Items (api_Event.mk (api_Dot.mk (0 : Int) (0 : UInt64)) ([] : (List UInt8)) ([] : (List UInt8)) (Vector.replicate 16 (0 : UInt64)) ([] : (List api_Dest))) (Vector.replicate 16 (0 : UInt64)) (Vector.replicate 16 (0 : UInt64)) ([] : (List api_Dot)) ([] : (List api_Dot)) (Vector.replicate 32 (0 : UInt8)) ([] : (List (Vector UInt8 32))) ([] : (List Int)) false)) rfl (Wk.st (Wk.pair Wk.refl (Wk.pair Wk.refl (Wk.pair Wk.refl (Wk.pair Wk.refl (Wk.pair (Wk.st (Wk.pair Wk.refl (Wk.pair Wk.refl (Wk.pair Wk.nil (Wk.pair Wk.refl (Wk.pair Wk.nil Wk.refl)))))) (Wk.pair Wk.refl (Wk.pair Wk.refl (Wk.pair Wk.nil (Wk.pair Wk.nil (Wk.pair Wk.refl (Wk.pair Wk.nil (Wk.pair Wk.nil (Wk.pair Wk.refl Wk.refl))))))))))))))) ?_
   exact JQ.join () (Imp.norm (js := [1, 1]) rfl (.cons rfl (.cons rfl .nil)))
 refine JC.condF (.tmp rfl) hc2 ?_
 refine jr ?_
 replace hx1 := lt1_inv hx1
 obtain ⟨v_6, hv_v_6, hx1⟩ := hx1
 refine jc (op_cmpI lb (.tmp rfl) .cI (congrArg some hv_v_6)) ?_
 refine JL.sub ⟨[(1, ov (PTR gb_2 0)), (2, ov (PTR gb_3 0)), (3, ov (PTR gb_4 0)), (12, ov (S (rI .i64) t_1.Kind)), (19, ov (S rB v_6))], [cvar gb_2 r_api_Frame t_1, cvar gb_3 zq0 zq1, cvar gb_4 zq0 (zq2 t_1)], []⟩ (.cons rfl (.cons rfl (.cons rfl (.cons rfl (.cons rfl .nil))))) rfl rfl ?_
 refine jc (op_assign lb (.tmp rfl)) <| jn ?_
 replace hx1 := iteB_inv hx1
 rcases hx1 with ⟨hc3, hx1⟩ | ⟨hc3, hx1⟩
 · refine JC.condT (.tmp rfl) hc3 ?_
   refine JC.region <| jc (op_fieldAddr (off := 4) lb tf50_4 (.tmp rfl)) <| jc (op_loadA (j := 0) lb tA43 (.tmp rfl) rfl (cT (comp_api_Frame_Event t_1) rfl) rfl) <| jc (op_fieldAddr (off := 4) lb tf50_4 (.tmp rfl)) <| jc (op_storeA (j := 2) tA43 (.tmp rfl) (.tmp rfl) rfl ((UpdR.snd (UpdR.snd (UpdR.snd (UpdR.snd (UpdR.fst (UpdR.self (by rfl))))))).at (by change (1 + (1 + (1 + (1 + 0)))) = (0 + 4); omega)) rfl) ?_
   refine JL.nil ?_
   refine JQ.outNB ?_
   replace hx1 := Option.some.inj hx1
   first | subst hx1 | clear hx1
   refine JQ.pre (Imp.var (j := 2) (q := r_api_Frame) (y := (api_Frame.mk t_1.Kind t_1.From t_1.To ([] : (List api_Item)) t_1.Event (Vector.replicate 16 (0 : UInt64)) (Vector.replicate 16 (0 : UInt64)) ([] : (List api_Dot)) ([] : (List api_Dot)) (Vector.replicate 32 (0 : UInt8)) ([] : (List (Vector UInt8 32))) ([] : (List Int)) false)) rfl (Wk.st (Wk.pair Wk.refl (Wk.pair Wk.refl (Wk.pair Wk.refl (Wk.pair Wk.nil (Wk.pair Wk.refl (Wk.pair Wk.refl (Wk.pair Wk.refl (Wk.pair Wk.nil (Wk.pair Wk.nil (Wk.pair Wk.refl (Wk.pair Wk.nil (Wk.pair Wk.nil (Wk.pair Wk.refl Wk.refl))))))))))))))) ?_
   exact JQ.join () (Imp.norm (js := [1, 1]) rfl (.cons rfl (.cons rfl .nil)))
 refine JC.condF (.tmp rfl) hc3 ?_
 refine jr ?_
 replace hx1 := lt1_inv hx1
 obtain ⟨v_7, hv_v_7, hx1⟩ := hx1
 refine jc (op_cmpI lb (.tmp rfl) .cI (congrArg some hv_v_7)) <| jc (op_assign lb (.tmp rfl)) <| jn ?_
 replace hx1 := iteB_inv hx1
 rcases hx1 with ⟨hc4, hx1⟩ | ⟨hc4, hx1⟩
 · refine JC.condT (.tmp rfl) hc4 ?_
   refine JC.region <| jc (op_fieldAddr (off := 25) lb tf50_5 (.tmp rfl)) <| jc (op_loadA (j := 0) lb tA40 (.tmp rfl) rfl (cT (comp_api_Frame_Past t_1) rfl) rfl) <| jc (op_fieldAddr (off := 25) lb tf50_5 (.tmp rfl)) <| jc (op_storeA (j := 2) tA40 (.tmp rfl) (.tmp rfl) rfl ((UpdR.snd (UpdR.snd (UpdR.snd (UpdR.snd (UpdR.snd (UpdR.fst (UpdR.self (by rfl)))))))).at (by change (1 + (1 + (1 + (1 + (21 + 0))))) = (0 + 25); omega)) rfl) ?_
   refine JL.nil ?_
   refine JQ.outNB ?_
   replace hx1 := Option.some.inj hx1
   first | subst hx1 | clear hx1
   refine JQ.pre (Imp.var (j := 2) (q := r_api_Frame) (y := (api_Frame.mk t_1.Kind t_1.From t_1.To ([] : (List api_Item)) (api_Event.mk (api_Dot.mk (0 : Int) (0 : UInt64)) ([] : (List UInt8)) ([] : (List UInt8)) (Vector.replicate 16 (0 : UInt64)) ([] : (List api_Dest))) t_1.Past (Vector.replicate 16 (0 : UInt64)) ([] : (List api_Dot)) ([] : (List api_Dot)) (Vector.replicate 32 (0 : UInt8)) ([] : (List (Vector UInt8 32))) ([] : (List Int)) false)) rfl (Wk.st (Wk.pair Wk.refl (Wk.pair Wk.refl (Wk.pair Wk.refl (Wk.pair Wk.nil (Wk.pair (Wk.st (Wk.pair Wk.refl (Wk.pair Wk.refl (Wk.pair Wk.nil (Wk.pair Wk.refl (Wk.pair Wk.nil Wk.refl)))))) (Wk.pair Wk.refl (Wk.pair Wk.refl (Wk.pair Wk.nil (Wk.pair Wk.nil (Wk.pair Wk.refl (Wk.pair Wk.nil (Wk.pair Wk.nil (Wk.pair Wk.refl Wk.refl))))))))))))))) ?_
   exact JQ.join () (Imp.norm (js := [1, 1]) rfl (.cons rfl (.cons rfl .nil)))
 refine JC.condF (.tmp rfl) hc4 ?_
 refine jr ?_
 replace hx1 := lt1_inv hx1
 obtain ⟨v_8, hv_v_8, hx1⟩ := hx1
 refine jc (op_cmpI lb (.tmp rfl) .cI (congrArg some hv_v_8)) <| jc (op_assign lb (.tmp rfl)) <| jn ?_
 replace hx1 := iteB_inv hx1
 rcases hx1 with ⟨hc5, hx1⟩ | ⟨hc5, hx1⟩
 · refine JC.condT (.tmp rfl) hc5 ?_
   refine JC.anyE (kl := []) (kk := 0) (base := [(1, ov (PTR gb_2 0)), (2, ov (PTR gb_3 0)), (3, ov (PTR gb_4 0))])
       (fs := fun γ => [⟨some 30, ov (PTR gb_2 (0 + 41))⟩, ⟨some 31, ov (A (rV 16 (rU UInt64)) t_1.Seen)⟩, ⟨some 32, ov (PTR gb_2 (0 + 57))⟩, ⟨some 33, ov (S (rL r_api_Dot) t_1.Extra)⟩, ⟨some 34, ov (PTR gb_2 (0 + 58))⟩, ⟨some 35, ov (S (rL r_api_Dot) t_1.Live)⟩, ⟨some 36, ov (PTR gb_4 (0 + 41))⟩, ⟨none, .one .any⟩, ⟨some 37, ov (PTR gb_4 (0 + 57))⟩, ⟨none, .one .any⟩, ⟨some 38, ov (PTR gb_4 (0 + 58))⟩, ⟨none, .one .any⟩])
       (rs := fun γ => [⟨cvar gb_2 r_api_Frame t_1, none, none, [1, 3, 5]⟩, ⟨cvar gb_3 zq0 zq1, none, none, []⟩, ⟨cvar gb_4 zq0 (zq2 t_1), none, (some 7), []⟩, ⟨cvar gb_4 zq0 (zq3 t_1), (some 7), (some 9), []⟩, ⟨cvar gb_4 zq4 (zq5 t_1), (some 9), (some 11), []⟩, ⟨cvar gb_4 zq6 (zq7 t_1), (some 11), none, []⟩])
       (ds := [30, 31, 32, 33, 34, 35, 36, 37, 38]) (bs := [1, 2, 3]) (afts := [[], [], [], [], [], [], [], [], [], [], [], []]) (js := [0, 0, 0]) mixed (.cons rfl (.cons rfl (.cons rfl .nil))) (fun _ => rfl)
       (by
      refine dS 1 (fun γ ρ B hb hd => op_fieldAddr (off := 41) lb tf50_6 (.tmp (hb 1 _ rfl))) <| dR 2 (fun γ ρ B hb hd => OpStep.lk ⟨ρ, (cvar gb_2 r_api_Frame t_1) :: B, _⟩ (op_loadA (j := 0) lb tA40 (tl hd 0 30) rfl (cT (comp_api_Frame_Seen t_1) rfl) rfl)) <| dS 3 (fun γ ρ B hb hd => op_fieldAddr (off := 57) lb tf50_7 (.tmp (hb 1 _ rfl))) <| dR 4 (fun γ ρ B hb hd => OpStep.lk ⟨ρ, (cvar gb_2 r_api_Frame t_1) :: B, _⟩ (op_loadS (j := 0) lb tS44 (tl hd 2 32) rfl (cT (comp_api_Frame_Extra t_1) rfl) rfl rfl)) <| dS 5 (fun γ ρ B hb hd => op_fieldAddr (off := 58) lb tf50_8 (.tmp (hb 1 _ rfl))) ?_
      refine dR 6 (fun γ ρ B hb hd => OpStep.lk ⟨ρ, (cvar gb_2 r_api_Frame t_1) :: B, _⟩ (op_loadS (j := 0) lb tS44 (tl hd 4 34) rfl (cT (comp_api_Frame_Live t_1) rfl) rfl rfl)) <| dS 7 (fun γ ρ B hb hd => op_fieldAddr (off := 41) lb tf50_6 (.tmp (hb 3 _ rfl))) <| dR 8 (fun γ ρ B hb hd => OpStep.at ⟨ρ, (cvar gb_4 zq0 (zq2 t_1)) :: B, _⟩ (setO ⟨ρ, (cvar gb_4 zq0 (zq3 t_1)) :: B, _⟩ _ _) (op_storeA (j := 0) tA40 (tl hd 6 36) (tl hd 1 31) rfl ((UpdR.snd (UpdR.snd (UpdR.snd (UpdR.snd (UpdR.snd (UpdR.snd (UpdR.fst (UpdR.self (by rfl))))))))).at (by change (1 + (1 + (1 + (1 + (21 + (16 + 0)))))) = (0 + 41); omega)) rfl)) <| dS 9 (fun γ ρ B hb hd => op_fieldAddr (off := 57) lb tf50_7 (.tmp (hb 3 _ rfl))) <| dR 10 (fun γ ρ B hb hd => OpStep.at ⟨ρ, (cvar gb_4 zq0 (zq3 t_1)) :: B, _⟩ (setO ⟨ρ, (cvar gb_4 zq4 (zq5 t_1)) :: B, _⟩ _ _) (op_storeS (j := 0) tS44 (tl hd 8 37) (tl hd 3 33) rfl rfl ((UpdR.snd (UpdR.snd (UpdR.snd (UpdR.snd (UpdR.snd (UpdR.snd (UpdR.snd (UpdR.fst (UpdR.self (by rfl)))))))))).at (by change (1 + (1 + (1 + (1 + (21 + (16 + (16 + 0))))))) = (0 + 57); omega)) rfl)) ?_
      refine dS 11 (fun γ ρ B hb hd => op_fieldAddr (off := 58) lb tf50_8 (.tmp (hb 3 _ rfl))) <| dR 12 (fun γ ρ B hb hd => OpStep.at ⟨ρ, (cvar gb_4 zq4 (zq5 t_1)) :: B, _⟩ (setO ⟨ρ, (cvar gb_4 zq6 (zq7 t_1)) :: B, _⟩ _ _) (op_storeS (j := 0) tS44 (tl hd 10 38) (tl hd 5 35) rfl rfl ((UpdR.snd (UpdR.snd (UpdR.snd (UpdR.snd (UpdR.snd (UpdR.snd (UpdR.snd (UpdR.snd (UpdR.fst (UpdR.self (by rfl))))))))))).at (by change (1 + (1 + (1 + (1 + (21 + (16 + (16 + (1 + 0)))))))) = (0 + 58); omega)) rfl)) ?_
      exact DSteps.nil)
       (by decide +kernel) (fun _ => rfl) rfl (fun _ => rfl) (fun _ => rfl) rfl (by decide) (by decide) (by decide +kernel) (fun _ d h => by cases h)
       (ρ' := fun γ => [(2, ov (PTR gb_3 0)), (3, ov (PTR gb_4 0))])
       (X' := fun γ => [cvar gb_2 r_api_Frame t_1, cvar gb_3 zq0 zq1, cvar gb_4 zq6 (zq7 t_1)])
       (fun γ ρ hb hd => (.cons (hb 2 _ rfl (by decide)) (.cons (hb 3 _ rfl (by decide)) .nil))) (fun _ => rfl) (fun γ => ?_)
   refine JQ.at ⟨[(2, ov (PTR gb_3 0)), (3, ov (PTR gb_4 0))], [cvar gb_2 r_api_Frame t_1, cvar gb_3 zq0 zq1, cvar gb_4 zq6 (zq7 t_1)], []⟩ ?_
   refine JQ.outNB ?_
   replace hx1 := Option.some.inj hx1
   first | subst hx1 | clear hx1
   refine JQ.pre (Imp.var (j := 2) (q := r_api_Frame) (y := (api_Frame.mk t_1.Kind t_1.From t_1.To ([] : (List api_Item)) (api_Event.mk (api_Dot.mk (0 : Int) (0 : UInt64)) ([] : (List UInt8)) ([] : (List UInt8)) (Vector.replicate 16 (0 : UInt64)) ([] : (List api_Dest))) (Vector.replicate 16 (0 : UInt64)) t_1.Seen t_1.Extra t_1.Live (Vector.replicate 32 (0 : UInt8)) ([] : (List (Vector UInt8 32))) ([] : (List Int)) false)) rfl (Wk.st (Wk.pair Wk.refl (Wk.pair Wk.refl (Wk.pair Wk.refl (Wk.pair Wk.nil (Wk.pair (Wk.st (Wk.pair Wk.refl (Wk.pair Wk.refl (Wk.pair Wk.nil (Wk.pair Wk.refl (Wk.pair Wk.nil Wk.refl)))))) (Wk.pair Wk.refl (Wk.pair Wk.refl (Wk.pair Wk.refl (Wk.pair Wk.refl (Wk.pair Wk.refl (Wk.pair Wk.nil (Wk.pair Wk.nil (Wk.pair Wk.refl Wk.refl))))))))))))))) ?_
   exact JQ.join () (Imp.norm (js := [1, 1]) rfl (.cons rfl (.cons rfl .nil)))
 refine JC.condF (.tmp rfl) hc5 ?_
 refine jr ?_
 replace hx1 := lt1_inv hx1
 obtain ⟨v_9, hv_v_9, hx1⟩ := hx1
 refine jc (op_cmpI lb (.tmp rfl) .cI (congrArg some hv_v_9)) <| jc (op_assign lb (.tmp rfl)) <| jn ?_
 replace hx1 := iteB_inv hx1
 rcases hx1 with ⟨hc6, hx1⟩ | ⟨hc6, hx1⟩
 · refine JC.condT (.tmp rfl) hc6 ?_
   refine JC.region <| jc (op_fieldAddr (off := 59) lb tf50_9 (.tmp rfl)) <| jc (op_loadA (j := 0) lb tA46 (.tmp rfl) rfl (cT (comp_api_Frame_Hash t_1) rfl) rfl) <| jc (op_fieldAddr (off := 59) lb tf50_9 (.tmp rfl)) <| jc (op_storeA (j := 2) tA46 (.tmp rfl) (.tmp rfl) rfl ((UpdR.snd (UpdR.snd (UpdR.snd (UpdR.snd (UpdR.snd (UpdR.snd (UpdR.snd (UpdR.snd (UpdR.snd (UpdR.fst (UpdR.self (by rfl)))))))))))).at (by change (1 + (1 + (1 + (1 + (21 + (16 + (16 + (1 + (1 + 0))))))))) = (0 + 59); omega)) rfl) ?_
   refine JL.nrm ⟨[(2, ov (PTR gb_3 0)), (3, ov (PTR gb_4 0))], [cvar gb_3 zq0 zq1, cvar gb_4 zq0 (zq8 t_1)], []⟩ [1, 1] rfl (.cons rfl (.cons rfl .nil)) rfl ?_
   refine JL.nil ?_
   refine JQ.outNB ?_
   replace hx1 := Option.some.inj hx1
   first | subst hx1 | clear hx1
   refine JQ.pre (Imp.var (j := 1) (q := r_api_Frame) (y := (api_Frame.mk t_1.Kind t_1.From t_1.To ([] : (List api_Item)) (api_Event.mk (api_Dot.mk (0 : Int) (0 : UInt64)) ([] : (List UInt8)) ([] : (List UInt8)) (Vector.replicate 16 (0 : UInt64)) ([] : (List api_Dest))) (Vector.replicate 16 (0 : UInt64)) (Vector.replicate 16 (0 : UInt64)) ([] : (List api_Dot)) ([] : (List api_Dot)) t_1.Hash ([] : (List (Vector UInt8 32))) ([] : (List Int)) false)) rfl (Wk.st (Wk.pair Wk.refl (Wk.pair Wk.refl (Wk.pair Wk.refl (Wk.pair Wk.nil (Wk.pair (Wk.st (Wk.pair Wk.refl (Wk.pair Wk.refl (Wk.pair Wk.nil (Wk.pair Wk.refl (Wk.pair Wk.nil Wk.refl)))))) (Wk.pair Wk.refl (Wk.pair Wk.refl (Wk.pair Wk.nil (Wk.pair Wk.nil (Wk.pair Wk.refl (Wk.pair Wk.nil (Wk.pair Wk.nil (Wk.pair Wk.refl Wk.refl))))))))))))))) ?_
   exact JQ.join () (Imp.norm (js := [0, 0]) rfl (.cons rfl (.cons rfl .nil)))
 refine JC.condF (.tmp rfl) hc6 ?_
 refine jr ?_
 replace hx1 := lt1_inv hx1
 obtain ⟨v_10, hv_v_10, hx1⟩ := hx1
 refine jc (op_cmpI lb (.tmp rfl) .cI (congrArg some hv_v_10)) <| jc (op_assign lb (.tmp rfl)) <| jn ?_
 replace hx1 := iteB_inv hx1
 rcases hx1 with ⟨hc7, hx1⟩ | ⟨hc7, hx1⟩
 · refine JC.condT (.tmp rfl) hc7 ?_
   refine JC.region <| jc (op_fieldAddr (off := 91) lb tf50_10 (.tmp rfl)) <| jc (op_loadS (j := 0) lb tS47 (.tmp rfl) rfl (cT (comp_api_Frame_Leaves t_1) rfl) rfl rfl) <| jc (op_fieldAddr (off := 91) lb tf50_10 (.tmp rfl)) ?_
   refine JL.nrm ⟨[(2, ov (PTR gb_3 0)), (3, ov (PTR gb_4 0)), (47, ov (S (rL (rV 32 (rU UInt8))) t_1.Leaves)), (48, ov (PTR gb_4 (0 + 91)))], [cvar gb_3 zq0 zq1, cvar gb_4 zq0 (zq2 t_1)], []⟩ [1, 1] rfl (.cons rfl (.cons rfl (.cons rfl (.cons rfl .nil)))) rfl ?_
   refine jc (op_storeS (j := 1) tS47 (.tmp rfl) (.tmp rfl) rfl rfl ((UpdR.snd (UpdR.snd (UpdR.snd (UpdR.snd (UpdR.snd (UpdR.snd (UpdR.snd (UpdR.snd (UpdR.snd (UpdR.snd (UpdR.fst (UpdR.self (by rfl))))))))))))).at (by change (1 + (1 + (1 + (1 + (21 + (16 + (16 + (1 + (1 + (32 + 0)))))))))) = (0 + 91); omega)) rfl) <| JL.nil ?_
   refine JQ.outNB ?_
   replace hx1 := Option.some.inj hx1
   first | subst hx1 | clear hx1
   refine JQ.pre (Imp.var (j := 1) (q := r_api_Frame) (y := (api_Frame.mk t_1.Kind t_1.From t_1.To ([] : (List api_Item)) (api_Event.mk (api_Dot.mk (0 : Int) (0 : UInt64)) ([] : (List UInt8)) ([] : (List UInt8)) (Vector.replicate 16 (0 : UInt64)) ([] : (List api_Dest))) (Vector.replicate 16 (0 : UInt64)) (Vector.replicate 16 (0 : UInt64)) ([] : (List api_Dot)) ([] : (List api_Dot)) (Vector.replicate 32 (0 : UInt8)) t_1.Leaves ([] : (List Int)) false)) rfl (Wk.st (Wk.pair Wk.refl (Wk.pair Wk.refl (Wk.pair Wk.refl (Wk.pair Wk.nil (Wk.pair (Wk.st (Wk.pair Wk.refl (Wk.pair Wk.refl (Wk.pair Wk.nil (Wk.pair Wk.refl (Wk.pair Wk.nil Wk.refl)))))) (Wk.pair Wk.refl (Wk.pair Wk.refl (Wk.pair Wk.nil (Wk.pair Wk.nil (Wk.pair Wk.refl (Wk.pair Wk.refl (Wk.pair Wk.nil (Wk.pair Wk.refl Wk.refl))))))))))))))) ?_
   exact JQ.join () (Imp.norm (js := [0, 0]) rfl (.cons rfl (.cons rfl .nil)))
 refine JC.condF (.tmp rfl) hc7 ?_
 refine jr ?_
 replace hx1 := lt1_inv hx1
 obtain ⟨v_11, hv_v_11, hx1⟩ := hx1
 refine jc (op_cmpI lb (.tmp rfl) .cI (congrArg some hv_v_11)) <| jc (op_assign lb (.tmp rfl)) <| jn ?_
 replace hx1 := iteB_inv hx1
 rcases hx1 with ⟨hc8, hx1⟩ | ⟨hc8, hx1⟩
 · refine JC.condT (.tmp rfl) hc8 ?_
   refine JC.anyE (kl := []) (kk := 0) (base := [(1, ov (PTR gb_2 0)), (2, ov (PTR gb_3 0)), (3, ov (PTR gb_4 0))])
       (fs := fun γ => [⟨some 51, ov (PTR gb_2 (0 + 92))⟩, ⟨some 52, ov (S (rL (rI .i64)) t_1.Buckets)⟩, ⟨some 53, ov (PTR gb_2 (0 + 3))⟩, ⟨some 54, ov (S (rL r_api_Item) t_1.Items)⟩, ⟨some 55, ov (PTR gb_2 (0 + 41))⟩, ⟨some 56, ov (A (rV 16 (rU UInt64)) t_1.Seen)⟩, ⟨some 57, ov (PTR gb_2 (0 + 57))⟩, ⟨some 58, ov (S (rL r_api_Dot) t_1.Extra)⟩, ⟨some 59, ov (PTR gb_2 (0 + 93))⟩, ⟨some 60, ov (S rB t_1.Reply)⟩, ⟨some 61, ov (PTR gb_4 (0 + 92))⟩, ⟨none, .one .any⟩, ⟨some 62, ov (PTR gb_4 (0 + 3))⟩, ⟨none, .one .any⟩, ⟨some 63, ov (PTR gb_4 (0 + 41))⟩, ⟨none, .one .any⟩, ⟨some 64, ov (PTR gb_4 (0 + 57))⟩, ⟨none, .one .any⟩, ⟨some 65, ov (PTR gb_4 (0 + 93))⟩, ⟨none, .one .any⟩])
       (rs := fun γ => [⟨cvar gb_2 r_api_Frame t_1, none, none, [1, 3, 5, 7, 9]⟩, ⟨cvar gb_3 zq0 zq1, none, none, []⟩, ⟨cvar gb_4 zq0 (zq2 t_1), none, (some 11), []⟩, ⟨cvar gb_4 zq9 (zq10 t_1), (some 11), (some 13), []⟩, ⟨cvar gb_4 zq11 (zq12 t_1), (some 13), (some 15), []⟩, ⟨cvar gb_4 zq11 (zq13 t_1), (some 15), (some 17), []⟩, ⟨cvar gb_4 zq14 (zq15 t_1), (some 17), (some 19), []⟩, ⟨cvar gb_4 zq14 (zq16 t_1), (some 19), none, []⟩])
       (ds := [51, 52, 53, 54, 55, 56, 57, 58, 59, 60, 61, 62, 63, 64, 65]) (bs := [1, 2, 3]) (afts := [[], [], [], [], [], [], [], [], [], [], [], [], [], [], [], [], [], [], [], []]) (js := [0, 0, 0]) mixed (.cons rfl (.cons rfl (.cons rfl .nil))) (fun _ => rfl)
       (by
      refine dS 1 (fun γ ρ B hb hd => op_fieldAddr (off := 92) lb tf50_11 (.tmp (hb 1 _ rfl))) <| dR 2 (fun γ ρ B hb hd => OpStep.lk ⟨ρ, (cvar gb_2 r_api_Frame t_1) :: B, _⟩ (op_loadS (j := 0) lb tS48 (tl hd 0 51) rfl (cT (comp_api_Frame_Buckets t_1) rfl) rfl rfl)) <| dS 3 (fun γ ρ B hb hd => op_fieldAddr (off := 3) lb tf50_3 (.tmp (hb 1 _ rfl))) <| dR 4 (fun γ ρ B hb hd => OpStep.lk ⟨ρ, (cvar gb_2 r_api_Frame t_1) :: B, _⟩ (op_loadS (j := 0) lb tS22 (tl hd 2 53) rfl (cT (comp_api_Frame_Items t_1) rfl) rfl rfl)) <| dS 5 (fun γ ρ B hb hd => op_fieldAddr (off := 41) lb tf50_6 (.tmp (hb 1 _ rfl))) ?_
      refine dR 6 (fun γ ρ B hb hd => OpStep.lk ⟨ρ, (cvar gb_2 r_api_Frame t_1) :: B, _⟩ (op_loadA (j := 0) lb tA40 (tl hd 4 55) rfl (cT (comp_api_Frame_Seen t_1) rfl) rfl)) <| dS 7 (fun γ ρ B hb hd => op_fieldAddr (off := 57) lb tf50_7 (.tmp (hb 1 _ rfl))) <| dR 8 (fun γ ρ B hb hd => OpStep.lk ⟨ρ, (cvar gb_2 r_api_Frame t_1) :: B, _⟩ (op_loadS (j := 0) lb tS44 (tl hd 6 57) rfl (cT (comp_api_Frame_Extra t_1) rfl) rfl rfl)) <| dS 9 (fun γ ρ B hb hd => op_fieldAddr (off := 93) lb tf50_12 (.tmp (hb 1 _ rfl))) <| dR 10 (fun γ ρ B hb hd => OpStep.lk ⟨ρ, (cvar gb_2 r_api_Frame t_1) :: B, _⟩ (op_loadS (j := 0) lb tS4 (tl hd 8 59) rfl (cT (comp_api_Frame_Reply t_1) rfl) rfl rfl)) ?_
      refine dS 11 (fun γ ρ B hb hd => op_fieldAddr (off := 92) lb tf50_11 (.tmp (hb 3 _ rfl))) <| dR 12 (fun γ ρ B hb hd => OpStep.at ⟨ρ, (cvar gb_4 zq0 (zq2 t_1)) :: B, _⟩ (setO ⟨ρ, (cvar gb_4 zq9 (zq10 t_1)) :: B, _⟩ _ _) (op_storeS (j := 0) tS48 (tl hd 10 61) (tl hd 1 52) rfl rfl ((UpdR.snd (UpdR.snd (UpdR.snd (UpdR.snd (UpdR.snd (UpdR.snd (UpdR.snd (UpdR.snd (UpdR.snd (UpdR.snd (UpdR.snd (UpdR.fst (UpdR.self (by rfl)))))))))))))).at (by change (1 + (1 + (1 + (1 + (21 + (16 + (16 + (1 + (1 + (32 + (1 + 0))))))))))) = (0 + 92); omega)) rfl)) <| dS 13 (fun γ ρ B hb hd => op_fieldAddr (off := 3) lb tf50_3 (.tmp (hb 3 _ rfl))) <| dR 14 (fun γ ρ B hb hd => OpStep.at ⟨ρ, (cvar gb_4 zq9 (zq10 t_1)) :: B, _⟩ (setO ⟨ρ, (cvar gb_4 zq11 (zq12 t_1)) :: B, _⟩ _ _) (op_storeS (j := 0) tS22 (tl hd 12 62) (tl hd 3 54) rfl rfl ((UpdR.snd (UpdR.snd (UpdR.snd (UpdR.fst (UpdR.self (by rfl)))))).at (by change (1 + (1 + (1 + 0))) = (0 + 3); omega)) rfl)) <| dS 15 (fun γ ρ B hb hd => op_fieldAddr (off := 41) lb tf50_6 (.tmp (hb 3 _ rfl))) ?_
      refine dR 16 (fun γ ρ B hb hd => OpStep.at ⟨ρ, (cvar gb_4 zq11 (zq12 t_1)) :: B, _⟩ (setO ⟨ρ, (cvar gb_4 zq11 (zq13 t_1)) :: B, _⟩ _ _) (op_storeA (j := 0) tA40 (tl hd 14 63) (tl hd 5 56) rfl ((UpdR.snd (UpdR.snd (UpdR.snd (UpdR.snd (UpdR.snd (UpdR.snd (UpdR.fst (UpdR.self (by rfl))))))))).at (by change (1 + (1 + (1 + (1 + (21 + (16 + 0)))))) = (0 + 41); omega)) rfl)) <| dS 17 (fun γ ρ B hb hd => op_fieldAddr (off := 57) lb tf50_7 (.tmp (hb 3 _ rfl))) <| dR 18 (fun γ ρ B hb hd => OpStep.at ⟨ρ, (cvar gb_4 zq11 (zq13 t_1)) :: B, _⟩ (setO ⟨ρ, (cvar gb_4 zq14 (zq15 t_1)) :: B, _⟩ _ _) (op_storeS (j := 0) tS44 (tl hd 16 64) (tl hd 7 58) rfl rfl ((UpdR.snd (UpdR.snd (UpdR.snd (UpdR.snd (UpdR.snd (UpdR.snd (UpdR.snd (UpdR.fst (UpdR.self (by rfl)))))))))).at (by change (1 + (1 + (1 + (1 + (21 + (16 + (16 + 0))))))) = (0 + 57); omega)) rfl)) <| dS 19 (fun γ ρ B hb hd => op_fieldAddr (off := 93) lb tf50_12 (.tmp (hb 3 _ rfl))) <| dR 20 (fun γ ρ B hb hd => OpStep.at ⟨ρ, (cvar gb_4 zq14 (zq15 t_1)) :: B, _⟩ (setO ⟨ρ, (cvar gb_4 zq14 (zq16 t_1)) :: B, _⟩ _ _) (op_storeS (j := 0) tS4 (tl hd 18 65) (tl hd 9 60) rfl rfl ((UpdR.snd (UpdR.snd (UpdR.snd (UpdR.snd (UpdR.snd (UpdR.snd (UpdR.snd (UpdR.snd (UpdR.snd (UpdR.snd (UpdR.snd (UpdR.snd (UpdR.fst (UpdR.self (by rfl))))))))))))))).at (by change (1 + (1 + (1 + (1 + (21 + (16 + (16 + (1 + (1 + (32 + (1 + (1 + 0)))))))))))) = (0 + 93); omega)) rfl)) ?_
      exact DSteps.nil)
       (by decide +kernel) (fun _ => rfl) rfl (fun _ => rfl) (fun _ => rfl) rfl (by decide) (by decide) (by decide +kernel) (fun _ d h => by cases h)
       (ρ' := fun γ => [(2, ov (PTR gb_3 0)), (3, ov (PTR gb_4 0))])
       (X' := fun γ => [cvar gb_2 r_api_Frame t_1, cvar gb_3 zq0 zq1, cvar gb_4 zq14 (zq16 t_1)])
       (fun γ ρ hb hd => (.cons (hb 2 _ rfl (by decide)) (.cons (hb 3 _ rfl (by decide)) .nil))) (fun _ => rfl) (fun γ => ?_)
   refine JQ.at ⟨[(2, ov (PTR gb_3 0)), (3, ov (PTR gb_4 0))], [cvar gb_2 r_api_Frame t_1, cvar gb_3 zq0 zq1, cvar gb_4 zq14 (zq16 t_1)], []⟩ ?_
   refine JQ.outNB ?_
   replace hx1 := Option.some.inj hx1
   first | subst hx1 | clear hx1
   refine JQ.pre (Imp.var (j := 2) (q := r_api_Frame) (y := (api_Frame.mk t_1.Kind t_1.From t_1.To t_1.Items (api_Event.mk (api_Dot.mk (0 : Int) (0 : UInt64)) ([] : (List UInt8)) ([] : (List UInt8)) (Vector.replicate 16 (0 : UInt64)) ([] : (List api_Dest))) (Vector.replicate 16 (0 : UInt64)) t_1.Seen t_1.Extra ([] : (List api_Dot)) (Vector.replicate 32 (0 : UInt8)) ([] : (List (Vector UInt8 32))) t_1.Buckets t_1.Reply)) rfl (Wk.st (Wk.pair Wk.refl (Wk.pair Wk.refl (Wk.pair Wk.refl (Wk.pair Wk.refl (Wk.pair (Wk.st (Wk.pair Wk.refl (Wk.pair Wk.refl (Wk.pair Wk.nil (Wk.pair Wk.refl (Wk.pair Wk.nil Wk.refl)))))) (Wk.pair Wk.refl (Wk.pair Wk.refl (Wk.pair Wk.refl (Wk.pair Wk.nil (Wk.pair Wk.refl (Wk.pair Wk.nil (Wk.pair Wk.refl (Wk.pair Wk.refl Wk.refl))))))))))))))) ?_
   exact JQ.join () (Imp.norm (js := [1, 1]) rfl (.cons rfl (.cons rfl .nil)))
 refine JC.condF (.tmp rfl) hc8 ?_
 refine JC.skip ?_
 refine JQ.outNB ?_
 replace hx1 := Option.some.inj hx1
 first | subst hx1 | clear hx1
 refine JQ.pre (Imp.var (j := 2) (q := r_api_Frame) (y := (api_Frame.mk t_1.Kind t_1.From t_1.To ([] : (List api_Item)) (api_Event.mk (api_Dot.mk (0 : Int) (0 : UInt64)) ([] : (List UInt8)) ([] : (List UInt8)) (Vector.replicate 16 (0 : UInt64)) ([] : (List api_Dest))) (Vector.replicate 16 (0 : UInt64)) (Vector.replicate 16 (0 : UInt64)) ([] : (List api_Dot)) ([] : (List api_Dot)) (Vector.replicate 32 (0 : UInt8)) ([] : (List (Vector UInt8 32))) ([] : (List Int)) false)) rfl (Wk.st (Wk.pair Wk.refl (Wk.pair Wk.refl (Wk.pair Wk.refl (Wk.pair Wk.nil (Wk.pair (Wk.st (Wk.pair Wk.refl (Wk.pair Wk.refl (Wk.pair Wk.nil (Wk.pair Wk.refl (Wk.pair Wk.nil Wk.refl)))))) (Wk.pair Wk.refl (Wk.pair Wk.refl (Wk.pair Wk.nil (Wk.pair Wk.nil (Wk.pair Wk.refl (Wk.pair Wk.nil (Wk.pair Wk.nil (Wk.pair Wk.refl Wk.refl))))))))))))))) ?_
 exact JQ.join () (Imp.norm (js := [1, 1]) rfl (.cons rfl (.cons rfl .nil)))

theorem sim_slices_Equalapi_Item_api_Item (k : Nat) (s1_1 : (List api_Item)) (s2_2 : (List api_Item)) (r : Bool) (hm : slices_Equalapi_Item_api_Item k s1_1 s2_2 = some r) : Sim Try.prog 56 [S (rL r_api_Item) s1_1, S (rL r_api_Item) s2_2] [] (γ := Unit) (fun q => []) (fun q => .one (.val (S rB r))) := by
 unfold slices_Equalapi_Item_api_Item at hm
 refine Sim.of Try.func56 rfl rfl (lE rfl) (fun e0 w0 => ?_)
 refine JC.at ⟨[(0, ov (S (rL r_api_Item) s1_1)), (1, ov (S (rL r_api_Item) s2_2))], [], []⟩ ?_
 refine jr <| jc (op_assign lb .cB) <| jn <| JC.seq <| jr ?_
 refine jmv rfl rfl <| jc (op_lenL lb tu22 (.tmp rfl)) <| jmv rfl rfl <| jc (op_lenL lb tu22 (.tmp rfl)) ?_
 replace hm := lt1_inv hm
 obtain ⟨v_3, hv_v_3, hm⟩ := hm
 refine jc (op_cmpI lb (.tmp rfl) (.tmp rfl) (congrArg some hv_v_3)) <| jn ?_
 replace hm := iteB_inv hm
 rcases hm with ⟨hc1, hm⟩ | ⟨hc1, hm⟩
 · refine JC.condT (.tmp rfl) hc1 ?_
   refine jr <| jc (op_assign lb .cB) <| jn ?_
   refine JC.ret ?_
   refine JQ.outR ?_
   replace hm := Option.some.inj hm
   subst hm
   exact JQ.done (js := []) (ss := [.val (S rB false)]) () (.inl rfl) (.nil rfl) rfl (.cons (.tmp rfl) .nil) rfl rfl rfl
 refine JC.condF (.tmp rfl) hc1 ?_
 refine JC.skip ?_
 refine JQ.then ?_
 replace hm := bnd_inv hm
 obtain ⟨tv2, hx2, hq2⟩ := hm
 refine JC.seqK (α := Unit) (γ := Unit) (stj := fun v q => ⟨[], [], []⟩) (p := fun v => tv2 = (.inl v)) (fun v q hv => ?_) ?_
 · subst hv
   skip
   obtain _ := q
   dsimp only at hq2
   refine JC.at ⟨[], [], []⟩ ?_
   refine jr <| jc (op_assign lb .cB) <| jn ?_
   refine JC.ret ?_
   replace hq2 := Option.some.inj hq2
   subst hq2
   exact JQ.done (js := []) (ss := [.val (S rB true)]) () (.inl rfl) (.nil rfl) rfl (.cons (.tmp rfl) .nil) rfl rfl rfl
 refine jr <| jmv rfl rfl <| jc (op_lenL lb tu22 (.tmp rfl)) <| jc (op_move lb .cI) <| jn ?_
 refine JC.block ?_
 replace hx2 := bnd_inv hx2
 obtain ⟨tv3, hL3, hq3⟩ := hx2
 refine JC.pre ?_ (JC.loop (γ := Unit) (stf := fun s q => ⟨[(0, ov (S (rL r_api_Item) s1_1)), (1, ov (S (rL r_api_Item) s2_2)), (12, ov (S (rI .i64) (List.length s1_1 : Int))), (13, ov (S (rI .i64) s))], [], []⟩) (q := ()) hL3 ?_)
 · exact (Imp.norm (js := []) rfl (.cons rfl (.cons rfl (.cons rfl (.cons rfl .nil)))))
 intro x_4 q x hx hr
 obtain _ := q
 change slices_Equalapi_Item_api_Item.b1 k s1_1 s2_2 x_4 = some x at hx
 unfold slices_Equalapi_Item_api_Item.b1 at hx
 refine JC.at ⟨[(0, ov (S (rL r_api_Item) s1_1)), (1, ov (S (rL r_api_Item) s2_2)), (12, ov (S (rI .i64) (List.length s1_1 : Int))), (13, ov (S (rI .i64) x_4))], [], []⟩ ?_
 refine jr ?_
 replace hx := lt1_inv hx
 obtain ⟨v_5, hv_v_5, hx⟩ := hx
 refine jc (op_cmpI lb (.tmp rfl) (.tmp rfl) (congrArg some hv_v_5)) <| jn <| JC.seq ?_
 replace hx := iteB_inv hx
 rcases hx with ⟨hc4, hx⟩ | ⟨hc4, hx⟩
 · refine JC.condT (.tmp rfl) hc4 ?_
   refine JC.skip ?_
   refine JQ.then <| JC.seq <| JC.block <| jr <| jmv rfl rfl ?_
   refine jc (op_assign lb (.tmp rfl)) <| jn <| JC.seq ?_
   replace hx := bnd_inv hx
   obtain ⟨v_6, hv_v_6, hx⟩ := hx
   replace hx := bnd_inv hx
   obtain ⟨v_7, hv_v_7, hx⟩ := hx
   replace hx := lt1_inv hx
   obtain ⟨v_8, hv_v_8, hx⟩ := hx
   refine JC.anyE (kl := []) (kk := 0) (base := [(0, ov (S (rL r_api_Item) s1_1)), (1, ov (S (rL r_api_Item) s2_2)), (5, ov (S (rI .i64) x_4)), (12, ov (S (rI .i64) (List.length s1_1 : Int))), (13, ov (S (rI .i64) x_4))])
       (fs := fun γ => [⟨some 16, ov (S (rL r_api_Item) s1_1)⟩, ⟨some 17, ov (S (rI .i64) x_4)⟩, ⟨some 18, ov (PT r_api_Item v_6)⟩, ⟨some 19, ov (A r_api_Item v_6)⟩, ⟨some 20, ov (S (rL r_api_Item) s2_2)⟩, ⟨some 21, ov (S (rI .i64) x_4)⟩, ⟨some 22, ov (PT r_api_Item v_7)⟩, ⟨some 23, ov (A r_api_Item v_7)⟩, ⟨some 24, ov (S rB v_8)⟩])
       (rs := fun γ => [])
       (ds := [16, 17, 18, 19, 20, 21, 22, 23, 24]) (bs := [0, 1, 5, 12, 13]) (afts := [[], [], [], [], [], [], [], [], []]) (js := []) mixed (.cons rfl (.cons rfl (.cons rfl (.cons rfl (.cons rfl .nil))))) (fun _ => rfl)
       (by
      refine dS 1 (fun γ ρ B hb hd => op_move lb (.tmp (hb 0 _ rfl))) <| dS 2 (fun γ ρ B hb hd => op_move lb (.tmp (hb 5 _ rfl))) <| dS 3 (fun γ ρ B hb hd => op_indexAddrLg lb tu22 tz33 (tl hd 0 16) (tl hd 1 17) hv_v_6) <| dS 4 (fun γ ρ B hb hd => op_loadPAg lb tA33 (tl hd 2 18) rfl) <| dS 5 (fun γ ρ B hb hd => op_move lb (.tmp (hb 1 _ rfl))) ?_
      refine dS 6 (fun γ ρ B hb hd => op_move lb (.tmp (hb 5 _ rfl))) <| dS 7 (fun γ ρ B hb hd => op_indexAddrLg lb tu22 tz33 (tl hd 4 20) (tl hd 5 21) hv_v_7) <| dS 8 (fun γ ρ B hb hd => op_loadPAg lb tA33 (tl hd 6 22) rfl) <| dS 9 (fun γ ρ B hb hd => op_neA lb qa33 (by decide) ng33 (tl hd 3 19) (tl hd 7 23) hv_v_8) ?_
      exact DSteps.nil)
       (by decide +kernel) (fun _ => rfl) rfl (fun _ => rfl) (fun _ => rfl) rfl (by decide) (by decide) (by decide +kernel) (fun _ d h => by cases h)
       (ρ' := fun γ => [(0, ov (S (rL r_api_Item) s1_1)), (1, ov (S (rL r_api_Item) s2_2)), (12, ov (S (rI .i64) (List.length s1_1 : Int))), (13, ov (S (rI .i64) x_4)), (24, ov (S rB v_8))])
       (X' := fun γ => [])
       (fun γ ρ hb hd => (.cons (hb 0 _ rfl (by decide)) (.cons (hb 1 _ rfl (by decide)) (.cons (hb 12 _ rfl (by decide)) (.cons (hb 13 _ rfl (by decide)) (.cons (hdq hd 8 24 rfl) .nil)))))) (fun _ => rfl) (fun γ => ?_)
   refine JQ.at ⟨[(0, ov (S (rL r_api_Item) s1_1)), (1, ov (S (rL r_api_Item) s2_2)), (12, ov (S (rI .i64) (List.length s1_1 : Int))), (13, ov (S (rI .i64) x_4)), (24, ov (S rB v_8))], [], []⟩ ?_
   refine JQ.then ?_
   replace hx := iteB_inv hx
   rcases hx with ⟨hc5, hx⟩ | ⟨hc5, hx⟩
   · refine JC.condT (.tmp rfl) hc5 ?_
     refine jr <| jc (op_assign lb .cB) <| jn ?_
     refine JC.ret ?_
     refine JQ.outRB ?_
     refine JQ.outR ?_
     replace hx := Option.some.inj hx
     first | subst hx | clear hx
     have ht := hr _ rfl
     clear hr
     first | subst ht | clear ht
     dsimp only at hq3
     refine JQ.outR ?_
     refine JQ.outRB ?_
     replace hq3 := Option.some.inj hq3
     first | subst hq3 | clear hq3
     dsimp only at hq2
     refine JQ.outR ?_
     replace hq2 := Option.some.inj hq2
     subst hq2
     exact JQ.done (js := []) (ss := [.val (S rB false)]) () (.inl rfl) (.nil rfl) rfl (.cons (.tmp rfl) .nil) rfl rfl rfl
   refine JC.condF (.tmp rfl) hc5 ?_
   refine JC.skip ?_
   refine JQ.outNB ?_
   refine JQ.then <| JC.region ?_
   replace hx := lt1_inv hx
   obtain ⟨v_9, hv_v_9, hx⟩ := hx
   refine jc (op_arI lb (.tmp rfl) .cI (congrArg some hv_v_9)) <| jmv rfl rfl <| JL.nil ?_
   replace hx := Option.some.inj hx
   first | subst hx | clear hx
   exact JQ.next () rfl (Imp.norm (js := []) rfl (.cons rfl (.cons rfl (.cons rfl (.cons rfl .nil)))))
 refine JC.condF (.tmp rfl) hc4 ?_
 refine JC.exit ?_
 refine JQ.outX ?_
 replace hx := Option.some.inj hx
 first | subst hx | clear hx
 have ht := hr _ rfl
 clear hr
 first | subst ht | clear ht
 dsimp only at hq3
 refine JQ.outX ?_
 refine JQ.here ?_
 replace hq3 := Option.some.inj hq3
 first | subst hq3 | clear hq3
 exact JQ.joinK () () rfl (Imp.norm (js := []) rfl .nil)

theorem sim_slices_Equalapi_Dot_api_Dot (k : Nat) (s1_1 : (List api_Dot)) (s2_2 : (List api_Dot)) (r : Bool) (hm : slices_Equalapi_Dot_api_Dot k s1_1 s2_2 = some r) : Sim Try.prog 57 [S (rL r_api_Dot) s1_1, S (rL r_api_Dot) s2_2] [] (γ := Unit) (fun q => []) (fun q => .one (.val (S rB r))) := by
 unfold slices_Equalapi_Dot_api_Dot at hm
 refine Sim.of Try.func57 rfl rfl (lE rfl) (fun e0 w0 => ?_)
 refine JC.at ⟨[(0, ov (S (rL r_api_Dot) s1_1)), (1, ov (S (rL r_api_Dot) s2_2))], [], []⟩ ?_
 refine jr <| jc (op_assign lb .cB) <| jn <| JC.seq <| jr ?_
 refine jmv rfl rfl <| jc (op_lenL lb tu44 (.tmp rfl)) <| jmv rfl rfl <| jc (op_lenL lb tu44 (.tmp rfl)) ?_
 replace hm := lt1_inv hm
 obtain ⟨v_3, hv_v_3, hm⟩ := hm
 refine jc (op_cmpI lb (.tmp rfl) (.tmp rfl) (congrArg some hv_v_3)) <| jn ?_
 replace hm := iteB_inv hm
 rcases hm with ⟨hc1, hm⟩ | ⟨hc1, hm⟩
 · refine JC.condT (.tmp rfl) hc1 ?_
   refine jr <| jc (op_assign lb .cB) <| jn ?_
   refine JC.ret ?_
   refine JQ.outR ?_
   replace hm := Option.some.inj hm
   subst hm
   exact JQ.done (js := []) (ss := [.val (S rB false)]) () (.inl rfl) (.nil rfl) rfl (.cons (.tmp rfl) .nil) rfl rfl rfl
 refine JC.condF (.tmp rfl) hc1 ?_
 refine JC.skip ?_
 refine JQ.then ?_
 replace hm := bnd_inv hm
 obtain ⟨tv2, hx2, hq2⟩ := hm
 refine JC.seqK (α := Unit) (γ := Unit) (stj := fun v q => ⟨[], [], []⟩) (p := fun v => tv2 = (.inl v)) (fun v q hv => ?_) ?_
 · subst hv
   skip
   obtain _ := q
   dsimp only at hq2
   refine JC.at ⟨[], [], []⟩ ?_
   refine jr <| jc (op_assign lb .cB) <| jn ?_
   refine JC.ret ?_
   replace hq2 := Option.some.inj hq2
   subst hq2
   exact JQ.done (js := []) (ss := [.val (S rB true)]) () (.inl rfl) (.nil rfl) rfl (.cons (.tmp rfl) .nil) rfl rfl rfl
 refine jr <| jmv rfl rfl <| jc (op_lenL lb tu44 (.tmp rfl)) <| jc (op_move lb .cI) <| jn ?_
 refine JC.block ?_
 replace hx2 := bnd_inv hx2
 obtain ⟨tv3, hL3, hq3⟩ := hx2
 refine JC.pre ?_ (JC.loop (γ := Unit) (stf := fun s q => ⟨[(0, ov (S (rL r_api_Dot) s1_1)), (1, ov (S (rL r_api_Dot) s2_2)), (12, ov (S (rI .i64) (List.length s1_1 : Int))), (13, ov (S (rI .i64) s))], [], []⟩) (q := ()) hL3 ?_)
 · exact (Imp.norm (js := []) rfl (.cons rfl (.cons rfl (.cons rfl (.cons rfl .nil)))))
 intro x_4 q x hx hr
 obtain _ := q
 change slices_Equalapi_Dot_api_Dot.b1 k s1_1 s2_2 x_4 = some x at hx
 unfold slices_Equalapi_Dot_api_Dot.b1 at hx
 refine JC.at ⟨[(0, ov (S (rL r_api_Dot) s1_1)), (1, ov (S (rL r_api_Dot) s2_2)), (12, ov (S (rI .i64) (List.length s1_1 : Int))), (13, ov (S (rI .i64) x_4))], [], []⟩ ?_
 refine jr ?_
 replace hx := lt1_inv hx
 obtain ⟨v_5, hv_v_5, hx⟩ := hx
 refine jc (op_cmpI lb (.tmp rfl) (.tmp rfl) (congrArg some hv_v_5)) <| jn <| JC.seq ?_
 replace hx := iteB_inv hx
 rcases hx with ⟨hc4, hx⟩ | ⟨hc4, hx⟩
 · refine JC.condT (.tmp rfl) hc4 ?_
   refine JC.skip ?_
   refine JQ.then <| JC.seq <| JC.block <| jr <| jmv rfl rfl ?_
   refine jc (op_assign lb (.tmp rfl)) <| jn <| JC.seq ?_
   replace hx := bnd_inv hx
   obtain ⟨v_6, hv_v_6, hx⟩ := hx
   replace hx := bnd_inv hx
   obtain ⟨v_7, hv_v_7, hx⟩ := hx
   replace hx := lt1_inv hx
   obtain ⟨v_8, hv_v_8, hx⟩ := hx
   refine JC.anyE (kl := []) (kk := 0) (base := [(0, ov (S (rL r_api_Dot) s1_1)), (1, ov (S (rL r_api_Dot) s2_2)), (5, ov (S (rI .i64) x_4)), (12, ov (S (rI .i64) (List.length s1_1 : Int))), (13, ov (S (rI .i64) x_4))])
       (fs := fun γ => [⟨some 16, ov (S (rL r_api_Dot) s1_1)⟩, ⟨some 17, ov (S (rI .i64) x_4)⟩, ⟨some 18, ov (PT r_api_Dot v_6)⟩, ⟨some 19, ov (A r_api_Dot v_6)⟩, ⟨some 20, ov (S (rL r_api_Dot) s2_2)⟩, ⟨some 21, ov (S (rI .i64) x_4)⟩, ⟨some 22, ov (PT r_api_Dot v_7)⟩, ⟨some 23, ov (A r_api_Dot v_7)⟩, ⟨some 24, ov (S rB v_8)⟩])
       (rs := fun γ => [])
       (ds := [16, 17, 18, 19, 20, 21, 22, 23, 24]) (bs := [0, 1, 5, 12, 13]) (afts := [[], [], [], [], [], [], [], [], []]) (js := []) mixed (.cons rfl (.cons rfl (.cons rfl (.cons rfl (.cons rfl .nil))))) (fun _ => rfl)
       (by
      refine dS 1 (fun γ ρ B hb hd => op_move lb (.tmp (hb 0 _ rfl))) <| dS 2 (fun γ ρ B hb hd => op_move lb (.tmp (hb 5 _ rfl))) <| dS 3 (fun γ ρ B hb hd => op_indexAddrLg lb tu44 tz29 (tl hd 0 16) (tl hd 1 17) hv_v_6) <| dS 4 (fun γ ρ B hb hd => op_loadPAg lb tA29 (tl hd 2 18) rfl) <| dS 5 (fun γ ρ B hb hd => op_move lb (.tmp (hb 1 _ rfl))) ?_
      refine dS 6 (fun γ ρ B hb hd => op_move lb (.tmp (hb 5 _ rfl))) <| dS 7 (fun γ ρ B hb hd => op_indexAddrLg lb tu44 tz29 (tl hd 4 20) (tl hd 5 21) hv_v_7) <| dS 8 (fun γ ρ B hb hd => op_loadPAg lb tA29 (tl hd 6 22) rfl) <| dS 9 (fun γ ρ B hb hd => op_neA lb qa29 (by decide) ng29 (tl hd 3 19) (tl hd 7 23) hv_v_8) ?_
      exact DSteps.nil)
       (by decide +kernel) (fun _ => rfl) rfl (fun _ => rfl) (fun _ => rfl) rfl (by decide) (by decide) (by decide +kernel) (fun _ d h => by cases h)
       (ρ' := fun γ => [(0, ov (S (rL r_api_Dot) s1_1)), (1, ov (S (rL r_api_Dot) s2_2)), (12, ov (S (rI .i64) (List.length s1_1 : Int))), (13, ov (S (rI .i64) x_4)), (24, ov (S rB v_8))])
       (X' := fun γ => [])
       (fun γ ρ hb hd => (.cons (hb 0 _ rfl (by decide)) (.cons (hb 1 _ rfl (by decide)) (.cons (hb 12 _ rfl (by decide)) (.cons (hb 13 _ rfl (by decide)) (.cons (hdq hd 8 24 rfl) .nil)))))) (fun _ => rfl) (fun γ => ?_)
   refine JQ.at ⟨[(0, ov (S (rL r_api_Dot) s1_1)), (1, ov (S (rL r_api_Dot) s2_2)), (12, ov (S (rI .i64) (List.length s1_1 : Int))), (13, ov (S (rI .i64) x_4)), (24, ov (S rB v_8))], [], []⟩ ?_
   refine JQ.then ?_
   replace hx := iteB_inv hx
   rcases hx with ⟨hc5, hx⟩ | ⟨hc5, hx⟩
   · refine JC.condT (.tmp rfl) hc5 ?_
     refine jr <| jc (op_assign lb .cB) <| jn ?_
     refine JC.ret ?_
     refine JQ.outRB ?_
     refine JQ.outR ?_
     replace hx := Option.some.inj hx
     first | subst hx | clear hx
     have ht := hr _ rfl
     clear hr
     first | subst ht | clear ht
     dsimp only at hq3
     refine JQ.outR ?_
     refine JQ.outRB ?_
     replace hq3 := Option.some.inj hq3
     first | subst hq3 | clear hq3
     dsimp only at hq2
     refine JQ.outR ?_
     replace hq2 := Option.some.inj hq2
     subst hq2
     exact JQ.done (js := []) (ss := [.val (S rB false)]) () (.inl rfl) (.nil rfl) rfl (.cons (.tmp rfl) .nil) rfl rfl rfl
   refine JC.condF (.tmp rfl) hc5 ?_
   refine JC.skip ?_
   refine JQ.outNB ?_
   refine JQ.then <| JC.region ?_
   replace hx := lt1_inv hx
   obtain ⟨v_9, hv_v_9, hx⟩ := hx
   refine jc (op_arI lb (.tmp rfl) .cI (congrArg some hv_v_9)) <| jmv rfl rfl <| JL.nil ?_
   replace hx := Option.some.inj hx
   first | subst hx | clear hx
   exact JQ.next () rfl (Imp.norm (js := []) rfl (.cons rfl (.cons rfl (.cons rfl (.cons rfl .nil)))))
 refine JC.condF (.tmp rfl) hc4 ?_
 refine JC.exit ?_
 refine JQ.outX ?_
 replace hx := Option.some.inj hx
 first | subst hx | clear hx
 have ht := hr _ rfl
 clear hr
 first | subst ht | clear ht
 dsimp only at hq3
 refine JQ.outX ?_
 refine JQ.here ?_
 replace hq3 := Option.some.inj hq3
 first | subst hq3 | clear hq3
 exact JQ.joinK () () rfl (Imp.norm (js := []) rfl .nil)

theorem sim_slices_Equalapi_Hash_api_Hash (k : Nat) (s1_1 : (List (Vector UInt8 32))) (s2_2 : (List (Vector UInt8 32))) (r : Bool) (hm : slices_Equalapi_Hash_api_Hash k s1_1 s2_2 = some r) : Sim Try.prog 58 [S (rL (rV 32 (rU UInt8))) s1_1, S (rL (rV 32 (rU UInt8))) s2_2] [] (γ := Unit) (fun q => []) (fun q => .one (.val (S rB r))) := by
 unfold slices_Equalapi_Hash_api_Hash at hm
 refine Sim.of Try.func58 rfl rfl (lE rfl) (fun e0 w0 => ?_)
 refine JC.at ⟨[(0, ov (S (rL (rV 32 (rU UInt8))) s1_1)), (1, ov (S (rL (rV 32 (rU UInt8))) s2_2))], [], []⟩ ?_
 refine jr <| jc (op_assign lb .cB) <| jn <| JC.seq <| jr ?_
 refine jmv rfl rfl <| jc (op_lenL lb tu47 (.tmp rfl)) <| jmv rfl rfl <| jc (op_lenL lb tu47 (.tmp rfl)) ?_
 replace hm := lt1_inv hm
 obtain ⟨v_3, hv_v_3, hm⟩ := hm
 refine jc (op_cmpI lb (.tmp rfl) (.tmp rfl) (congrArg some hv_v_3)) <| jn ?_
 replace hm := iteB_inv hm
 rcases hm with ⟨hc1, hm⟩ | ⟨hc1, hm⟩
 · refine JC.condT (.tmp rfl) hc1 ?_
   refine jr <| jc (op_assign lb .cB) <| jn ?_
   refine JC.ret ?_
   refine JQ.outR ?_
   replace hm := Option.some.inj hm
   subst hm
   exact JQ.done (js := []) (ss := [.val (S rB false)]) () (.inl rfl) (.nil rfl) rfl (.cons (.tmp rfl) .nil) rfl rfl rfl
 refine JC.condF (.tmp rfl) hc1 ?_
 refine JC.skip ?_
 refine JQ.then ?_
 replace hm := bnd_inv hm
 obtain ⟨tv2, hx2, hq2⟩ := hm
 refine JC.seqK (α := Unit) (γ := Unit) (stj := fun v q => ⟨[], [], []⟩) (p := fun v => tv2 = (.inl v)) (fun v q hv => ?_) ?_
 · subst hv
   skip
   obtain _ := q
   dsimp only at hq2
   refine JC.at ⟨[], [], []⟩ ?_
   refine jr <| jc (op_assign lb .cB) <| jn ?_
   refine JC.ret ?_
   replace hq2 := Option.some.inj hq2
   subst hq2
   exact JQ.done (js := []) (ss := [.val (S rB true)]) () (.inl rfl) (.nil rfl) rfl (.cons (.tmp rfl) .nil) rfl rfl rfl
 refine jr <| jmv rfl rfl <| jc (op_lenL lb tu47 (.tmp rfl)) <| jc (op_move lb .cI) <| jn ?_
 refine JC.block ?_
 replace hx2 := bnd_inv hx2
 obtain ⟨tv3, hL3, hq3⟩ := hx2
 refine JC.pre ?_ (JC.loop (γ := Unit) (stf := fun s q => ⟨[(0, ov (S (rL (rV 32 (rU UInt8))) s1_1)), (1, ov (S (rL (rV 32 (rU UInt8))) s2_2)), (12, ov (S (rI .i64) (List.length s1_1 : Int))), (13, ov (S (rI .i64) s))], [], []⟩) (q := ()) hL3 ?_)
 · exact (Imp.norm (js := []) rfl (.cons rfl (.cons rfl (.cons rfl (.cons rfl .nil)))))
 intro x_4 q x hx hr
 obtain _ := q
 change slices_Equalapi_Hash_api_Hash.b1 k s1_1 s2_2 x_4 = some x at hx
 unfold slices_Equalapi_Hash_api_Hash.b1 at hx
 refine JC.at ⟨[(0, ov (S (rL (rV 32 (rU UInt8))) s1_1)), (1, ov (S (rL (rV 32 (rU UInt8))) s2_2)), (12, ov (S (rI .i64) (List.length s1_1 : Int))), (13, ov (S (rI .i64) x_4))], [], []⟩ ?_
 refine jr ?_
 replace hx := lt1_inv hx
 obtain ⟨v_5, hv_v_5, hx⟩ := hx
 refine jc (op_cmpI lb (.tmp rfl) (.tmp rfl) (congrArg some hv_v_5)) <| jn <| JC.seq ?_
 replace hx := iteB_inv hx
 rcases hx with ⟨hc4, hx⟩ | ⟨hc4, hx⟩
 · refine JC.condT (.tmp rfl) hc4 ?_
   refine JC.skip ?_
   refine JQ.then <| JC.seq <| JC.block <| jr <| jmv rfl rfl ?_
   refine jc (op_assign lb (.tmp rfl)) <| jn <| JC.seq ?_
   replace hx := bnd_inv hx
   obtain ⟨v_6, hv_v_6, hx⟩ := hx
   replace hx := bnd_inv hx
   obtain ⟨v_7, hv_v_7, hx⟩ := hx
   replace hx := lt1_inv hx
   obtain ⟨v_8, hv_v_8, hx⟩ := hx
   refine JC.anyE (kl := []) (kk := 0) (base := [(0, ov (S (rL (rV 32 (rU UInt8))) s1_1)), (1, ov (S (rL (rV 32 (rU UInt8))) s2_2)), (5, ov (S (rI .i64) x_4)), (12, ov (S (rI .i64) (List.length s1_1 : Int))), (13, ov (S (rI .i64) x_4))])
       (fs := fun γ => [⟨some 16, ov (S (rL (rV 32 (rU UInt8))) s1_1)⟩, ⟨some 17, ov (S (rI .i64) x_4)⟩, ⟨some 18, ov (PT (rV 32 (rU UInt8)) v_6)⟩, ⟨some 19, ov (A (rV 32 (rU UInt8)) v_6)⟩, ⟨some 20, ov (S (rL (rV 32 (rU UInt8))) s2_2)⟩, ⟨some 21, ov (S (rI .i64) x_4)⟩, ⟨some 22, ov (PT (rV 32 (rU UInt8)) v_7)⟩, ⟨some 23, ov (A (rV 32 (rU UInt8)) v_7)⟩, ⟨some 24, ov (S rB v_8)⟩])
       (rs := fun γ => [])
       (ds := [16, 17, 18, 19, 20, 21, 22, 23, 24]) (bs := [0, 1, 5, 12, 13]) (afts := [[], [], [], [], [], [], [], [], []]) (js := []) mixed (.cons rfl (.cons rfl (.cons rfl (.cons rfl (.cons rfl .nil))))) (fun _ => rfl)
       (by
      refine dS 1 (fun γ ρ B hb hd => op_move lb (.tmp (hb 0 _ rfl))) <| dS 2 (fun γ ρ B hb hd => op_move lb (.tmp (hb 5 _ rfl))) <| dS 3 (fun γ ρ B hb hd => op_indexAddrLg lb tu47 tz46 (tl hd 0 16) (tl hd 1 17) hv_v_6) <| dS 4 (fun γ ρ B hb hd => op_loadPAg lb tA46 (tl hd 2 18) rfl) <| dS 5 (fun γ ρ B hb hd => op_move lb (.tmp (hb 1 _ rfl))) ?_
      refine dS 6 (fun γ ρ B hb hd => op_move lb (.tmp (hb 5 _ rfl))) <| dS 7 (fun γ ρ B hb hd => op_indexAddrLg lb tu47 tz46 (tl hd 4 20) (tl hd 5 21) hv_v_7) <| dS 8 (fun γ ρ B hb hd => op_loadPAg lb tA46 (tl hd 6 22) rfl) <| dS 9 (fun γ ρ B hb hd => op_neA lb qa46 (by decide) ng46 (tl hd 3 19) (tl hd 7 23) hv_v_8) ?_
      exact DSteps.nil)
       (by decide +kernel) (fun _ => rfl) rfl (fun _ => rfl) (fun _ => rfl) rfl (by decide) (by decide) (by decide +kernel) (fun _ d h => by cases h)
       (ρ' := fun γ => [(0, ov (S (rL (rV 32 (rU UInt8))) s1_1)), (1, ov (S (rL (rV 32 (rU UInt8))) s2_2)), (12, ov (S (rI .i64) (List.length s1_1 : Int))), (13, ov (S (rI .i64) x_4)), (24, ov (S rB v_8))])
       (X' := fun γ => [])
       (fun γ ρ hb hd => (.cons (hb 0 _ rfl (by decide)) (.cons (hb 1 _ rfl (by decide)) (.cons (hb 12 _ rfl (by decide)) (.cons (hb 13 _ rfl (by decide)) (.cons (hdq hd 8 24 rfl) .nil)))))) (fun _ => rfl) (fun γ => ?_)
   refine JQ.at ⟨[(0, ov (S (rL (rV 32 (rU UInt8))) s1_1)), (1, ov (S (rL (rV 32 (rU UInt8))) s2_2)), (12, ov (S (rI .i64) (List.length s1_1 : Int))), (13, ov (S (rI .i64) x_4)), (24, ov (S rB v_8))], [], []⟩ ?_
   refine JQ.then ?_
   replace hx := iteB_inv hx
   rcases hx with ⟨hc5, hx⟩ | ⟨hc5, hx⟩
   · refine JC.condT (.tmp rfl) hc5 ?_
     refine jr <| jc (op_assign lb .cB) <| jn ?_
     refine JC.ret ?_
     refine JQ.outRB ?_
     refine JQ.outR ?_
     replace hx := Option.some.inj hx
     first | subst hx | clear hx
     have ht := hr _ rfl
     clear hr
     first | subst ht | clear ht
     dsimp only at hq3
     refine JQ.outR ?_
     refine JQ.outRB ?_
     replace hq3 := Option.some.inj hq3
     first | subst hq3 | clear hq3
     dsimp only at hq2
     refine JQ.outR ?_
     replace hq2 := Option.some.inj hq2
     subst hq2
     exact JQ.done (js := []) (ss := [.val (S rB false)]) () (.inl rfl) (.nil rfl) rfl (.cons (.tmp rfl) .nil) rfl rfl rfl
   refine JC.condF (.tmp rfl) hc5 ?_
   refine JC.skip ?_
   refine JQ.outNB ?_
   refine JQ.then <| JC.region ?_
   replace hx := lt1_inv hx
   obtain ⟨v_9, hv_v_9, hx⟩ := hx
   refine jc (op_arI lb (.tmp rfl) .cI (congrArg some hv_v_9)) <| jmv rfl rfl <| JL.nil ?_
   replace hx := Option.some.inj hx
   first | subst hx | clear hx
   exact JQ.next () rfl (Imp.norm (js := []) rfl (.cons rfl (.cons rfl (.cons rfl (.cons rfl .nil)))))
 refine JC.condF (.tmp rfl) hc4 ?_
 refine JC.exit ?_
 refine JQ.outX ?_
 replace hx := Option.some.inj hx
 first | subst hx | clear hx
 have ht := hr _ rfl
 clear hr
 first | subst ht | clear ht
 dsimp only at hq3
 refine JQ.outX ?_
 refine JQ.here ?_
 replace hq3 := Option.some.inj hq3
 first | subst hq3 | clear hq3
 exact JQ.joinK () () rfl (Imp.norm (js := []) rfl .nil)

end Go.Proofs.Ytklnihlchhhhlaa
