/- Walks. -/
import Derived.Test.YtbmimaabgclhjaaT
import Derived.Test.YtbmimaabgclhjaaW2
import Derived.Test.YtbmimaabgclhjaaW3
import Derived.Test.YtbmimaabgclhjaaW4
import Derived.Test.YtbmimaabgclhjaaW5
namespace Go.Proofs.Ytbmimaabgclhjaa
open Go Fw
set_option linter.unusedVariables false
set_option maxRecDepth 100000
set_option maxHeartbeats 4000000

theorem sim_cast_Caster_Offer_pv_svvvoomm (k : Nat) (a_1 : api_Event) (regions_2 : Int) (own_3 : Int) (v_4 : (Vector UInt64 16)) (x_6 : (List api_Event)) (x_9 : (List (Vector UInt64 16))) (x_12 : (List (api_Dot × api_Event))) (gb_5 : Nat) (go_7 : Option Nat) (gc_8 : Nat) (go_10 : Option Nat) (gc_11 : Nat) (go_13 : Option Nat) (r : (List api_Event) × Int × (Vector UInt64 16) × (List api_Event) × (List (Vector UInt64 16)) × (List (api_Dot × api_Event))) (hm : cast_Caster_Offer_pv_svvvoomm k a_1 regions_2 own_3 v_4 x_6 x_9 x_12 = some r) : Sim Try.prog 12 [PTR gb_5 0, A r_api_Event a_1] [zq21 gb_5 go_7 x_6 gc_8 go_10 x_9 gc_11 go_13 regions_2 own_3 v_4, cown go_7 r_api_Event x_6 (List.length x_6) gc_8, cown go_10 (rV 16 (rU UInt64)) x_9 0 gc_11, cmap go_13 (A r_api_Dot) (A r_api_Event) (some x_12)] (γ := Option Nat × Nat × Option Nat × Nat × Option Nat × Nat) (fun q => [cown q.1 r_api_Event r.1 0 q.2.1, cvar gb_5 (rP (rI .i64) (rP (rI .i64) (rP (rV 16 (rU UInt64)) (rP (rW (HDR q.2.2.1 0 (List.length r.2.2.2.1) q.2.2.2.1)) (rP (rW (HDR q.2.2.2.2.1 0 (List.length r.2.2.2.2.1) q.2.2.2.2.2)) (rP (rW (MPV go_13)) r0)))))) (regions_2, (own_3, (r.2.2.1, ((), ((), ((), ())))))), cown q.2.2.1 r_api_Event r.2.2.2.1 (List.length r.2.2.2.1) q.2.2.2.1, cown q.2.2.2.2.1 (rV 16 (rU UInt64)) r.2.2.2.2.1 0 q.2.2.2.2.2, cmap go_13 (A r_api_Dot) (A r_api_Event) (some r.2.2.2.2.2)]) (fun q => .tup [.val (HDR q.1 0 (List.length r.1) q.2.1), .val (S (rI .i64) r.2.1)]) := by
 unfold cast_Caster_Offer_pv_svvvoomm at hm
 refine Sim.of Try.func12 rfl rfl (lE rfl) (fun e0 w0 => ?_)
 refine JC.at ⟨[(0, ov (PTR gb_5 0)), (1, ov (A r_api_Event a_1))], [zq21 gb_5 go_7 x_6 gc_8 go_10 x_9 gc_11 go_13 regions_2 own_3 v_4, cown go_7 r_api_Event x_6 (List.length x_6) gc_8, cown go_10 (rV 16 (rU UInt64)) x_9 0 gc_11, cmap go_13 (A r_api_Dot) (A r_api_Event) (some x_12)], []⟩ <| jr <| jx (op_boxA lb tR) fun gb_14 => jc (op_assign lb HasO.nilH) <| jc (op_assign lb .cI) <| jn <| JC.scope <| JC.seq <| jr <| jmv rfl rfl <| bI hm fun _ hv_u_15 hm => jx (op_call (js := [0, 0, 0, 0]) ld cl26 (sim_cast_Caster_there_p_svvvoomm k regions_2 own_3 v_4 x_6 x_9 x_12 gb_5 go_7 gc_8 go_10 gc_11 go_13 () hv_u_15) .func (.cons tR .nil) rfl) fun _ => jc (op_not lb tR rfl) <| jn ?_
 refine JC.condF tR rfl <| JC.skip <| JQ.then <| JC.seq <| jr <| jmv rfl rfl <| jc (op_loadA (j := 4) lb tA37 tR rfl (Comp.self r_api_Event a_1) rfl) <| JL.sub ⟨[(0, ov (PTR gb_5 0)), (3, ov (PTR gb_14 0)), (16, ov (PTR gb_5 0)), (17, ov (A r_api_Event a_1))], [zq21 gb_5 go_7 x_6 gc_8 go_10 x_9 gc_11 go_13 regions_2 own_3 v_4, cown go_7 r_api_Event x_6 (List.length x_6) gc_8, cown go_10 (rV 16 (rU UInt64)) x_9 0 gc_11, cmap go_13 (A r_api_Dot) (A r_api_Event) (some x_12), cvar gb_14 r_api_Event a_1], []⟩ (.cons rfl (.cons rfl (.cons rfl (.cons rfl .nil)))) rfl rfl <| bI hm fun v_16 hv_16 hm => jx (op_call (js := [0, 0, 0, 0]) ld cl27 (sim_cast_Caster_may_pv_svvvoomm k a_1 regions_2 own_3 v_4 x_6 x_9 x_12 gb_5 go_7 gc_8 go_10 gc_11 go_13 v_16 hv_16) .func (.cons tR (.cons tR .nil)) rfl) fun _ => lI hm fun v_17 hv_17 hm => jc (op_not lb tR hv_17) <| jn <| jif tR hm (fun hc1 hm => ?_) (fun hc1 hm => ?_)
 · refine jr <| jc (op_assign lb HasO.nilH) <| jc (op_assign lb .cI) <| jn <| JC.ret <| JQ.outR <| JQ.scR ?_
   obtain rfl := so hm
   exact JQ.pre (Imp.nilown r_api_Event) <| JQ.done (js := [5, 0, 0, 0, 0]) (ss := [.val (HDR none 0 (List.length ([] : (List api_Event))) (0)), .val (S (rI .i64) (2 : Int))]) (none, 0, go_7, gc_8, go_10, gc_11) (.inl rfl) (.nil rfl) rfl (.cons (.tmp rfl) (.cons (.tmp rfl) .nil)) rfl rfl rfl
 refine JC.skip <| JQ.then <| JC.seq <| JC.seq ?_
 obtain ⟨⟨v_18, is_19⟩, hv_18, hm⟩ := bnd_inv hm
 refine JC.anyF (base := [(0, ov (PTR gb_5 0)), (3, ov (PTR gb_14 0))])
     (fs := fun γ => [⟨some 21, ov (PTR gb_5 0)⟩, ⟨some 22, ov (PTR gb_5 0)⟩, ⟨some 23, ov (PTR gb_5 (0 + 20))⟩, ⟨some 24, ov (MPV go_13)⟩, ⟨some 25, ov (PTR gb_14 (0 + 0))⟩, ⟨some 26, ov (A r_api_Dot a_1.ID)⟩, ⟨some 27, .tup [.val (A r_api_Event v_18), .val (S rB is_19)]⟩, ⟨some 20, .tup [.val (A r_api_Event v_18), .val (S rB is_19)]⟩, ⟨some 28, ov (A r_api_Event v_18)⟩, ⟨some 29, ov (S rB is_19)⟩, ⟨some 6, ov (PTR (γ 10 0) 0)⟩, ⟨none, .one .any⟩, ⟨some 7, ov (S rB is_19)⟩])
     (rs := fun γ => [⟨zq21 gb_5 go_7 x_6 gc_8 go_10 x_9 gc_11 go_13 regions_2 own_3 v_4, none, none, [3]⟩, ⟨cown go_7 r_api_Event x_6 (List.length x_6) gc_8, none, none, []⟩, ⟨cown go_10 (rV 16 (rU UInt64)) x_9 0 gc_11, none, none, []⟩, ⟨cmap go_13 (A r_api_Dot) (A r_api_Event) (some x_12), none, none, [6]⟩, ⟨cvar gb_14 r_api_Event a_1, none, none, [5]⟩, ⟨cvar (γ 10 0) zq1 zq2, (some 10), (some 11), []⟩, ⟨cvar (γ 10 0) r_api_Event v_18, (some 11), none, []⟩])
     (afts := [[], [], [], [], [], [], [], [], [], [], [10, 11, 12], [], []]) (js := [0, 0, 0, 0, 0]) mixed (.cons rfl (.cons rfl .nil)) (fun _ => rfl)
     (by
      refine db 1 0 <| dS 2 (fun γ ρ B hb hd => op_nilCheck lb (tl hd 0 21) (fun e v h => by subst h; rfl)) <| dS 3 (fun γ ρ B hb hd => op_fieldAddr (off := 20) lb tf74_5 (tl hd 1 22)) <| dR 4 (fun γ ρ B hb hd => OpStep.lk ⟨ρ, (zq21 gb_5 go_7 x_6 gc_8 go_10 x_9 gc_11 go_13 regions_2 own_3 v_4) :: B, _⟩ (op_loadW (j := 0) lb tS72 (tl hd 2 23) rfl (Comp.trans (Comp.self (zq19 go_7 x_6 gc_8 go_10 x_9 gc_11 go_13) (regions_2, (own_3, (v_4, ((), ((), ((), ()))))))) (Comp.at' (Comp.inS (Comp.inS (Comp.inS (Comp.inS (Comp.inS (Comp.inF (Comp.self (rW (MPV go_13)) ()) (lE rfl))))))) (by rfl : _ = 20)) (lE rfl)))) <| dS 5 (fun γ ρ B hb hd => op_fieldAddr (off := 0) lb tf37_0 (.tmp (hb 3 _ rfl))) ?_
      refine dR 6 (fun γ ρ B hb hd => OpStep.lk ⟨ρ, (cvar gb_14 r_api_Event a_1) :: B, _⟩ (op_loadA (j := 0) lb tA31 (tl hd 4 25) rfl (cT (comp_api_Event_ID a_1) rfl) rfl)) <| dR 7 (fun γ ρ B hb hd => OpStep.lk ⟨ρ, (cmap go_13 (A r_api_Dot) (A r_api_Event) (some x_12)) :: B, _⟩ (op_lookupD (z0 := (api_Event.mk (api_Dot.mk (0 : Int) (0 : UInt64)) ([] : (List UInt8)) ([] : (List UInt8)) (Vector.replicate 16 (0 : UInt64)) ([] : (List api_Dest)))) (j := 0) lb tu72 ky31 tZ37 (fun e => ⟨_, rfl, zv37 e⟩) rfl (tl hd 3 24) (tl hd 5 26) hv_18)) <| dm 8 6 27 <| dS 9 (fun γ ρ B hb hd => op_extract (i := 0) lb (tl hd 7 20) rfl) <| dS 10 (fun γ ρ B hb hd => op_extract (i := 1) lb (tl hd 7 20) rfl) ?_
      refine DSteps.cons (j := 11) rfl (fun _ => rfl) (.runX (fun _ _ => rfl) (fun γ ρ B hb hd => ⟨.none, OpX.ghost (γ := Nat) (st' := fun q => setO ⟨ρ, (cvar q zq1 zq2) :: B, _⟩ (some 6) (ov (PTR q 0))) (fun q c => q) (OpX.front (op_alloc lb tZ37 zr37)) (fun q => Imp.refl)⟩) (fun _ _ => rfl) (fun _ _ => rfl)) ?_
      refine dR 12 (fun γ ρ B hb hd => OpStep.at ⟨ρ, (cvar (γ 10 0) zq1 zq2) :: B, _⟩ (setO ⟨ρ, (cvar (γ 10 0) r_api_Event v_18) :: B, _⟩ _ _) (op_storeA (j := 0) tA37 (tl hd 10 6) (tl hd 8 28) rfl (UpdR.self (by rfl)) rfl)) <| dS 13 (fun γ ρ B hb hd => op_assign lb (tl hd 9 29)) ?_
      exact DSteps.nil)
     (by decide +kernel) (fun _ => rfl) (fun _ => rfl) (fun _ => rfl) rfl
     (ρ' := fun γ => [(0, ov (PTR gb_5 0)), (3, ov (PTR gb_14 0)), (7, ov (S rB is_19))])
     (X' := fun γ => [zq21 gb_5 go_7 x_6 gc_8 go_10 x_9 gc_11 go_13 regions_2 own_3 v_4, cown go_7 r_api_Event x_6 (List.length x_6) gc_8, cown go_10 (rV 16 (rU UInt64)) x_9 0 gc_11, cmap go_13 (A r_api_Dot) (A r_api_Event) (some x_12), cvar gb_14 r_api_Event a_1, cvar (γ 10 0) r_api_Event v_18])
     (fun γ ρ hb hd => (.cons (hb 0 _ rfl) (.cons (hb 3 _ rfl) (.cons (hdq hd 12 7 rfl) .nil)))) (fun _ => rfl) (fun γ => ?_)
 generalize (γ 10 0) = gb_20
 clear γ
 refine JQ.at ⟨[(0, ov (PTR gb_5 0)), (3, ov (PTR gb_14 0)), (7, ov (S rB is_19))], [zq21 gb_5 go_7 x_6 gc_8 go_10 x_9 gc_11 go_13 regions_2 own_3 v_4, cown go_7 r_api_Event x_6 (List.length x_6) gc_8, cown go_10 (rV 16 (rU UInt64)) x_9 0 gc_11, cmap go_13 (A r_api_Dot) (A r_api_Event) (some x_12), cvar gb_14 r_api_Event a_1, cvar gb_20 r_api_Event v_18], []⟩ <| JQ.then <| bI hm fun x_25 hx2 hq2 => JC.seqJ (γ := Unit) (stj := fun _ => ⟨[(0, ov (PTR gb_5 0)), (3, ov (PTR gb_14 0)), (45, ov (S rB x_25))], [zq21 gb_5 go_7 x_6 gc_8 go_10 x_9 gc_11 go_13 regions_2 own_3 v_4, cown go_7 r_api_Event x_6 (List.length x_6) gc_8, cown go_10 (rV 16 (rU UInt64)) x_9 0 gc_11, cmap go_13 (A r_api_Dot) (A r_api_Event) (some x_12), cvar gb_14 r_api_Event a_1], []⟩) (fun _ => ?_) ?_
 · refine jif tR hq2 (fun hc15 hq2 => ?_) (fun hc15 hq2 => ?_)
   · refine jr <| jc (op_assign lb HasO.nilH) <| jc (op_assign lb .cI) <| jn <| JC.ret <| JQ.outR <| JQ.scR ?_
     obtain rfl := so hq2
     exact JQ.pre (Imp.nilown r_api_Event) <| JQ.done (js := [5, 0, 0, 0, 0]) (ss := [.val (HDR none 0 (List.length ([] : (List api_Event))) (0)), .val (S (rI .i64) (0 : Int))]) (none, 0, go_7, gc_8, go_10, gc_11) (.inl rfl) (.nil rfl) rfl (.cons (.tmp rfl) (.cons (.tmp rfl) .nil)) rfl rfl rfl
   refine JC.skip <| JQ.then <| JC.seq <| jr <| jmv rfl rfl <| jc (op_loadA (j := 4) lb tA37 tR rfl (Comp.self r_api_Event a_1) rfl) <| bI hq2 fun v_26 hv_26 hq2 => jx (op_call (js := [0, 0, 0, 0]) ld cl30 (sim_cast_Caster_can_pv_svvvoomm'2 k a_1 regions_2 own_3 v_4 x_6 x_9 x_12 gb_5 go_7 gc_8 go_10 gc_11 go_13 v_26 hv_26) .func (.cons tR (.cons tR .nil)) rfl) fun _ => lI hq2 fun v_27 hv_27 hq2 => jc (op_not lb tR hv_27) <| jn <| jif tR hq2 (fun hc16 hq2 => ?_) (fun hc16 hq2 => ?_)
   · refine JC.seq <| jr <| jmv rfl rfl <| jc (op_nilCheck lb tR (fun e v h => by subst h; rfl)) <| jc (op_fieldAddr (off := 20) lb tf74_5 tR) <| jc (op_loadW (j := 0) lb tS72 tR rfl (Comp.trans (Comp.self (zq19 go_7 x_6 gc_8 go_10 x_9 gc_11 go_13) (regions_2, (own_3, (v_4, ((), ((), ((), ()))))))) (Comp.at' (Comp.inS (Comp.inS (Comp.inS (Comp.inS (Comp.inS (Comp.inF (Comp.self (rW (MPV go_13)) ()) (lE rfl))))))) (by rfl : _ = 20)) (lE rfl))) <| jc (op_lenM (j := 3) lb tu72 rfl tR) <| lI hq2 fun v_28 hv_28 hq2 => jc (op_cmpI lb tR .cI (cs hv_28)) <| jn <| jif tR hq2 (fun hc17 hq2 => ?_) (fun hc17 hq2 => ?_)
     · refine jr <| jc (op_assign lb HasO.nilH) <| jc (op_assign lb .cI) <| JL.nrm ⟨[(4, ov (HDR none 0 0 0)), (5, ov (S (rI .i64) (5 : Int)))], [zq21 gb_5 go_7 x_6 gc_8 go_10 x_9 gc_11 go_13 regions_2 own_3 v_4, cown go_7 r_api_Event x_6 (List.length x_6) gc_8, cown go_10 (rV 16 (rU UInt64)) x_9 0 gc_11, cmap go_13 (A r_api_Dot) (A r_api_Event) (some x_12)], []⟩ [0, 0, 0, 0] rfl (.cons rfl (.cons rfl .nil)) rfl <| jn <| JC.ret <| JQ.outR <| JQ.outR <| JQ.scR ?_
       obtain rfl := so hq2
       exact JQ.pre (Imp.nilown r_api_Event) <| JQ.done (js := [4, 0, 0, 0, 0]) (ss := [.val (HDR none 0 (List.length ([] : (List api_Event))) (0)), .val (S (rI .i64) (5 : Int))]) (none, 0, go_7, gc_8, go_10, gc_11) (.inl rfl) (.nil rfl) rfl (.cons (.tmp rfl) (.cons (.tmp rfl) .nil)) rfl rfl rfl
     refine JC.skip <| JQ.then <| JC.seq <| bI hq2 fun v_29 hv_29 hq2 => ?_
     obtain ⟨x_30, hv_x_30, hq2⟩ := lt1_inv hq2
     refine JC.anyF (base := [(0, ov (PTR gb_5 0)), (3, ov (PTR gb_14 0))])
         (fs := fun γ => [⟨some 56, ov (PTR gb_5 0)⟩, ⟨some 57, ov (PTR gb_5 0)⟩, ⟨some 58, ov (PTR gb_5 (0 + 20))⟩, ⟨some 59, ov (MPV go_13)⟩, ⟨some 60, ov (PTR gb_14 (0 + 0))⟩, ⟨some 61, ov (A r_api_Dot a_1.ID)⟩, ⟨some 62, ov (A r_api_Event a_1)⟩, ⟨some 63, ov (A r_api_Event v_29)⟩, ⟨none, .one .any⟩])
         (rs := fun γ => [⟨zq21 gb_5 go_7 x_6 gc_8 go_10 x_9 gc_11 go_13 regions_2 own_3 v_4, none, none, [3]⟩, ⟨cown go_7 r_api_Event x_6 (List.length x_6) gc_8, none, none, []⟩, ⟨cown go_10 (rV 16 (rU UInt64)) x_9 0 gc_11, none, none, []⟩, ⟨cmap go_13 (A r_api_Dot) (A r_api_Event) (some x_12), none, (some 8), []⟩, ⟨cvar gb_14 r_api_Event a_1, none, none, [5, 6]⟩, ⟨cmap go_13 (A r_api_Dot) (A r_api_Event) (some x_30), (some 8), none, []⟩])
         (afts := nn 9) (js := [0, 0, 0, 0, 0]) mixed (.cons rfl (.cons rfl .nil)) (fun _ => rfl)
         (by
      refine db 1 0 <| dS 2 (fun γ ρ B hb hd => op_nilCheck lb (tl hd 0 56) (fun e v h => by subst h; rfl)) <| dS 3 (fun γ ρ B hb hd => op_fieldAddr (off := 20) lb tf74_5 (tl hd 1 57)) <| dR 4 (fun γ ρ B hb hd => OpStep.lk ⟨ρ, (zq21 gb_5 go_7 x_6 gc_8 go_10 x_9 gc_11 go_13 regions_2 own_3 v_4) :: B, _⟩ (op_loadW (j := 0) lb tS72 (tl hd 2 58) rfl (Comp.trans (Comp.self (zq19 go_7 x_6 gc_8 go_10 x_9 gc_11 go_13) (regions_2, (own_3, (v_4, ((), ((), ((), ()))))))) (Comp.at' (Comp.inS (Comp.inS (Comp.inS (Comp.inS (Comp.inS (Comp.inF (Comp.self (rW (MPV go_13)) ()) (lE rfl))))))) (by rfl : _ = 20)) (lE rfl)))) <| dS 5 (fun γ ρ B hb hd => op_fieldAddr (off := 0) lb tf37_0 (.tmp (hb 3 _ rfl))) ?_
      refine dR 6 (fun γ ρ B hb hd => OpStep.lk ⟨ρ, (cvar gb_14 r_api_Event a_1) :: B, _⟩ (op_loadA (j := 0) lb tA31 (tl hd 4 60) rfl (cT (comp_api_Event_ID a_1) rfl) rfl)) <| dR 7 (fun γ ρ B hb hd => OpStep.lk ⟨ρ, (cvar gb_14 r_api_Event a_1) :: B, _⟩ (op_loadA (j := 0) lb tA37 (.tmp (hb 3 _ rfl)) rfl (Comp.self r_api_Event a_1) rfl)) <| dS 8 (fun γ ρ B hb hd => (op_call (js := []) ld cl29 (sim_cast_fresh k a_1 v_29 hv_29) .func (.cons (tl hd 6 62) .nil) rfl).post (fun _ => Imp.refl)) <| dR 9 (fun γ ρ B hb hd => OpStep.at ⟨ρ, (cmap go_13 (A r_api_Dot) (A r_api_Event) (some x_12)) :: B, _⟩ (setO ⟨ρ, (cmap go_13 (A r_api_Dot) (A r_api_Event) (some x_30)) :: B, _⟩ _ _) (op_mapUpdate (j := 0) tu72 ky31 rfl (tl hd 3 59) (tl hd 5 61) (tl hd 7 63) (congrArg (fun z => some (some z)) hv_x_30))) ?_
      exact DSteps.nil)
         (by decide +kernel) (fun _ => rfl) (fun _ => rfl) (fun _ => rfl) rfl
         (ρ' := fun γ => [])
         (X' := fun γ => [zq21 gb_5 go_7 x_6 gc_8 go_10 x_9 gc_11 go_13 regions_2 own_3 v_4, cown go_7 r_api_Event x_6 (List.length x_6) gc_8, cown go_10 (rV 16 (rU UInt64)) x_9 0 gc_11, cvar gb_14 r_api_Event a_1, cmap go_13 (A r_api_Dot) (A r_api_Event) (some x_30)])
         (fun γ ρ hb hd => .nil) (fun _ => rfl) (fun γ => ?_)
     refine JQ.at ⟨[], [zq21 gb_5 go_7 x_6 gc_8 go_10 x_9 gc_11 go_13 regions_2 own_3 v_4, cown go_7 r_api_Event x_6 (List.length x_6) gc_8, cown go_10 (rV 16 (rU UInt64)) x_9 0 gc_11, cvar gb_14 r_api_Event a_1, cmap go_13 (A r_api_Dot) (A r_api_Event) (some x_30)], []⟩ <| JQ.then <| jr <| jc (op_assign lb HasO.nilH) <| jc (op_assign lb .cI) <| jn <| JC.ret <| JQ.outR <| JQ.scR ?_
     obtain rfl := so hq2
     exact JQ.pre (Imp.nilown r_api_Event) <| JQ.done (js := [5, 0, 0, 0, 1]) (ss := [.val (HDR none 0 (List.length ([] : (List api_Event))) (0)), .val (S (rI .i64) (0 : Int))]) (none, 0, go_7, gc_8, go_10, gc_11) (.inl rfl) (.nil rfl) rfl (.cons (.tmp rfl) (.cons (.tmp rfl) .nil)) rfl rfl rfl
   refine JC.skip <| JQ.then <| jr <| jmv rfl rfl <| jc (op_nilCheck lb tR (fun e v h => by subst h; rfl)) <| jc (op_fieldAddr (off := 18) lb tf74_3 tR) <| jc (op_loadW (j := 0) lb tS42 tR rfl (Comp.trans (Comp.self (zq19 go_7 x_6 gc_8 go_10 x_9 gc_11 go_13) (regions_2, (own_3, (v_4, ((), ((), ((), ()))))))) (Comp.at' (Comp.inS (Comp.inS (Comp.inS (Comp.inF (Comp.self (rW (HDR go_7 0 (List.length x_6) gc_8)) ()) (lE rfl))))) (by rfl : _ = 18)) (lE rfl))) <| jc (op_lenH lb tu42 tR) <| jc (op_assign lb tR) <| jn <| jr <| jmv rfl rfl <| jc (op_loadA (j := 4) lb tA37 tR rfl (Comp.self r_api_Event a_1) rfl) <| JL.nrm ⟨[(0, ov (PTR gb_5 0)), (8, ov (S (rI .i64) (List.length x_6 : Int))), (69, ov (PTR gb_5 0)), (70, ov (A r_api_Event a_1))], [zq21 gb_5 go_7 x_6 gc_8 go_10 x_9 gc_11 go_13 regions_2 own_3 v_4, cown go_7 r_api_Event x_6 (List.length x_6) gc_8, cown go_10 (rV 16 (rU UInt64)) x_9 0 gc_11, cmap go_13 (A r_api_Dot) (A r_api_Event) (some x_12)], []⟩ [0, 0, 0, 0] rfl (.cons rfl (.cons rfl (.cons rfl (.cons rfl .nil)))) rfl <| bI hq2 fun v_31 hv_31 hq2 => jx (op_call (js := []) ld cl29 (sim_cast_fresh k a_1 v_31 hv_31) .func (.cons tR .nil) rfl) (fun _ => ?_)
   obtain ⟨⟨x_32, x_33, x_34⟩, hv_x_32, hq2⟩ := bnd_inv hq2
   refine jx (op_call (js := [0, 0, 0, 0]) ld cl28 (sim_cast_Caster_apply_pv_svvvoomm'2 k v_31 regions_2 own_3 v_4 x_6 x_9 x_12 gb_5 go_7 gc_8 go_10 gc_11 go_13 (x_32, x_33, x_34) hv_x_32) .func (.cons tR (.cons tR .nil)) rfl) (fun q => ?_)
   obtain ⟨go_35, gc_36, go_37, gc_38⟩ := q
   refine jn <| JC.seq <| JC.label <| JQ.then ?_
   obtain ⟨⟨v_77, log_78, behind_79, x_80⟩, hx18, hq18⟩ := bnd_inv hq2
   refine JC.seqJ (γ := Option Nat × Nat × Option Nat × Nat) (stj := fun q => ⟨[(0, ov (PTR gb_5 0)), (8, ov (S (rI .i64) (List.length x_6 : Int)))], [cvar gb_5 (rP (rI .i64) (rP (rI .i64) (rP (rV 16 (rU UInt64)) (rP (rW (HDR q.1 0 (List.length log_78) q.2.1)) (rP (rW (HDR q.2.2.1 0 (List.length behind_79) q.2.2.2)) (rP (rW (MPV go_13)) r0)))))) (regions_2, (own_3, (v_77, ((), ((), ((), ())))))), cown q.1 r_api_Event log_78 (List.length log_78) q.2.1, cown q.2.2.1 (rV 16 (rU UInt64)) behind_79 0 q.2.2.2, cmap go_13 (A r_api_Dot) (A r_api_Event) (some x_80)], []⟩) (fun q => ?_) ?_
   · obtain ⟨go_81, gc_82, go_83, gc_84⟩ := q
     refine JC.at ⟨[(0, ov (PTR gb_5 0)), (8, ov (S (rI .i64) (List.length x_6 : Int)))], [zq21 gb_5 go_81 log_78 gc_82 go_83 behind_79 gc_84 go_13 regions_2 own_3 v_77, cown go_81 r_api_Event log_78 (List.length log_78) gc_82, cown go_83 (rV 16 (rU UInt64)) behind_79 0 gc_84, cmap go_13 (A r_api_Dot) (A r_api_Event) (some x_80)], []⟩ <| jr <| jmv rfl rfl <| jc (op_nilCheck lb tR (fun e v h => by subst h; rfl)) <| jc (op_fieldAddr (off := 18) lb tf74_3 tR) <| jc (op_loadW (j := 0) lb tS42 tR rfl (Comp.trans (Comp.self (zq19 go_81 log_78 gc_82 go_83 behind_79 gc_84 go_13) (regions_2, (own_3, (v_77, ((), ((), ((), ()))))))) (Comp.at' (Comp.inS (Comp.inS (Comp.inS (Comp.inF (Comp.self (rW (HDR go_81 0 (List.length log_78) gc_82)) ()) (lE rfl))))) (by rfl : _ = 18)) (lE rfl))) <| jmv rfl rfl <| bI hq18 fun v_85 hv_85 hq18 => JL.pre (Imp.frz (j := 1) rfl (ImpK.slotH (s := 117) rfl (ImpK.var (j := 0) (q := (zq22 go_81 log_78 gc_82 go_83 behind_79 gc_84 go_13)) (y := (regions_2, (own_3, (v_77, ((), ((), ((), ()))))))) rfl (Wk.pair Wk.refl (Wk.pair Wk.refl (Wk.pair Wk.refl (Wk.pair Wk.own (Wk.pair Wk.refl (Wk.pair Wk.refl Wk.refl)))))) ImpK.refl))) <| jc (op_sliceLg lb tu42 tz37 (HasO.wk tR wkHL) (.some tR) .none hv_85) <| bI hq18 fun v_86 hv_86 hq18 => jx (op_call (js := []) ld cl31 (sim_cast_all k v_85 v_86 hv_86) .func (.cons tR .nil) rfl) (fun q => ?_)
     obtain ⟨go_87, gc_88⟩ := q
     refine jc (op_assign lb tR) <| JL.sub ⟨[(4, ov (HDR go_87 0 (List.length v_86) gc_88))], [cown go_87 r_api_Event v_86 0 gc_88, zq23 gb_5 go_81 log_78 gc_82 go_83 behind_79 gc_84 go_13 regions_2 own_3 v_77, cown go_81 r_api_Event log_78 (List.length log_78) gc_82, cown go_83 (rV 16 (rU UInt64)) behind_79 0 gc_84, cmap go_13 (A r_api_Dot) (A r_api_Event) (some x_80)], []⟩ (.cons rfl .nil) rfl rfl <| jc (op_assign lb .cI) <| jn <| JC.ret <| JQ.scR ?_
     obtain rfl := so hq18
     refine JQ.pre (Imp.var (j := 1) (q := (zq19 go_81 log_78 gc_82 go_83 behind_79 gc_84 go_13)) (y := (regions_2, (own_3, (v_77, ((), ((), ((), ()))))))) rfl (Wk.pair Wk.refl (Wk.pair Wk.refl (Wk.pair Wk.refl (Wk.pair Wk.hh (Wk.pair Wk.refl (Wk.pair Wk.refl Wk.refl))))))) ?_
     exact JQ.done (js := [0, 0, 0, 0, 0]) (ss := [.val (HDR go_87 0 (List.length v_86) gc_88), .val (S (rI .i64) (0 : Int))]) (go_87, gc_88, go_81, gc_82, go_83, gc_84) (.inl rfl) (.nil rfl) rfl (.cons (.tmp rfl) (.cons (.tmp rfl) .nil)) rfl rfl rfl
   refine jr <| jc (op_assign lb .cI) <| jn <| JC.block <| JC.pre ?_ (JC.loop (γ := Option Nat × Nat × Option Nat × Nat) (stf := fun s q => ⟨[(0, ov (PTR gb_5 0)), (8, ov (S (rI .i64) (List.length x_6 : Int))), (9, ov (S (rI .i64) s.2.2.2.2))], [cvar gb_5 (rP (rI .i64) (rP (rI .i64) (rP (rV 16 (rU UInt64)) (rP (rW (HDR q.1 0 (List.length s.2.1) q.2.1)) (rP (rW (HDR q.2.2.1 0 (List.length s.2.2.1) q.2.2.2)) (rP (rW (MPV go_13)) r0)))))) (regions_2, (own_3, (s.1, ((), ((), ((), ())))))), cown q.1 r_api_Event s.2.1 (List.length s.2.1) q.2.1, cown q.2.2.1 (rV 16 (rU UInt64)) s.2.2.1 0 q.2.2.2, cmap go_13 (A r_api_Dot) (A r_api_Event) (some s.2.2.2.1)], []⟩) (q := (go_35, gc_36, go_37, gc_38)) hx18 ?_)
   · exact (Imp.norm (js := [0, 0, 0, 0]) rfl (.cons rfl (.cons rfl (.cons rfl .nil))))
   intro s q x hx hr
   obtain ⟨v_39, log_40, behind_41, x_42, x_43⟩ := s
   obtain ⟨go_44, gc_45, go_46, gc_47⟩ := q
   change cast_Caster_Offer_pv_svvvoomm.b1 k regions_2 own_3 v_39 log_40 behind_41 x_42 x_43 = some x at hx
   unfold cast_Caster_Offer_pv_svvvoomm.b1 at hx
   refine JC.at ⟨[(0, ov (PTR gb_5 0)), (8, ov (S (rI .i64) (List.length x_6 : Int))), (9, ov (S (rI .i64) x_43))], [zq21 gb_5 go_44 log_40 gc_45 go_46 behind_41 gc_47 go_13 regions_2 own_3 v_39, cown go_44 r_api_Event log_40 (List.length log_40) gc_45, cown go_46 (rV 16 (rU UInt64)) behind_41 0 gc_47, cmap go_13 (A r_api_Dot) (A r_api_Event) (some x_42)], []⟩ <| JC.seq <| jr <| jmv rfl rfl <| jmv rfl rfl <| jc (op_nilCheck lb tR (fun e v h => by subst h; rfl)) <| jc (op_fieldAddr (off := 0) lb tf74_0 tR) <| jc (op_loadS (j := 0) lb tS3 tR rfl (Comp.trans (Comp.self (zq19 go_44 log_40 gc_45 go_46 behind_41 gc_47 go_13) (regions_2, (own_3, (v_39, ((), ((), ((), ()))))))) (Comp.at' (Comp.inF (Comp.self (rI .i64) regions_2) (lE rfl)) (by rfl : _ = 0)) (lE rfl)) rfl rfl) <| lI hx fun v_48 hv_48 hx => jc (op_cmpI lb tR tR (cs hv_48)) <| jn <| jif tR hx (fun hc20 hx => ?_) (fun hc20 hx => ?_)
   · refine JC.skip <| JQ.then ?_
     obtain ⟨⟨v_67, log_68, behind_69, x_70, x_71⟩, hx21, hq21⟩ := bnd_inv hx
     refine JC.seqJ (γ := Option Nat × Nat × Option Nat × Nat) (stj := fun q => ⟨[(0, ov (PTR gb_5 0)), (8, ov (S (rI .i64) (List.length x_6 : Int))), (9, ov (S (rI .i64) x_71))], [cvar gb_5 (rP (rI .i64) (rP (rI .i64) (rP (rV 16 (rU UInt64)) (rP (rW (HDR q.1 0 (List.length log_68) q.2.1)) (rP (rW (HDR q.2.2.1 0 (List.length behind_69) q.2.2.2)) (rP (rW (MPV go_13)) r0)))))) (regions_2, (own_3, (v_67, ((), ((), ((), ())))))), cown q.1 r_api_Event log_68 (List.length log_68) q.2.1, cown q.2.2.1 (rV 16 (rU UInt64)) behind_69 0 q.2.2.2, cmap go_13 (A r_api_Dot) (A r_api_Event) (some x_70)], []⟩) (fun q => ?_) ?_
     · obtain ⟨go_72, gc_73, go_74, gc_75⟩ := q
       refine JC.at ⟨[(0, ov (PTR gb_5 0)), (8, ov (S (rI .i64) (List.length x_6 : Int))), (9, ov (S (rI .i64) x_71))], [zq21 gb_5 go_72 log_68 gc_73 go_74 behind_69 gc_75 go_13 regions_2 own_3 v_67, cown go_72 r_api_Event log_68 (List.length log_68) gc_73, cown go_74 (rV 16 (rU UInt64)) behind_69 0 gc_75, cmap go_13 (A r_api_Dot) (A r_api_Event) (some x_70)], []⟩ <| JC.region <| jmv rfl rfl <| lI hq21 fun v_76 hv_76 hq21 => jc (op_arI lb tR .cI (cs hv_76)) <| jc (op_assign lb tR) <| JL.nil ?_
       try obtain rfl := so hq21
       exact JQ.next (go_72, gc_73, go_74, gc_75) rfl (Imp.norm (js := [0, 0, 0, 0]) rfl (.cons rfl (.cons rfl (.cons rfl .nil))))
     refine JC.block <| jr <| jmv rfl rfl <| jmv rfl rfl <| jmv rfl rfl <| lI hx21 fun v_49 hv_49 hx21 => jc (op_arI lb tR .cI (cs hv_49)) <| jc (op_nilCheck lb tR (fun e v h => by subst h; rfl)) <| jc (op_fieldAddr (off := 2) lb tf74_2 tR) <| JL.sub ⟨[(0, ov (PTR gb_5 0)), (8, ov (S (rI .i64) (List.length x_6 : Int))), (9, ov (S (rI .i64) x_43)), (81, ov (S (rI .i64) x_43)), (84, ov (S (rI .i64) v_49)), (86, ov (PTR gb_5 (0 + 2)))], [zq21 gb_5 go_44 log_40 gc_45 go_46 behind_41 gc_47 go_13 regions_2 own_3 v_39, cown go_44 r_api_Event log_40 (List.length log_40) gc_45, cown go_46 (rV 16 (rU UInt64)) behind_41 0 gc_47, cmap go_13 (A r_api_Dot) (A r_api_Event) (some x_42)], []⟩ (.cons rfl (.cons rfl (.cons rfl (.cons rfl (.cons rfl (.cons rfl .nil)))))) rfl rfl <| bI hx21 fun i_50 hv_i_50 hx21 => jc (op_indexAddrIF lb tr34 tR tR hv_i_50) <| lI hx21 fun v_51 hv_51 hx21 => jc (op_loadS (j := 0) lb tS29 tR rfl (Comp.at (Comp.trans (Comp.self (zq19 go_44 log_40 gc_45 go_46 behind_41 gc_47 go_13) (regions_2, (own_3, (v_39, ((), ((), ((), ()))))))) (Comp.at' (Comp.inS (Comp.inS (Comp.inF (Comp.self (rV 16 (rU UInt64)) v_39) (lE rfl)))) (by rfl : _ = 2)) (lE rfl)) i_50.2 rfl) rfl hv_51) ?_
     obtain ⟨v_52, hv_52, hx21⟩ := lt1_inv hx21
     refine jc (op_arU lb tR (HasO.cU (x := (1 : UInt64)) rfl (by decide)) (cs hv_52)) <| jc (op_build lb tZ31 zs31 tp31 (.S (off := 0) rfl tR rfl ((UpdR.fst (UpdR.self (by rfl))).at (by rfl)) (.S (off := 1) rfl tR rfl ((UpdR.snd (UpdR.fst (UpdR.self (by rfl)))).at (by rfl)) .nil)) rfl) <| jx (op_alloc lb tZ31 zr31) fun gb_53 => jc (op_storeA (j := 4) tA31 tR tR rfl (UpdR.self (by rfl)) rfl) <| jn <| JC.seq ?_
     obtain ⟨⟨v_54, is_55⟩, hv_54, hx21⟩ := bnd_inv hx21
     refine JC.anyF (base := [(0, ov (PTR gb_5 0)), (8, ov (S (rI .i64) (List.length x_6 : Int))), (9, ov (S (rI .i64) x_43)), (10, ov (PTR gb_53 0))])
         (fs := fun γ => [⟨some 92, ov (PTR gb_5 0)⟩, ⟨some 93, ov (PTR gb_5 0)⟩, ⟨some 94, ov (PTR gb_5 (0 + 20))⟩, ⟨some 95, ov (MPV go_13)⟩, ⟨some 96, ov (A (rP (rI .i64) (rP (rU UInt64) r0)) (x_43, (v_52, ())))⟩, ⟨some 97, .tup [.val (A r_api_Event v_54), .val (S rB is_55)]⟩, ⟨some 91, .tup [.val (A r_api_Event v_54), .val (S rB is_55)]⟩, ⟨some 98, ov (A r_api_Event v_54)⟩, ⟨some 99, ov (S rB is_55)⟩, ⟨some 11, ov (PTR (γ 9 0) 0)⟩, ⟨none, .one .any⟩, ⟨some 12, ov (S rB is_55)⟩])
         (rs := fun γ => [⟨zq21 gb_5 go_44 log_40 gc_45 go_46 behind_41 gc_47 go_13 regions_2 own_3 v_39, none, none, [3]⟩, ⟨cown go_44 r_api_Event log_40 (List.length log_40) gc_45, none, none, []⟩, ⟨cown go_46 (rV 16 (rU UInt64)) behind_41 0 gc_47, none, none, []⟩, ⟨cmap go_13 (A r_api_Dot) (A r_api_Event) (some x_42), none, none, [5]⟩, ⟨cvar gb_53 (rP (rI .i64) (rP (rU UInt64) r0)) (x_43, (v_52, ())), none, none, [4]⟩, ⟨cvar (γ 9 0) zq1 zq2, (some 9), (some 10), []⟩, ⟨cvar (γ 9 0) r_api_Event v_54, (some 10), none, []⟩])
         (afts := [[], [], [], [], [], [], [], [], [], [9, 10, 11], [], []]) (js := [0, 0, 0, 0, 0]) mixed (.cons rfl (.cons rfl (.cons rfl (.cons rfl .nil)))) (fun _ => rfl)
         (by
      refine db 1 0 <| dS 2 (fun γ ρ B hb hd => op_nilCheck lb (tl hd 0 92) (fun e v h => by subst h; rfl)) <| dS 3 (fun γ ρ B hb hd => op_fieldAddr (off := 20) lb tf74_5 (tl hd 1 93)) <| dR 4 (fun γ ρ B hb hd => OpStep.lk ⟨ρ, (zq21 gb_5 go_44 log_40 gc_45 go_46 behind_41 gc_47 go_13 regions_2 own_3 v_39) :: B, _⟩ (op_loadW (j := 0) lb tS72 (tl hd 2 94) rfl (Comp.trans (Comp.self (zq19 go_44 log_40 gc_45 go_46 behind_41 gc_47 go_13) (regions_2, (own_3, (v_39, ((), ((), ((), ()))))))) (Comp.at' (Comp.inS (Comp.inS (Comp.inS (Comp.inS (Comp.inS (Comp.inF (Comp.self (rW (MPV go_13)) ()) (lE rfl))))))) (by rfl : _ = 20)) (lE rfl)))) <| dR 5 (fun γ ρ B hb hd => OpStep.lk ⟨ρ, (cvar gb_53 (rP (rI .i64) (rP (rU UInt64) r0)) (x_43, (v_52, ()))) :: B, _⟩ (op_loadA (j := 0) lb tA31 (.tmp (hb 10 _ rfl)) rfl (Comp.self (rP (rI .i64) (rP (rU UInt64) r0)) (x_43, (v_52, ()))) rfl)) ?_
      refine dR 6 (fun γ ρ B hb hd => OpStep.lk ⟨ρ, (cmap go_13 (A r_api_Dot) (A r_api_Event) (some x_42)) :: B, _⟩ (op_lookupD (z0 := (api_Event.mk (api_Dot.mk (0 : Int) (0 : UInt64)) ([] : (List UInt8)) ([] : (List UInt8)) (Vector.replicate 16 (0 : UInt64)) ([] : (List api_Dest)))) (j := 0) lb tu72 ky31 tZ37 (fun e => ⟨_, rfl, zv37 e⟩) rfl (tl hd 3 95) (HasO.wk (q := A r_api_Dot (api_Dot.mk x_43 v_52)) (tl hd 4 96) (wkAK (Wk.st Wk.refl))) hv_54)) <| dm 7 5 97 <| dS 8 (fun γ ρ B hb hd => op_extract (i := 0) lb (tl hd 6 91) rfl) <| dS 9 (fun γ ρ B hb hd => op_extract (i := 1) lb (tl hd 6 91) rfl) ?_
      refine DSteps.cons (j := 10) rfl (fun _ => rfl) (.runX (fun _ _ => rfl) (fun γ ρ B hb hd => ⟨.none, OpX.ghost (γ := Nat) (st' := fun q => setO ⟨ρ, (cvar q zq1 zq2) :: B, _⟩ (some 11) (ov (PTR q 0))) (fun q c => q) (OpX.front (op_alloc lb tZ37 zr37)) (fun q => Imp.refl)⟩) (fun _ _ => rfl) (fun _ _ => rfl)) ?_
      refine dR 11 (fun γ ρ B hb hd => OpStep.at ⟨ρ, (cvar (γ 9 0) zq1 zq2) :: B, _⟩ (setO ⟨ρ, (cvar (γ 9 0) r_api_Event v_54) :: B, _⟩ _ _) (op_storeA (j := 0) tA37 (tl hd 9 11) (tl hd 7 98) rfl (UpdR.self (by rfl)) rfl)) <| dS 12 (fun γ ρ B hb hd => op_assign lb (tl hd 8 99)) ?_
      exact DSteps.nil)
         (by decide +kernel) (fun _ => rfl) (fun _ => rfl) (fun _ => rfl) rfl
         (ρ' := fun γ => [(0, ov (PTR gb_5 0)), (8, ov (S (rI .i64) (List.length x_6 : Int))), (9, ov (S (rI .i64) x_43)), (10, ov (PTR gb_53 0)), (11, ov (PTR (γ 9 0) 0)), (12, ov (S rB is_55))])
         (X' := fun γ => [zq21 gb_5 go_44 log_40 gc_45 go_46 behind_41 gc_47 go_13 regions_2 own_3 v_39, cown go_44 r_api_Event log_40 (List.length log_40) gc_45, cown go_46 (rV 16 (rU UInt64)) behind_41 0 gc_47, cmap go_13 (A r_api_Dot) (A r_api_Event) (some x_42), cvar gb_53 (rP (rI .i64) (rP (rU UInt64) r0)) (x_43, (v_52, ())), cvar (γ 9 0) r_api_Event v_54])
         (fun γ ρ hb hd => (.cons (hb 0 _ rfl) (.cons (hb 8 _ rfl) (.cons (hb 9 _ rfl) (.cons (hb 10 _ rfl) (.cons (hdq hd 9 11 rfl) (.cons (hdq hd 11 12 rfl) .nil))))))) (fun _ => rfl) (fun γ => ?_)
     generalize (γ 9 0) = gb_56
     clear γ
     refine JQ.at ⟨[(0, ov (PTR gb_5 0)), (8, ov (S (rI .i64) (List.length x_6 : Int))), (9, ov (S (rI .i64) x_43)), (10, ov (PTR gb_53 0)), (11, ov (PTR gb_56 0)), (12, ov (S rB is_55))], [zq21 gb_5 go_44 log_40 gc_45 go_46 behind_41 gc_47 go_13 regions_2 own_3 v_39, cown go_44 r_api_Event log_40 (List.length log_40) gc_45, cown go_46 (rV 16 (rU UInt64)) behind_41 0 gc_47, cmap go_13 (A r_api_Dot) (A r_api_Event) (some x_42), cvar gb_53 (rP (rI .i64) (rP (rU UInt64) r0)) (x_43, (v_52, ())), cvar gb_56 r_api_Event v_54], []⟩ <| JQ.then <| bI hx21 fun x_58 hx22 hq22 => JC.seqJ (γ := Unit) (stj := fun _ => ⟨[(0, ov (PTR gb_5 0)), (8, ov (S (rI .i64) (List.length x_6 : Int))), (9, ov (S (rI .i64) x_43)), (10, ov (PTR gb_53 0)), (11, ov (PTR gb_56 0)), (105, ov (S rB x_58))], [zq21 gb_5 go_44 log_40 gc_45 go_46 behind_41 gc_47 go_13 regions_2 own_3 v_39, cown go_44 r_api_Event log_40 (List.length log_40) gc_45, cown go_46 (rV 16 (rU UInt64)) behind_41 0 gc_47, cmap go_13 (A r_api_Dot) (A r_api_Event) (some x_42), cvar gb_53 (rP (rI .i64) (rP (rU UInt64) r0)) (x_43, (v_52, ())), cvar gb_56 r_api_Event v_54], []⟩) (fun _ => ?_) ?_
     · rcases iteB_inv hq22 with ⟨hc27, hq22⟩ | ⟨hc27, hq22⟩
       · refine JC.condT tR hc27 <| JC.seq ?_
         obtain ⟨x_59, hv_x_59, hq22⟩ := lt1_inv hq22
         refine JC.anyF (base := [(0, ov (PTR gb_5 0)), (8, ov (S (rI .i64) (List.length x_6 : Int))), (10, ov (PTR gb_53 0)), (11, ov (PTR gb_56 0))])
             (fs := fun γ => [⟨some 106, ov (PTR gb_5 0)⟩, ⟨some 107, ov (PTR gb_5 0)⟩, ⟨some 108, ov (PTR gb_5 (0 + 20))⟩, ⟨some 109, ov (MPV go_13)⟩, ⟨some 110, ov (A (rP (rI .i64) (rP (rU UInt64) r0)) (x_43, (v_52, ())))⟩, ⟨none, .one .any⟩])
             (rs := fun γ => [⟨zq21 gb_5 go_44 log_40 gc_45 go_46 behind_41 gc_47 go_13 regions_2 own_3 v_39, none, none, [3]⟩, ⟨cown go_44 r_api_Event log_40 (List.length log_40) gc_45, none, none, []⟩, ⟨cown go_46 (rV 16 (rU UInt64)) behind_41 0 gc_47, none, none, []⟩, ⟨cmap go_13 (A r_api_Dot) (A r_api_Event) (some x_42), none, (some 5), []⟩, ⟨cvar gb_53 (rP (rI .i64) (rP (rU UInt64) r0)) (x_43, (v_52, ())), none, none, [4]⟩, ⟨cvar gb_56 r_api_Event v_54, none, none, []⟩, ⟨cmap go_13 (A r_api_Dot) (A r_api_Event) (some x_59), (some 5), none, []⟩])
             (afts := nn 6) (js := [0, 0, 0, 0, 0, 0]) mixed (.cons rfl (.cons rfl (.cons rfl (.cons rfl .nil)))) (fun _ => rfl)
             (by
      refine db 1 0 <| dS 2 (fun γ ρ B hb hd => op_nilCheck lb (tl hd 0 106) (fun e v h => by subst h; rfl)) <| dS 3 (fun γ ρ B hb hd => op_fieldAddr (off := 20) lb tf74_5 (tl hd 1 107)) <| dR 4 (fun γ ρ B hb hd => OpStep.lk ⟨ρ, (zq21 gb_5 go_44 log_40 gc_45 go_46 behind_41 gc_47 go_13 regions_2 own_3 v_39) :: B, _⟩ (op_loadW (j := 0) lb tS72 (tl hd 2 108) rfl (Comp.trans (Comp.self (zq19 go_44 log_40 gc_45 go_46 behind_41 gc_47 go_13) (regions_2, (own_3, (v_39, ((), ((), ((), ()))))))) (Comp.at' (Comp.inS (Comp.inS (Comp.inS (Comp.inS (Comp.inS (Comp.inF (Comp.self (rW (MPV go_13)) ()) (lE rfl))))))) (by rfl : _ = 20)) (lE rfl)))) <| dR 5 (fun γ ρ B hb hd => OpStep.lk ⟨ρ, (cvar gb_53 (rP (rI .i64) (rP (rU UInt64) r0)) (x_43, (v_52, ()))) :: B, _⟩ (op_loadA (j := 0) lb tA31 (.tmp (hb 10 _ rfl)) rfl (Comp.self (rP (rI .i64) (rP (rU UInt64) r0)) (x_43, (v_52, ()))) rfl)) ?_
      refine dR 6 (fun γ ρ B hb hd => OpStep.at ⟨ρ, (cmap go_13 (A r_api_Dot) (A r_api_Event) (some x_42)) :: B, _⟩ (setO ⟨ρ, (cmap go_13 (A r_api_Dot) (A r_api_Event) (some x_59)) :: B, _⟩ _ _) (op_delete (j := 0) rfl tu72 ky31 rfl (tl hd 3 109) (HasO.wk (q := A r_api_Dot (api_Dot.mk x_43 v_52)) (tl hd 4 110) (wkAK (Wk.st Wk.refl))) (cs hv_x_59))) ?_
      exact DSteps.nil)
             (by decide +kernel) (fun _ => rfl) (fun _ => rfl) (fun _ => rfl) rfl
             (ρ' := fun γ => [(0, ov (PTR gb_5 0)), (8, ov (S (rI .i64) (List.length x_6 : Int))), (11, ov (PTR gb_56 0))])
             (X' := fun γ => [zq21 gb_5 go_44 log_40 gc_45 go_46 behind_41 gc_47 go_13 regions_2 own_3 v_39, cown go_44 r_api_Event log_40 (List.length log_40) gc_45, cown go_46 (rV 16 (rU UInt64)) behind_41 0 gc_47, cvar gb_53 (rP (rI .i64) (rP (rU UInt64) r0)) (x_43, (v_52, ())), cvar gb_56 r_api_Event v_54, cmap go_13 (A r_api_Dot) (A r_api_Event) (some x_59)])
             (fun γ ρ hb hd => (.cons (hb 0 _ rfl) (.cons (hb 8 _ rfl) (.cons (hb 11 _ rfl) .nil)))) (fun _ => rfl) (fun γ => ?_)
         refine JQ.at ⟨[(0, ov (PTR gb_5 0)), (8, ov (S (rI .i64) (List.length x_6 : Int))), (11, ov (PTR gb_56 0))], [zq21 gb_5 go_44 log_40 gc_45 go_46 behind_41 gc_47 go_13 regions_2 own_3 v_39, cown go_44 r_api_Event log_40 (List.length log_40) gc_45, cown go_46 (rV 16 (rU UInt64)) behind_41 0 gc_47, cvar gb_53 (rP (rI .i64) (rP (rU UInt64) r0)) (x_43, (v_52, ())), cvar gb_56 r_api_Event v_54, cmap go_13 (A r_api_Dot) (A r_api_Event) (some x_59)], []⟩ <| JQ.then <| jr <| jmv rfl rfl <| jc (op_loadA (j := 4) lb tA37 tR rfl (Comp.self r_api_Event v_54) rfl) ?_
         obtain ⟨⟨x_60, x_61, x_62⟩, hv_x_60, hq22⟩ := bnd_inv hq22
         refine jx (op_call (js := [0, 0, 0, 2]) ld cl28 (sim_cast_Caster_apply_pv_svvvoomm'2 k v_54 regions_2 own_3 v_39 log_40 behind_41 x_59 gb_5 go_44 gc_45 go_46 gc_47 go_13 (x_60, x_61, x_62) hv_x_60) .func (.cons tR (.cons tR .nil)) rfl) (fun q => ?_)
         obtain ⟨go_63, gc_64, go_65, gc_66⟩ := q
         refine jn <| jr <| jc (op_assign lb .cI) <| jn <| JC.exit <| JQ.here ?_
         have hz := Option.some.inj hq22
         replace hz := Prod.mk.inj hz
         obtain ⟨hz_a, hz⟩ := hz
         first | subst hz_a | clear hz_a
         replace hz := Prod.mk.inj hz
         obtain ⟨hz_a, hz⟩ := hz
         first | subst hz_a | clear hz_a
         replace hz := Prod.mk.inj hz
         obtain ⟨hz_a, hz⟩ := hz
         first | subst hz_a | clear hz_a
         replace hz := Prod.mk.inj hz
         obtain ⟨hz_a, hz⟩ := hz
         first | subst hz_a | clear hz_a
         first | subst hz | clear hz
         exact JQ.join (go_63, gc_64, go_65, gc_66) (Imp.norm (js := [0, 0, 0, 0]) rfl (.cons rfl (.cons rfl (.cons rfl .nil))))
       refine JC.condF tR hc27 <| JC.skip <| JQ.outNB ?_
       have hz := Option.some.inj hq22
       replace hz := Prod.mk.inj hz
       obtain ⟨hz_a, hz⟩ := hz
       first | subst hz_a | clear hz_a
       replace hz := Prod.mk.inj hz
       obtain ⟨hz_a, hz⟩ := hz
       first | subst hz_a | clear hz_a
       replace hz := Prod.mk.inj hz
       obtain ⟨hz_a, hz⟩ := hz
       first | subst hz_a | clear hz_a
       replace hz := Prod.mk.inj hz
       obtain ⟨hz_a, hz⟩ := hz
       first | subst hz_a | clear hz_a
       first | subst hz | clear hz
       exact JQ.join (go_44, gc_45, go_46, gc_47) (Imp.norm (js := [0, 0, 0, 0]) rfl (.cons rfl (.cons rfl (.cons rfl .nil))))
     refine JC.region <| jmv rfl rfl <| jmv rfl rfl <| jT (ov (PTR gb_5 0)) rfl rfl rfl rfl (fun hq_23 => op_move lb tR) <| jT (ov (A r_api_Event v_54)) rfl rfl rfl rfl (fun hq_24 => op_loadA (j := 5) lb tA37 tR rfl (Comp.self r_api_Event v_54) rfl) ?_
     rcases iteB_inv hx22 with ⟨hc26, hx22⟩ | ⟨hc26, hx22⟩
     · refine bI hx22 fun v_57 hv_57 hx22 => JL.runX (.yes rfl (ltB rfl) rfl hc26) (op_call (js := [0, 0, 0, 0]) ld cl30 (sim_cast_Caster_can_pv_svvvoomm'2 k v_54 regions_2 own_3 v_39 log_40 behind_41 x_42 gb_5 go_44 gc_45 go_46 gc_47 go_13 v_57 hv_57) .func (.cons (HasO.cnd tR hc26) (.cons (HasO.cnd tR hc26) .nil)) rfl) fun _ => jc (op_pickT lb tR hc26 tR) <| JL.nil ?_
       try obtain rfl := so hx22
       exact JQ.join () (Imp.norm (js := [0, 0, 0, 0, 0, 0]) rfl (.cons rfl (.cons rfl (.cons rfl (.cons rfl (.cons rfl (.cons rfl .nil)))))))
     refine jk rfl hc26 <| jc (op_pickF lb tR hc26 .cB) <| JL.nil ?_
     try obtain rfl := so hx22
     exact JQ.join () (Imp.norm (js := [0, 0, 0, 0, 0, 0]) rfl (.cons rfl (.cons rfl (.cons rfl (.cons rfl (.cons rfl (.cons rfl .nil)))))))
   refine JC.exit <| JQ.outX ?_
   try obtain rfl := so hx
   have ht := hr _ rfl
   have hq19 := cs ht
   clear hr ht
   refine JQ.outX <| JQ.here ?_
   have hz := Option.some.inj hq19
   replace hz := Prod.mk.inj hz
   obtain ⟨hz_a, hz⟩ := hz
   first | subst hz_a | clear hz_a
   replace hz := Prod.mk.inj hz
   obtain ⟨hz_a, hz⟩ := hz
   first | subst hz_a | clear hz_a
   replace hz := Prod.mk.inj hz
   obtain ⟨hz_a, hz⟩ := hz
   first | subst hz_a | clear hz_a
   first | subst hz | clear hz
   exact JQ.join (go_44, gc_45, go_46, gc_47) (Imp.norm (js := [0, 0, 0, 0]) rfl (.cons rfl (.cons rfl .nil)))
 obtain ⟨v_21, hv_21, hx2⟩ := lt1_inv hx2
 rcases iteB_inv hx2 with ⟨hc14, hx2⟩ | ⟨hc14, hx2⟩
 · refine JC.anyF (base := [(0, ov (PTR gb_5 0)), (3, ov (PTR gb_14 0)), (7, ov (S rB is_19))])
       (fs := fun γ => [⟨some 30, ov (S rB is_19)⟩, ⟨some 31, ov (S rB is_19)⟩, ⟨some 32, bif (!is_19) then ov (PTR gb_14 (0 + 0)) else .one .und⟩, ⟨some 33, bif (!is_19) then ov (PTR gb_14 ((0 + 0) + 1)) else .one .und⟩, ⟨some 34, bif (!is_19) then ov (S (rU UInt64) a_1.ID.Count) else .one .und⟩, ⟨some 35, bif (!is_19) then ov (PTR gb_5 0) else .one .und⟩, ⟨some 36, bif (!is_19) then ov (PTR gb_14 (0 + 0)) else .one .und⟩, ⟨some 37, bif (!is_19) then ov (PTR gb_14 ((0 + 0) + 0)) else .one .und⟩, ⟨some 38, bif (!is_19) then ov (S (rI .i64) a_1.ID.Region) else .one .und⟩, ⟨some 39, bif (!is_19) then ov (S (rI .i64) v_21) else .one .und⟩, ⟨some 40, bif (!is_19) then ov (PTR gb_5 0) else .one .und⟩, ⟨some 41, bif (!is_19) then ov (PTR gb_5 (0 + 2)) else .one .und⟩, ⟨some 42, .one .und⟩, ⟨some 43, .one .und⟩, ⟨some 44, .one .und⟩, ⟨some 45, ov (S rB true)⟩])
       (rs := fun γ => [⟨zq21 gb_5 go_7 x_6 gc_8 go_10 x_9 gc_11 go_13 regions_2 own_3 v_4, none, none, []⟩, ⟨cown go_7 r_api_Event x_6 (List.length x_6) gc_8, none, none, []⟩, ⟨cown go_10 (rV 16 (rU UInt64)) x_9 0 gc_11, none, none, []⟩, ⟨cmap go_13 (A r_api_Dot) (A r_api_Event) (some x_12), none, none, []⟩, ⟨cvar gb_14 r_api_Event a_1, none, none, [4, 8]⟩, ⟨cvar gb_20 r_api_Event v_18, none, none, []⟩])
       (afts := nn 16) (js := [0, 0, 0, 0, 0, 0]) mixed (.cons rfl (.cons rfl (.cons rfl .nil))) (fun _ => rfl)
       (by
      refine db 1 7 <| dm 2 0 30 ?_
      refine dF 3 1 31 is_19 (fun γ => ov (PTR gb_14 (0 + 0))) (fun γ ρ B hb hd hq_3 => op_fieldAddr (off := 0) lb tf37_0 (.tmp (hb 3 _ rfl))) ?_
      refine dF 4 1 31 is_19 (fun γ => ov (PTR gb_14 ((0 + 0) + 1))) (fun γ ρ B hb hd hq_4 => op_fieldAddr (off := 1) lb tf31_1 (HasO.cnd (tl hd 2 32) (notT (notF hq_4)))) ?_
      refine eF 5 1 31 is_19 (fun γ => ov (S (rU UInt64) a_1.ID.Count)) (fun γ ρ B hb hd hq_5 => OpStep.lk ⟨ρ, (cvar gb_14 r_api_Event a_1) :: B, _⟩ (op_loadS (j := 0) lb tS29 (HasO.cnd (tl hd 3 33) (notT (notF hq_5))) rfl (Comp.trans (cT (comp_api_Event_ID a_1) rfl) (comp_api_Dot_Count a_1.ID) (lE rfl)) rfl rfl)) ?_
      refine dF 6 1 31 is_19 (fun γ => ov (PTR gb_5 0)) (fun γ ρ B hb hd hq_6 => op_move lb (.tmp (hb 0 _ rfl))) ?_
      refine dF 7 1 31 is_19 (fun γ => ov (PTR gb_14 (0 + 0))) (fun γ ρ B hb hd hq_7 => op_fieldAddr (off := 0) lb tf37_0 (.tmp (hb 3 _ rfl))) ?_
      refine dF 8 1 31 is_19 (fun γ => ov (PTR gb_14 ((0 + 0) + 0))) (fun γ ρ B hb hd hq_8 => op_fieldAddr (off := 0) lb tf31_0 (HasO.cnd (tl hd 6 36) (notT (notF hq_8)))) ?_
      refine eF 9 1 31 is_19 (fun γ => ov (S (rI .i64) a_1.ID.Region)) (fun γ ρ B hb hd hq_9 => OpStep.lk ⟨ρ, (cvar gb_14 r_api_Event a_1) :: B, _⟩ (op_loadS (j := 0) lb tS3 (HasO.cnd (tl hd 7 37) (notT (notF hq_9))) rfl (Comp.trans (cT (comp_api_Event_ID a_1) rfl) (comp_api_Dot_Region a_1.ID) (lE rfl)) rfl rfl)) ?_
      refine dF 10 1 31 is_19 (fun γ => ov (S (rI .i64) v_21)) (fun γ ρ B hb hd hq_10 => op_arI lb (HasO.cnd (tl hd 8 38) (notT (notF hq_10))) .cI (cs hv_21)) ?_
      refine dF 11 1 31 is_19 (fun γ => ov (PTR gb_5 0)) (fun γ ρ B hb hd hq_11 => op_nilCheck lb (HasO.cnd (tl hd 5 35) (notT (notF hq_11))) (fun e v h => by subst h; rfl)) ?_
      refine dF 12 1 31 is_19 (fun γ => ov (PTR gb_5 (0 + 2))) (fun γ ρ B hb hd hq_12 => op_fieldAddr (off := 2) lb tf74_2 (HasO.cnd (tl hd 10 40) (notT (notF hq_12)))) ?_
      refine kn 13 1 31 rfl hc14 <| kn 14 1 31 rfl hc14 <| kn 15 1 31 rfl hc14 <| dS 16 (fun γ ρ B hb hd => op_pickT lb (tl hd 1 31) hc14 .cB) ?_
      exact DSteps.nil)
       (by decide +kernel) (fun _ => rfl) (fun _ => rfl) (fun _ => rfl) rfl
       (ρ' := fun γ => [(0, ov (PTR gb_5 0)), (3, ov (PTR gb_14 0)), (45, ov (S rB true))])
       (X' := fun γ => [zq21 gb_5 go_7 x_6 gc_8 go_10 x_9 gc_11 go_13 regions_2 own_3 v_4, cown go_7 r_api_Event x_6 (List.length x_6) gc_8, cown go_10 (rV 16 (rU UInt64)) x_9 0 gc_11, cmap go_13 (A r_api_Dot) (A r_api_Event) (some x_12), cvar gb_14 r_api_Event a_1, cvar gb_20 r_api_Event v_18])
       (fun γ ρ hb hd => (.cons (hb 0 _ rfl) (.cons (hb 3 _ rfl) (.cons (hdq hd 15 45 rfl) .nil)))) (fun _ => rfl) (fun γ => ?_)
   refine JQ.at ⟨[(0, ov (PTR gb_5 0)), (3, ov (PTR gb_14 0)), (45, ov (S rB true))], [zq21 gb_5 go_7 x_6 gc_8 go_10 x_9 gc_11 go_13 regions_2 own_3 v_4, cown go_7 r_api_Event x_6 (List.length x_6) gc_8, cown go_10 (rV 16 (rU UInt64)) x_9 0 gc_11, cmap go_13 (A r_api_Dot) (A r_api_Event) (some x_12), cvar gb_14 r_api_Event a_1, cvar gb_20 r_api_Event v_18], []⟩ ?_
   try obtain rfl := so hx2
   exact JQ.join () (Imp.norm (js := [0, 0, 0, 0, 0]) rfl (.cons rfl (.cons rfl (.cons rfl .nil))))
 refine bI hx2 fun i_22 hv_i_22 hx2 => lI hx2 fun v_23 hv_23 hx2 => ?_
 obtain ⟨v_24, hv_24, hx2⟩ := lt1_inv hx2
 refine JC.anyF (base := [(0, ov (PTR gb_5 0)), (3, ov (PTR gb_14 0)), (7, ov (S rB is_19))])
     (fs := fun γ => [⟨some 30, ov (S rB is_19)⟩, ⟨some 31, ov (S rB is_19)⟩, ⟨some 32, bif (!is_19) then ov (PTR gb_14 (0 + 0)) else .one .und⟩, ⟨some 33, bif (!is_19) then ov (PTR gb_14 ((0 + 0) + 1)) else .one .und⟩, ⟨some 34, bif (!is_19) then ov (S (rU UInt64) a_1.ID.Count) else .one .und⟩, ⟨some 35, bif (!is_19) then ov (PTR gb_5 0) else .one .und⟩, ⟨some 36, bif (!is_19) then ov (PTR gb_14 (0 + 0)) else .one .und⟩, ⟨some 37, bif (!is_19) then ov (PTR gb_14 ((0 + 0) + 0)) else .one .und⟩, ⟨some 38, bif (!is_19) then ov (S (rI .i64) a_1.ID.Region) else .one .und⟩, ⟨some 39, bif (!is_19) then ov (S (rI .i64) v_21) else .one .und⟩, ⟨some 40, bif (!is_19) then ov (PTR gb_5 0) else .one .und⟩, ⟨some 41, bif (!is_19) then ov (PTR gb_5 (0 + 2)) else .one .und⟩, ⟨some 42, ov (PTR gb_5 ((0 + 2) + i_22.1 * 1))⟩, ⟨some 43, ov (S (rU UInt64) v_23)⟩, ⟨some 44, ov (S rB v_24)⟩, ⟨some 45, ov (S rB v_24)⟩])
     (rs := fun γ => [⟨zq21 gb_5 go_7 x_6 gc_8 go_10 x_9 gc_11 go_13 regions_2 own_3 v_4, none, none, [13]⟩, ⟨cown go_7 r_api_Event x_6 (List.length x_6) gc_8, none, none, []⟩, ⟨cown go_10 (rV 16 (rU UInt64)) x_9 0 gc_11, none, none, []⟩, ⟨cmap go_13 (A r_api_Dot) (A r_api_Event) (some x_12), none, none, []⟩, ⟨cvar gb_14 r_api_Event a_1, none, none, [4, 8]⟩, ⟨cvar gb_20 r_api_Event v_18, none, none, []⟩])
     (afts := nn 16) (js := [0, 0, 0, 0, 0, 0]) mixed (.cons rfl (.cons rfl (.cons rfl .nil))) (fun _ => rfl)
     (by
      refine db 1 7 <| dm 2 0 30 ?_
      refine dF 3 1 31 is_19 (fun γ => ov (PTR gb_14 (0 + 0))) (fun γ ρ B hb hd hq_3 => op_fieldAddr (off := 0) lb tf37_0 (.tmp (hb 3 _ rfl))) ?_
      refine dF 4 1 31 is_19 (fun γ => ov (PTR gb_14 ((0 + 0) + 1))) (fun γ ρ B hb hd hq_4 => op_fieldAddr (off := 1) lb tf31_1 (HasO.cnd (tl hd 2 32) (notT (notF hq_4)))) ?_
      refine eF 5 1 31 is_19 (fun γ => ov (S (rU UInt64) a_1.ID.Count)) (fun γ ρ B hb hd hq_5 => OpStep.lk ⟨ρ, (cvar gb_14 r_api_Event a_1) :: B, _⟩ (op_loadS (j := 0) lb tS29 (HasO.cnd (tl hd 3 33) (notT (notF hq_5))) rfl (Comp.trans (cT (comp_api_Event_ID a_1) rfl) (comp_api_Dot_Count a_1.ID) (lE rfl)) rfl rfl)) ?_
      refine dF 6 1 31 is_19 (fun γ => ov (PTR gb_5 0)) (fun γ ρ B hb hd hq_6 => op_move lb (.tmp (hb 0 _ rfl))) ?_
      refine dF 7 1 31 is_19 (fun γ => ov (PTR gb_14 (0 + 0))) (fun γ ρ B hb hd hq_7 => op_fieldAddr (off := 0) lb tf37_0 (.tmp (hb 3 _ rfl))) ?_
      refine dF 8 1 31 is_19 (fun γ => ov (PTR gb_14 ((0 + 0) + 0))) (fun γ ρ B hb hd hq_8 => op_fieldAddr (off := 0) lb tf31_0 (HasO.cnd (tl hd 6 36) (notT (notF hq_8)))) ?_
      refine eF 9 1 31 is_19 (fun γ => ov (S (rI .i64) a_1.ID.Region)) (fun γ ρ B hb hd hq_9 => OpStep.lk ⟨ρ, (cvar gb_14 r_api_Event a_1) :: B, _⟩ (op_loadS (j := 0) lb tS3 (HasO.cnd (tl hd 7 37) (notT (notF hq_9))) rfl (Comp.trans (cT (comp_api_Event_ID a_1) rfl) (comp_api_Dot_Region a_1.ID) (lE rfl)) rfl rfl)) ?_
      refine dF 10 1 31 is_19 (fun γ => ov (S (rI .i64) v_21)) (fun γ ρ B hb hd hq_10 => op_arI lb (HasO.cnd (tl hd 8 38) (notT (notF hq_10))) .cI (cs hv_21)) ?_
      refine dF 11 1 31 is_19 (fun γ => ov (PTR gb_5 0)) (fun γ ρ B hb hd hq_11 => op_nilCheck lb (HasO.cnd (tl hd 5 35) (notT (notF hq_11))) (fun e v h => by subst h; rfl)) ?_
      refine dF 12 1 31 is_19 (fun γ => ov (PTR gb_5 (0 + 2))) (fun γ ρ B hb hd hq_12 => op_fieldAddr (off := 2) lb tf74_2 (HasO.cnd (tl hd 10 40) (notT (notF hq_12)))) ?_
      refine dY 13 (fun γ ρ B hb hd => ⟨.yes rfl (ltB rfl) (hl hd 1 31 rfl) hc14, lkB (op_indexAddrIF lb tr34 (HasO.cnd (tl hd 11 41) (notT hc14)) (HasO.cnd (tl hd 9 39) (notT hc14)) hv_i_22)⟩) <| dY 14 (fun γ ρ B hb hd => ⟨.yes rfl (ltB rfl) (hl hd 1 31 rfl) hc14, OpStep.lk ⟨ρ, (zq21 gb_5 go_7 x_6 gc_8 go_10 x_9 gc_11 go_13 regions_2 own_3 v_4) :: B, _⟩ (op_loadS (j := 0) lb tS29 (tl hd 12 42) rfl (Comp.at (Comp.trans (Comp.self (zq19 go_7 x_6 gc_8 go_10 x_9 gc_11 go_13) (regions_2, (own_3, (v_4, ((), ((), ((), ()))))))) (Comp.at' (Comp.inS (Comp.inS (Comp.inF (Comp.self (rV 16 (rU UInt64)) v_4) (lE rfl)))) (by rfl : _ = 2)) (lE rfl)) i_22.2 rfl) rfl hv_23)⟩) <| dY 15 (fun γ ρ B hb hd => ⟨.yes rfl (ltB rfl) (hl hd 1 31 rfl) hc14, lkB (op_cmpU lb (HasO.cnd (tl hd 4 34) (notT hc14)) (tl hd 13 43) (cs hv_24))⟩) <| dS 16 (fun γ ρ B hb hd => op_pickF lb (tl hd 1 31) hc14 (tl hd 14 44)) ?_
      exact DSteps.nil)
     (by decide +kernel) (fun _ => rfl) (fun _ => rfl) (fun _ => rfl) rfl
     (ρ' := fun γ => [(0, ov (PTR gb_5 0)), (3, ov (PTR gb_14 0)), (45, ov (S rB v_24))])
     (X' := fun γ => [zq21 gb_5 go_7 x_6 gc_8 go_10 x_9 gc_11 go_13 regions_2 own_3 v_4, cown go_7 r_api_Event x_6 (List.length x_6) gc_8, cown go_10 (rV 16 (rU UInt64)) x_9 0 gc_11, cmap go_13 (A r_api_Dot) (A r_api_Event) (some x_12), cvar gb_14 r_api_Event a_1, cvar gb_20 r_api_Event v_18])
     (fun γ ρ hb hd => (.cons (hb 0 _ rfl) (.cons (hb 3 _ rfl) (.cons (hdq hd 15 45 rfl) .nil)))) (fun _ => rfl) (fun γ => ?_)
 refine JQ.at ⟨[(0, ov (PTR gb_5 0)), (3, ov (PTR gb_14 0)), (45, ov (S rB v_24))], [zq21 gb_5 go_7 x_6 gc_8 go_10 x_9 gc_11 go_13 regions_2 own_3 v_4, cown go_7 r_api_Event x_6 (List.length x_6) gc_8, cown go_10 (rV 16 (rU UInt64)) x_9 0 gc_11, cmap go_13 (A r_api_Dot) (A r_api_Event) (some x_12), cvar gb_14 r_api_Event a_1, cvar gb_20 r_api_Event v_18], []⟩ ?_
 try obtain rfl := so hx2
 exact JQ.join () (Imp.norm (js := [0, 0, 0, 0, 0]) rfl (.cons rfl (.cons rfl (.cons rfl .nil))))

theorem sim_cast_Caster_Vector_p_svvvoomm (k : Nat) (regions_1 : Int) (own_2 : Int) (v_3 : (Vector UInt64 16)) (x_5 : (List api_Event)) (x_8 : (List (Vector UInt64 16))) (x_11 : (List (api_Dot × api_Event))) (gb_4 : Nat) (go_6 : Option Nat) (gc_7 : Nat) (go_9 : Option Nat) (gc_10 : Nat) (go_12 : Option Nat) (r : Unit) (hm : cast_Caster_Vector_p_svvvoomm k regions_1 own_2 v_3 x_5 x_8 x_11 = some r) : Sim Try.prog 17 [PTR gb_4 0] [zq21 gb_4 go_6 x_5 gc_7 go_9 x_8 gc_10 go_12 regions_1 own_2 v_3, cown go_6 r_api_Event x_5 (List.length x_5) gc_7, cown go_9 (rV 16 (rU UInt64)) x_8 0 gc_10, cmap go_12 (A r_api_Dot) (A r_api_Event) (some x_11)] (γ := Unit) (fun q => [zq21 gb_4 go_6 x_5 gc_7 go_9 x_8 gc_10 go_12 regions_1 own_2 v_3, cown go_6 r_api_Event x_5 (List.length x_5) gc_7, cown go_9 (rV 16 (rU UInt64)) x_8 0 gc_10, cmap go_12 (A r_api_Dot) (A r_api_Event) (some x_11)]) (fun q => .one (.val (A (rV 16 (rU UInt64)) v_3))) := by
 unfold cast_Caster_Vector_p_svvvoomm at hm
 refine Sim.of Try.func17 rfl rfl (lE rfl) (fun e0 w0 => ?_)
 refine JC.at ⟨[(0, ov (PTR gb_4 0))], [zq21 gb_4 go_6 x_5 gc_7 go_9 x_8 gc_10 go_12 regions_1 own_2 v_3, cown go_6 r_api_Event x_5 (List.length x_5) gc_7, cown go_9 (rV 16 (rU UInt64)) x_8 0 gc_10, cmap go_12 (A r_api_Dot) (A r_api_Event) (some x_11)], []⟩ <| jr <| jx (op_alloc lb tZ34 zr34) fun gb_13 => jn <| JC.seq <| jr <| jmv rfl rfl <| bI hm fun _ hv_u_14 hm => jx (op_call (js := [0, 0, 0, 0]) ld cl26 (sim_cast_Caster_there_p_svvvoomm k regions_1 own_2 v_3 x_5 x_8 x_11 gb_4 go_6 gc_7 go_9 gc_10 go_12 () hv_u_14) .func (.cons tR .nil) rfl) fun _ => jc (op_not lb tR rfl) <| jn <| JC.condF tR rfl <| JC.skip ?_
 exact JQ.then <| jr <| jmv rfl rfl <| jc (op_nilCheck lb tR (fun e v h => by subst h; rfl)) <| jc (op_fieldAddr (off := 2) lb tf74_2 tR) <| jc (op_loadA (j := 0) lb tA34 tR rfl (Comp.trans (Comp.self (zq19 go_6 x_5 gc_7 go_9 x_8 gc_10 go_12) (regions_1, (own_2, (v_3, ((), ((), ((), ()))))))) (Comp.at' (Comp.inS (Comp.inS (Comp.inF (Comp.self (rV 16 (rU UInt64)) v_3) (lE rfl)))) (by rfl : _ = 2)) (lE rfl)) rfl) <| JL.sub ⟨[(2, ov (PTR gb_13 0)), (10, ov (A (rV 16 (rU UInt64)) v_3))], [zq21 gb_4 go_6 x_5 gc_7 go_9 x_8 gc_10 go_12 regions_1 own_2 v_3, cown go_6 r_api_Event x_5 (List.length x_5) gc_7, cown go_9 (rV 16 (rU UInt64)) x_8 0 gc_10, cmap go_12 (A r_api_Dot) (A r_api_Event) (some x_11), cvar gb_13 (rV 16 (rU UInt64)) (Vector.replicate 16 (0 : UInt64))], []⟩ (.cons rfl (.cons rfl .nil)) rfl rfl <| jc (op_storeA (j := 4) tA34 tR tR rfl (UpdR.self (by rfl)) rfl) <| jn <| JC.ret <| JQ.done (js := [0, 0, 0, 0]) (ss := [.val (A (rV 16 (rU UInt64)) v_3)]) () (.inl rfl) (.nil rfl) rfl (.cons (.cellA (j := 4) tA34 rfl rfl) .nil) rfl rfl rfl

theorem sim_cast_Caster_there_n (k : Nat) (r : Unit) (hm : cast_Caster_there_n k = some r) : Sim Try.prog 26 [PTO none] [] (γ := Unit) (fun q => []) (fun q => .one (.val (S rB false))) := by
 unfold cast_Caster_there_n at hm
 refine Sim.of Try.func26 rfl rfl (lE rfl) (fun e0 w0 => ?_)
 refine JC.at ⟨[(0, ov (PTO none))], [], []⟩ <| jr <| jc (op_assign lb .cB) <| jn <| bI hm fun _ hx1 hq1 => JC.seqJ (γ := Unit) (stj := fun _ => ⟨[(2, ov (S rB false))], [], []⟩) (fun _ => ?_) ?_
 · exact JC.ret <| jd (.val (S rB false)) rfl rfl rfl rfl rfl rfl
 exact JC.region <| jmv rfl rfl <| jc (op_nilO (neg := true) (ob := none) lb tu25 tR (HasO.const (p := PTO none) fun _ => rfl) rfl) <| jmv rfl rfl <| jk rfl rfl <| jk rfl rfl <| jk rfl rfl <| jk rfl rfl <| jk rfl rfl <| jc (op_pickF lb tR rfl .cB) <| jc (op_assign lb tR) <| JL.nil <| jo rfl rfl rfl

theorem sim_cast_Caster_Offer_nv (k : Nat) (a_1 : api_Event) (r : Unit) (hm : cast_Caster_Offer_nv k a_1 = some r) : Sim Try.prog 12 [PTO none, A r_api_Event a_1] [] (γ := Unit) (fun q => []) (fun q => .tup [.val (HDR none 0 0 0), .val (S (rI .i64) (1 : Int))]) := by
 unfold cast_Caster_Offer_nv at hm
 refine Sim.of Try.func12 rfl rfl (lE rfl) (fun e0 w0 => ?_)
 refine JC.at ⟨[(0, ov (PTO none)), (1, ov (A r_api_Event a_1))], [], []⟩ <| jr <| jx (op_boxA lb tR) fun gb_2 => jc (op_assign lb HasO.nilH) <| jc (op_assign lb .cI) <| jn <| JC.scope <| JC.seq <| jr <| jmv rfl rfl <| bI hm fun _ hv_u_3 hm => jx (op_call (js := []) ld cl26 (sim_cast_Caster_there_n k () hv_u_3) .func (.cons tR .nil) rfl) fun _ => jc (op_not lb tR rfl) <| jn ?_
 exact JC.condT tR rfl <| jr <| jc (op_assign lb HasO.nilH) <| jc (op_assign lb .cI) <| jn <| JC.ret <| JQ.outR <| JQ.scR <| JQ.done (js := []) (ss := [.val (HDR none 0 0 0), .val (S (rI .i64) (1 : Int))]) () (.inl rfl) (.nil rfl) rfl (.cons (.tmp rfl) (.cons (.tmp rfl) .nil)) rfl rfl rfl

theorem sim_cast_Caster_Held_n (k : Nat) (r : Unit) (hm : cast_Caster_Held_n k = some r) : Sim Try.prog 16 [PTO none] [] (γ := Unit) (fun q => []) (fun q => .one (.val (HDR none 0 0 0))) := by
 unfold cast_Caster_Held_n at hm
 refine Sim.of Try.func16 rfl rfl (lE rfl) (fun e0 w0 => ?_)
 refine JC.at ⟨[(0, ov (PTO none))], [], []⟩ <| jr <| jc (op_assign lb HasO.nilH) <| jn <| JC.seq <| jr <| jmv rfl rfl <| bI hm fun _ hv_u_1 hm => jx (op_call (js := []) ld cl26 (sim_cast_Caster_there_n k () hv_u_1) .func (.cons tR .nil) rfl) fun _ => jc (op_not lb tR rfl) <| jn <| JC.condT tR rfl <| jr <| jc (op_assign lb HasO.nilH) <| jn <| JC.ret ?_
 exact JQ.outR <| JQ.done (js := []) (ss := [.val (HDR none 0 0 0)]) () (.inl rfl) (.nil rfl) rfl (.cons (.tmp rfl) .nil) rfl rfl rfl

end Go.Proofs.Ytbmimaabgclhjaa
