/- Walks. -/
import Derived.Test.YtbmimaabgclhjaaT
import Derived.Test.YtbmimaabgclhjaaW0
import Derived.Test.YtbmimaabgclhjaaW1
import Derived.Test.YtbmimaabgclhjaaW2
namespace Go.Proofs.Ytbmimaabgclhjaa
open Go Fw
set_option linter.unusedVariables false
set_option maxRecDepth 100000
set_option maxHeartbeats 4000000

theorem sim_cast_Caster_Offer_pv_svvvnnmm (k : Nat) (a_1 : api_Event) (regions_2 : Int) (own_3 : Int) (v_4 : (Vector UInt64 16)) (x_6 : (List (api_Dot × api_Event))) (gb_5 : Nat) (go_7 : Option Nat) (r : (List api_Event) × Int × (Vector UInt64 16) × (List api_Event) × (List (Vector UInt64 16)) × (List (api_Dot × api_Event))) (hm : cast_Caster_Offer_pv_svvvnnmm k a_1 regions_2 own_3 v_4 x_6 = some r) : Sim Try.prog 12 [PTR gb_5 0, A r_api_Event a_1] [cvar gb_5 (zq4 go_7) (regions_2, (own_3, (v_4, ((), ((), ((), ())))))), cmap go_7 (A r_api_Dot) (A r_api_Event) (some x_6)] (γ := Option Nat × Nat × Option Nat × Nat × Option Nat × Nat) (fun q => [cown q.1 r_api_Event r.1 0 q.2.1, cvar gb_5 (rP (rI .i64) (rP (rI .i64) (rP (rV 16 (rU UInt64)) (rP (rW (HDR q.2.2.1 0 (List.length r.2.2.2.1) q.2.2.2.1)) (rP (rW (HDR q.2.2.2.2.1 0 (List.length r.2.2.2.2.1) q.2.2.2.2.2)) (rP (rW (MPV go_7)) r0)))))) (regions_2, (own_3, (r.2.2.1, ((), ((), ((), ())))))), cown q.2.2.1 r_api_Event r.2.2.2.1 (List.length r.2.2.2.1) q.2.2.2.1, cown q.2.2.2.2.1 (rV 16 (rU UInt64)) r.2.2.2.2.1 0 q.2.2.2.2.2, cmap go_7 (A r_api_Dot) (A r_api_Event) (some r.2.2.2.2.2)]) (fun q => .tup [.val (HDR q.1 0 (List.length r.1) q.2.1), .val (S (rI .i64) r.2.1)]) := by
 unfold cast_Caster_Offer_pv_svvvnnmm at hm
 refine Sim.of Try.func12 rfl rfl (lE rfl) (fun e0 w0 => ?_)
 refine JC.at ⟨[(0, ov (PTR gb_5 0)), (1, ov (A r_api_Event a_1))], [cvar gb_5 (zq4 go_7) (regions_2, (own_3, (v_4, ((), ((), ((), ())))))), cmap go_7 (A r_api_Dot) (A r_api_Event) (some x_6)], []⟩ <| jr <| jx (op_boxA lb tR) fun gb_8 => jc (op_assign lb HasO.nilH) <| jc (op_assign lb .cI) <| jn <| JC.scope <| JC.seq <| jr <| jmv rfl rfl <| bI hm fun _ hv_u_9 hm => jx (op_call (js := [0, 0]) ld cl26 (sim_cast_Caster_there_p_svvvnnmm k regions_2 own_3 v_4 x_6 gb_5 go_7 () hv_u_9) .func (.cons tR .nil) rfl) fun _ => jc (op_not lb tR rfl) <| jn ?_
 refine JC.condF tR rfl <| JC.skip <| JQ.then <| JC.seq <| jr <| jmv rfl rfl <| jc (op_loadA (j := 2) lb tA37 tR rfl (Comp.self r_api_Event a_1) rfl) <| JL.sub ⟨[(0, ov (PTR gb_5 0)), (3, ov (PTR gb_8 0)), (16, ov (PTR gb_5 0)), (17, ov (A r_api_Event a_1))], [cvar gb_5 (zq4 go_7) (regions_2, (own_3, (v_4, ((), ((), ((), ())))))), cmap go_7 (A r_api_Dot) (A r_api_Event) (some x_6), cvar gb_8 r_api_Event a_1], []⟩ (.cons rfl (.cons rfl (.cons rfl (.cons rfl .nil)))) rfl rfl <| bI hm fun v_10 hv_10 hm => jx (op_call (js := [0, 0]) ld cl27 (sim_cast_Caster_may_pv_svvvnnmm k a_1 regions_2 own_3 v_4 x_6 gb_5 go_7 v_10 hv_10) .func (.cons tR (.cons tR .nil)) rfl) fun _ => lI hm fun v_11 hv_11 hm => jc (op_not lb tR hv_11) <| jn <| jif tR hm (fun hc1 hm => ?_) (fun hc1 hm => ?_)
 · refine jr <| jc (op_assign lb HasO.nilH) <| jc (op_assign lb .cI) <| jn <| JC.ret <| JQ.outR <| JQ.scR ?_
   obtain rfl := so hm
   exact JQ.pre (Imp.nilown r_api_Event) <| JQ.pre (Imp.nilown r_api_Event) <| JQ.pre (Imp.nilown (rV 16 (rU UInt64))) <| JQ.pre (Imp.frz (j := 4) rfl ImpK.refl) <| JQ.done (js := [3, 0, 2, 2, 0]) (ss := [.val (HDR none 0 (List.length ([] : (List api_Event))) (0)), .val (S (rI .i64) (2 : Int))]) (none, 0, none, 0, none, 0) (.inl rfl) (.nil rfl) rfl (.cons (.tmp rfl) (.cons (.tmp rfl) .nil)) rfl rfl rfl
 refine JC.skip <| JQ.then <| JC.seq <| JC.seq ?_
 obtain ⟨⟨v_12, is_13⟩, hv_12, hm⟩ := bnd_inv hm
 refine JC.anyF (base := [(0, ov (PTR gb_5 0)), (3, ov (PTR gb_8 0))])
     (fs := fun γ => [⟨some 21, ov (PTR gb_5 0)⟩, ⟨some 22, ov (PTR gb_5 0)⟩, ⟨some 23, ov (PTR gb_5 (0 + 20))⟩, ⟨some 24, ov (MPV go_7)⟩, ⟨some 25, ov (PTR gb_8 (0 + 0))⟩, ⟨some 26, ov (A r_api_Dot a_1.ID)⟩, ⟨some 27, .tup [.val (A r_api_Event v_12), .val (S rB is_13)]⟩, ⟨some 20, .tup [.val (A r_api_Event v_12), .val (S rB is_13)]⟩, ⟨some 28, ov (A r_api_Event v_12)⟩, ⟨some 29, ov (S rB is_13)⟩, ⟨some 6, ov (PTR (γ 10 0) 0)⟩, ⟨none, .one .any⟩, ⟨some 7, ov (S rB is_13)⟩])
     (rs := fun γ => [⟨cvar gb_5 (zq4 go_7) (regions_2, (own_3, (v_4, ((), ((), ((), ())))))), none, none, [3]⟩, ⟨cmap go_7 (A r_api_Dot) (A r_api_Event) (some x_6), none, none, [6]⟩, ⟨cvar gb_8 r_api_Event a_1, none, none, [5]⟩, ⟨cvar (γ 10 0) zq1 zq2, (some 10), (some 11), []⟩, ⟨cvar (γ 10 0) r_api_Event v_12, (some 11), none, []⟩])
     (afts := [[], [], [], [], [], [], [], [], [], [], [10, 11, 12], [], []]) (js := [0, 0, 0]) mixed (.cons rfl (.cons rfl .nil)) (fun _ => rfl)
     (by
      refine db 1 0 <| dS 2 (fun γ ρ B hb hd => op_nilCheck lb (tl hd 0 21) (fun e v h => by subst h; rfl)) <| dS 3 (fun γ ρ B hb hd => op_fieldAddr (off := 20) lb tf74_5 (tl hd 1 22)) <| dR 4 (fun γ ρ B hb hd => OpStep.lk ⟨ρ, (cvar gb_5 (zq4 go_7) (regions_2, (own_3, (v_4, ((), ((), ((), ()))))))) :: B, _⟩ (op_loadW (j := 0) lb tS72 (tl hd 2 23) rfl (Comp.trans (Comp.self (zq4 go_7) (regions_2, (own_3, (v_4, ((), ((), ((), ()))))))) (Comp.at' (Comp.inS (Comp.inS (Comp.inS (Comp.inS (Comp.inS (Comp.inF (Comp.self (rW (MPV go_7)) ()) (lE rfl))))))) (by rfl : _ = 20)) (lE rfl)))) <| dS 5 (fun γ ρ B hb hd => op_fieldAddr (off := 0) lb tf37_0 (.tmp (hb 3 _ rfl))) ?_
      refine dR 6 (fun γ ρ B hb hd => OpStep.lk ⟨ρ, (cvar gb_8 r_api_Event a_1) :: B, _⟩ (op_loadA (j := 0) lb tA31 (tl hd 4 25) rfl (cT (comp_api_Event_ID a_1) rfl) rfl)) <| dR 7 (fun γ ρ B hb hd => OpStep.lk ⟨ρ, (cmap go_7 (A r_api_Dot) (A r_api_Event) (some x_6)) :: B, _⟩ (op_lookupD (z0 := (api_Event.mk (api_Dot.mk (0 : Int) (0 : UInt64)) ([] : (List UInt8)) ([] : (List UInt8)) (Vector.replicate 16 (0 : UInt64)) ([] : (List api_Dest)))) (j := 0) lb tu72 ky31 tZ37 (fun e => ⟨_, rfl, zv37 e⟩) rfl (tl hd 3 24) (tl hd 5 26) hv_12)) <| dm 8 6 27 <| dS 9 (fun γ ρ B hb hd => op_extract (i := 0) lb (tl hd 7 20) rfl) <| dS 10 (fun γ ρ B hb hd => op_extract (i := 1) lb (tl hd 7 20) rfl) ?_
      refine DSteps.cons (j := 11) rfl (fun _ => rfl) (.runX (fun _ _ => rfl) (fun γ ρ B hb hd => ⟨.none, OpX.ghost (γ := Nat) (st' := fun q => setO ⟨ρ, (cvar q zq1 zq2) :: B, _⟩ (some 6) (ov (PTR q 0))) (fun q c => q) (OpX.front (op_alloc lb tZ37 zr37)) (fun q => Imp.refl)⟩) (fun _ _ => rfl) (fun _ _ => rfl)) ?_
      refine dR 12 (fun γ ρ B hb hd => OpStep.at ⟨ρ, (cvar (γ 10 0) zq1 zq2) :: B, _⟩ (setO ⟨ρ, (cvar (γ 10 0) r_api_Event v_12) :: B, _⟩ _ _) (op_storeA (j := 0) tA37 (tl hd 10 6) (tl hd 8 28) rfl (UpdR.self (by rfl)) rfl)) <| dS 13 (fun γ ρ B hb hd => op_assign lb (tl hd 9 29)) ?_
      exact DSteps.nil)
     (by decide +kernel) (fun _ => rfl) (fun _ => rfl) (fun _ => rfl) rfl
     (ρ' := fun γ => [(0, ov (PTR gb_5 0)), (3, ov (PTR gb_8 0)), (7, ov (S rB is_13))])
     (X' := fun γ => [cvar gb_5 (zq4 go_7) (regions_2, (own_3, (v_4, ((), ((), ((), ())))))), cmap go_7 (A r_api_Dot) (A r_api_Event) (some x_6), cvar gb_8 r_api_Event a_1, cvar (γ 10 0) r_api_Event v_12])
     (fun γ ρ hb hd => (.cons (hb 0 _ rfl) (.cons (hb 3 _ rfl) (.cons (hdq hd 12 7 rfl) .nil)))) (fun _ => rfl) (fun γ => ?_)
 generalize (γ 10 0) = gb_14
 clear γ
 refine JQ.at ⟨[(0, ov (PTR gb_5 0)), (3, ov (PTR gb_8 0)), (7, ov (S rB is_13))], [cvar gb_5 (zq4 go_7) (regions_2, (own_3, (v_4, ((), ((), ((), ())))))), cmap go_7 (A r_api_Dot) (A r_api_Event) (some x_6), cvar gb_8 r_api_Event a_1, cvar gb_14 r_api_Event v_12], []⟩ <| JQ.then <| bI hm fun x_19 hx2 hq2 => JC.seqJ (γ := Unit) (stj := fun _ => ⟨[(0, ov (PTR gb_5 0)), (3, ov (PTR gb_8 0)), (45, ov (S rB x_19))], [cvar gb_5 (zq4 go_7) (regions_2, (own_3, (v_4, ((), ((), ((), ())))))), cmap go_7 (A r_api_Dot) (A r_api_Event) (some x_6), cvar gb_8 r_api_Event a_1], []⟩) (fun _ => ?_) ?_
 · refine jif tR hq2 (fun hc15 hq2 => ?_) (fun hc15 hq2 => ?_)
   · refine jr <| jc (op_assign lb HasO.nilH) <| jc (op_assign lb .cI) <| jn <| JC.ret <| JQ.outR <| JQ.scR ?_
     obtain rfl := so hq2
     exact JQ.pre (Imp.nilown r_api_Event) <| JQ.pre (Imp.nilown r_api_Event) <| JQ.pre (Imp.nilown (rV 16 (rU UInt64))) <| JQ.pre (Imp.frz (j := 4) rfl ImpK.refl) <| JQ.done (js := [3, 0, 2, 2, 0]) (ss := [.val (HDR none 0 (List.length ([] : (List api_Event))) (0)), .val (S (rI .i64) (0 : Int))]) (none, 0, none, 0, none, 0) (.inl rfl) (.nil rfl) rfl (.cons (.tmp rfl) (.cons (.tmp rfl) .nil)) rfl rfl rfl
   refine JC.skip <| JQ.then <| JC.seq <| jr <| jmv rfl rfl <| jc (op_loadA (j := 2) lb tA37 tR rfl (Comp.self r_api_Event a_1) rfl) <| bI hq2 fun v_20 hv_20 hq2 => jx (op_call (js := [0, 0]) ld cl30 (sim_cast_Caster_can_pv_svvvnnmm k a_1 regions_2 own_3 v_4 x_6 gb_5 go_7 v_20 hv_20) .func (.cons tR (.cons tR .nil)) rfl) fun _ => lI hq2 fun v_21 hv_21 hq2 => jc (op_not lb tR hv_21) <| jn <| jif tR hq2 (fun hc16 hq2 => ?_) (fun hc16 hq2 => ?_)
   · refine JC.seq <| jr <| jmv rfl rfl <| jc (op_nilCheck lb tR (fun e v h => by subst h; rfl)) <| jc (op_fieldAddr (off := 20) lb tf74_5 tR) <| jc (op_loadW (j := 0) lb tS72 tR rfl (Comp.trans (Comp.self (zq4 go_7) (regions_2, (own_3, (v_4, ((), ((), ((), ()))))))) (Comp.at' (Comp.inS (Comp.inS (Comp.inS (Comp.inS (Comp.inS (Comp.inF (Comp.self (rW (MPV go_7)) ()) (lE rfl))))))) (by rfl : _ = 20)) (lE rfl))) <| jc (op_lenM (j := 1) lb tu72 rfl tR) <| lI hq2 fun v_22 hv_22 hq2 => jc (op_cmpI lb tR .cI (cs hv_22)) <| jn <| jif tR hq2 (fun hc17 hq2 => ?_) (fun hc17 hq2 => ?_)
     · refine jr <| jc (op_assign lb HasO.nilH) <| jc (op_assign lb .cI) <| JL.nrm ⟨[(4, ov (HDR none 0 0 0)), (5, ov (S (rI .i64) (5 : Int)))], [cvar gb_5 (zq4 go_7) (regions_2, (own_3, (v_4, ((), ((), ((), ())))))), cmap go_7 (A r_api_Dot) (A r_api_Event) (some x_6)], []⟩ [0, 0] rfl (.cons rfl (.cons rfl .nil)) rfl <| jn <| JC.ret <| JQ.outR <| JQ.outR <| JQ.scR ?_
       obtain rfl := so hq2
       exact JQ.pre (Imp.nilown r_api_Event) <| JQ.pre (Imp.nilown r_api_Event) <| JQ.pre (Imp.nilown (rV 16 (rU UInt64))) <| JQ.pre (Imp.frz (j := 3) rfl ImpK.refl) <| JQ.done (js := [2, 0, 1, 1, 0]) (ss := [.val (HDR none 0 (List.length ([] : (List api_Event))) (0)), .val (S (rI .i64) (5 : Int))]) (none, 0, none, 0, none, 0) (.inl rfl) (.nil rfl) rfl (.cons (.tmp rfl) (.cons (.tmp rfl) .nil)) rfl rfl rfl
     refine JC.skip <| JQ.then <| JC.seq <| bI hq2 fun v_23 hv_23 hq2 => ?_
     obtain ⟨x_24, hv_x_24, hq2⟩ := lt1_inv hq2
     refine JC.anyF (base := [(0, ov (PTR gb_5 0)), (3, ov (PTR gb_8 0))])
         (fs := fun γ => [⟨some 56, ov (PTR gb_5 0)⟩, ⟨some 57, ov (PTR gb_5 0)⟩, ⟨some 58, ov (PTR gb_5 (0 + 20))⟩, ⟨some 59, ov (MPV go_7)⟩, ⟨some 60, ov (PTR gb_8 (0 + 0))⟩, ⟨some 61, ov (A r_api_Dot a_1.ID)⟩, ⟨some 62, ov (A r_api_Event a_1)⟩, ⟨some 63, ov (A r_api_Event v_23)⟩, ⟨none, .one .any⟩])
         (rs := fun γ => [⟨cvar gb_5 (zq4 go_7) (regions_2, (own_3, (v_4, ((), ((), ((), ())))))), none, none, [3]⟩, ⟨cmap go_7 (A r_api_Dot) (A r_api_Event) (some x_6), none, (some 8), []⟩, ⟨cvar gb_8 r_api_Event a_1, none, none, [5, 6]⟩, ⟨cmap go_7 (A r_api_Dot) (A r_api_Event) (some x_24), (some 8), none, []⟩])
         (afts := nn 9) (js := [0, 0, 0]) mixed (.cons rfl (.cons rfl .nil)) (fun _ => rfl)
         (by
      refine db 1 0 <| dS 2 (fun γ ρ B hb hd => op_nilCheck lb (tl hd 0 56) (fun e v h => by subst h; rfl)) <| dS 3 (fun γ ρ B hb hd => op_fieldAddr (off := 20) lb tf74_5 (tl hd 1 57)) <| dR 4 (fun γ ρ B hb hd => OpStep.lk ⟨ρ, (cvar gb_5 (zq4 go_7) (regions_2, (own_3, (v_4, ((), ((), ((), ()))))))) :: B, _⟩ (op_loadW (j := 0) lb tS72 (tl hd 2 58) rfl (Comp.trans (Comp.self (zq4 go_7) (regions_2, (own_3, (v_4, ((), ((), ((), ()))))))) (Comp.at' (Comp.inS (Comp.inS (Comp.inS (Comp.inS (Comp.inS (Comp.inF (Comp.self (rW (MPV go_7)) ()) (lE rfl))))))) (by rfl : _ = 20)) (lE rfl)))) <| dS 5 (fun γ ρ B hb hd => op_fieldAddr (off := 0) lb tf37_0 (.tmp (hb 3 _ rfl))) ?_
      refine dR 6 (fun γ ρ B hb hd => OpStep.lk ⟨ρ, (cvar gb_8 r_api_Event a_1) :: B, _⟩ (op_loadA (j := 0) lb tA31 (tl hd 4 60) rfl (cT (comp_api_Event_ID a_1) rfl) rfl)) <| dR 7 (fun γ ρ B hb hd => OpStep.lk ⟨ρ, (cvar gb_8 r_api_Event a_1) :: B, _⟩ (op_loadA (j := 0) lb tA37 (.tmp (hb 3 _ rfl)) rfl (Comp.self r_api_Event a_1) rfl)) <| dS 8 (fun γ ρ B hb hd => (op_call (js := []) ld cl29 (sim_cast_fresh k a_1 v_23 hv_23) .func (.cons (tl hd 6 62) .nil) rfl).post (fun _ => Imp.refl)) <| dR 9 (fun γ ρ B hb hd => OpStep.at ⟨ρ, (cmap go_7 (A r_api_Dot) (A r_api_Event) (some x_6)) :: B, _⟩ (setO ⟨ρ, (cmap go_7 (A r_api_Dot) (A r_api_Event) (some x_24)) :: B, _⟩ _ _) (op_mapUpdate (j := 0) tu72 ky31 rfl (tl hd 3 59) (tl hd 5 61) (tl hd 7 63) (congrArg (fun z => some (some z)) hv_x_24))) ?_
      exact DSteps.nil)
         (by decide +kernel) (fun _ => rfl) (fun _ => rfl) (fun _ => rfl) rfl
         (ρ' := fun γ => [])
         (X' := fun γ => [cvar gb_5 (zq4 go_7) (regions_2, (own_3, (v_4, ((), ((), ((), ())))))), cvar gb_8 r_api_Event a_1, cmap go_7 (A r_api_Dot) (A r_api_Event) (some x_24)])
         (fun γ ρ hb hd => .nil) (fun _ => rfl) (fun γ => ?_)
     refine JQ.at ⟨[], [cvar gb_5 (zq4 go_7) (regions_2, (own_3, (v_4, ((), ((), ((), ())))))), cvar gb_8 r_api_Event a_1, cmap go_7 (A r_api_Dot) (A r_api_Event) (some x_24)], []⟩ <| JQ.then <| jr <| jc (op_assign lb HasO.nilH) <| jc (op_assign lb .cI) <| jn <| JC.ret <| JQ.outR <| JQ.scR ?_
     obtain rfl := so hq2
     exact JQ.pre (Imp.nilown r_api_Event) <| JQ.pre (Imp.nilown r_api_Event) <| JQ.pre (Imp.nilown (rV 16 (rU UInt64))) <| JQ.pre (Imp.frz (j := 4) rfl ImpK.refl) <| JQ.done (js := [3, 0, 2, 2, 1]) (ss := [.val (HDR none 0 (List.length ([] : (List api_Event))) (0)), .val (S (rI .i64) (0 : Int))]) (none, 0, none, 0, none, 0) (.inl rfl) (.nil rfl) rfl (.cons (.tmp rfl) (.cons (.tmp rfl) .nil)) rfl rfl rfl
   refine JC.skip <| JQ.then <| jr <| jmv rfl rfl <| jc (op_nilCheck lb tR (fun e v h => by subst h; rfl)) <| jc (op_fieldAddr (off := 18) lb tf74_3 tR) <| jc (op_loadW (j := 0) lb tS42 tR rfl (Comp.trans (Comp.self (zq4 go_7) (regions_2, (own_3, (v_4, ((), ((), ((), ()))))))) (Comp.at' (Comp.inS (Comp.inS (Comp.inS (Comp.inF (Comp.self (rW (HDR none 0 0 0)) ()) (lE rfl))))) (by rfl : _ = 18)) (lE rfl))) <| jc (op_lenH lb tu42 tR) <| jc (op_assign lb tR) <| jn <| jr <| jmv rfl rfl <| jc (op_loadA (j := 2) lb tA37 tR rfl (Comp.self r_api_Event a_1) rfl) <| JL.nrm ⟨[(0, ov (PTR gb_5 0)), (8, ov (S (rI .i64) (0 : Int))), (69, ov (PTR gb_5 0)), (70, ov (A r_api_Event a_1))], [cvar gb_5 (zq4 go_7) (regions_2, (own_3, (v_4, ((), ((), ((), ())))))), cmap go_7 (A r_api_Dot) (A r_api_Event) (some x_6)], []⟩ [0, 0] rfl (.cons rfl (.cons rfl (.cons rfl (.cons rfl .nil)))) rfl <| bI hq2 fun v_25 hv_25 hq2 => jx (op_call (js := []) ld cl29 (sim_cast_fresh k a_1 v_25 hv_25) .func (.cons tR .nil) rfl) (fun _ => ?_)
   obtain ⟨⟨x_26, x_27, x_28⟩, hv_x_26, hq2⟩ := bnd_inv hq2
   refine jx (op_call (js := [0, 0]) ld cl28 (sim_cast_Caster_apply_pv_svvvnnmm k v_25 regions_2 own_3 v_4 x_6 gb_5 go_7 (x_26, x_27, x_28) hv_x_26) .func (.cons tR (.cons tR .nil)) rfl) (fun q => ?_)
   obtain ⟨go_29, gc_30, go_31, gc_32⟩ := q
   refine jn <| JC.seq <| JC.label <| JQ.then ?_
   obtain ⟨⟨v_71, log_72, behind_73, x_74⟩, hx18, hq18⟩ := bnd_inv hq2
   refine JC.seqJ (γ := Option Nat × Nat × Option Nat × Nat) (stj := fun q => ⟨[(0, ov (PTR gb_5 0)), (8, ov (S (rI .i64) (0 : Int)))], [cvar gb_5 (rP (rI .i64) (rP (rI .i64) (rP (rV 16 (rU UInt64)) (rP (rW (HDR q.1 0 (List.length log_72) q.2.1)) (rP (rW (HDR q.2.2.1 0 (List.length behind_73) q.2.2.2)) (rP (rW (MPV go_7)) r0)))))) (regions_2, (own_3, (v_71, ((), ((), ((), ())))))), cown q.1 r_api_Event log_72 0 q.2.1, cown q.2.2.1 (rV 16 (rU UInt64)) behind_73 0 q.2.2.2, cmap go_7 (A r_api_Dot) (A r_api_Event) (some x_74)], []⟩) (fun q => ?_) ?_
   · obtain ⟨go_75, gc_76, go_77, gc_78⟩ := q
     refine JC.at ⟨[(0, ov (PTR gb_5 0)), (8, ov (S (rI .i64) (0 : Int)))], [zq21 gb_5 go_75 log_72 gc_76 go_77 behind_73 gc_78 go_7 regions_2 own_3 v_71, cown go_75 r_api_Event log_72 0 gc_76, cown go_77 (rV 16 (rU UInt64)) behind_73 0 gc_78, cmap go_7 (A r_api_Dot) (A r_api_Event) (some x_74)], []⟩ <| jr <| jmv rfl rfl <| jc (op_nilCheck lb tR (fun e v h => by subst h; rfl)) <| jc (op_fieldAddr (off := 18) lb tf74_3 tR) <| jc (op_loadW (j := 0) lb tS42 tR rfl (Comp.trans (Comp.self (zq19 go_75 log_72 gc_76 go_77 behind_73 gc_78 go_7) (regions_2, (own_3, (v_71, ((), ((), ((), ()))))))) (Comp.at' (Comp.inS (Comp.inS (Comp.inS (Comp.inF (Comp.self (rW (HDR go_75 0 (List.length log_72) gc_76)) ()) (lE rfl))))) (by rfl : _ = 18)) (lE rfl))) <| jmv rfl rfl <| bI hq18 fun v_79 hv_79 hq18 => JL.pre (Imp.frz (j := 1) rfl (ImpK.slotH (s := 117) rfl (ImpK.var (j := 0) (q := (zq22 go_75 log_72 gc_76 go_77 behind_73 gc_78 go_7)) (y := (regions_2, (own_3, (v_71, ((), ((), ((), ()))))))) rfl (Wk.pair Wk.refl (Wk.pair Wk.refl (Wk.pair Wk.refl (Wk.pair Wk.own (Wk.pair Wk.refl (Wk.pair Wk.refl Wk.refl)))))) ImpK.refl))) <| jc (op_sliceLg lb tu42 tz37 (HasO.wk tR wkHL) (.some tR) .none hv_79) <| bI hq18 fun v_80 hv_80 hq18 => jx (op_call (js := []) ld cl31 (sim_cast_all k v_79 v_80 hv_80) .func (.cons tR .nil) rfl) (fun q => ?_)
     obtain ⟨go_81, gc_82⟩ := q
     refine jc (op_assign lb tR) <| JL.sub ⟨[(4, ov (HDR go_81 0 (List.length v_80) gc_82))], [cown go_81 r_api_Event v_80 0 gc_82, zq23 gb_5 go_75 log_72 gc_76 go_77 behind_73 gc_78 go_7 regions_2 own_3 v_71, cown go_75 r_api_Event log_72 (List.length log_72) gc_76, cown go_77 (rV 16 (rU UInt64)) behind_73 0 gc_78, cmap go_7 (A r_api_Dot) (A r_api_Event) (some x_74)], []⟩ (.cons rfl .nil) rfl rfl <| jc (op_assign lb .cI) <| jn <| JC.ret <| JQ.scR ?_
     obtain rfl := so hq18
     refine JQ.pre (Imp.var (j := 1) (q := (zq19 go_75 log_72 gc_76 go_77 behind_73 gc_78 go_7)) (y := (regions_2, (own_3, (v_71, ((), ((), ((), ()))))))) rfl (Wk.pair Wk.refl (Wk.pair Wk.refl (Wk.pair Wk.refl (Wk.pair Wk.hh (Wk.pair Wk.refl (Wk.pair Wk.refl Wk.refl))))))) ?_
     exact JQ.done (js := [0, 0, 0, 0, 0]) (ss := [.val (HDR go_81 0 (List.length v_80) gc_82), .val (S (rI .i64) (0 : Int))]) (go_81, gc_82, go_75, gc_76, go_77, gc_78) (.inl rfl) (.nil rfl) rfl (.cons (.tmp rfl) (.cons (.tmp rfl) .nil)) rfl rfl rfl
   refine jr <| jc (op_assign lb .cI) <| jn <| JC.block <| JC.pre ?_ (JC.loop (γ := Option Nat × Nat × Option Nat × Nat) (stf := fun s q => ⟨[(0, ov (PTR gb_5 0)), (8, ov (S (rI .i64) (0 : Int))), (9, ov (S (rI .i64) s.2.2.2.2))], [cvar gb_5 (rP (rI .i64) (rP (rI .i64) (rP (rV 16 (rU UInt64)) (rP (rW (HDR q.1 0 (List.length s.2.1) q.2.1)) (rP (rW (HDR q.2.2.1 0 (List.length s.2.2.1) q.2.2.2)) (rP (rW (MPV go_7)) r0)))))) (regions_2, (own_3, (s.1, ((), ((), ((), ())))))), cown q.1 r_api_Event s.2.1 0 q.2.1, cown q.2.2.1 (rV 16 (rU UInt64)) s.2.2.1 0 q.2.2.2, cmap go_7 (A r_api_Dot) (A r_api_Event) (some s.2.2.2.1)], []⟩) (q := (go_29, gc_30, go_31, gc_32)) hx18 ?_)
   · exact (Imp.norm (js := [0, 0, 0, 0]) rfl (.cons rfl (.cons rfl (.cons rfl .nil))))
   intro s q x hx hr
   obtain ⟨v_33, log_34, behind_35, x_36, x_37⟩ := s
   obtain ⟨go_38, gc_39, go_40, gc_41⟩ := q
   change cast_Caster_Offer_pv_svvvnnmm.b1 k regions_2 own_3 v_33 log_34 behind_35 x_36 x_37 = some x at hx
   unfold cast_Caster_Offer_pv_svvvnnmm.b1 at hx
   refine JC.at ⟨[(0, ov (PTR gb_5 0)), (8, ov (S (rI .i64) (0 : Int))), (9, ov (S (rI .i64) x_37))], [zq21 gb_5 go_38 log_34 gc_39 go_40 behind_35 gc_41 go_7 regions_2 own_3 v_33, cown go_38 r_api_Event log_34 0 gc_39, cown go_40 (rV 16 (rU UInt64)) behind_35 0 gc_41, cmap go_7 (A r_api_Dot) (A r_api_Event) (some x_36)], []⟩ <| JC.seq <| jr <| jmv rfl rfl <| jmv rfl rfl <| jc (op_nilCheck lb tR (fun e v h => by subst h; rfl)) <| jc (op_fieldAddr (off := 0) lb tf74_0 tR) <| jc (op_loadS (j := 0) lb tS3 tR rfl (Comp.trans (Comp.self (zq19 go_38 log_34 gc_39 go_40 behind_35 gc_41 go_7) (regions_2, (own_3, (v_33, ((), ((), ((), ()))))))) (Comp.at' (Comp.inF (Comp.self (rI .i64) regions_2) (lE rfl)) (by rfl : _ = 0)) (lE rfl)) rfl rfl) <| lI hx fun v_42 hv_42 hx => jc (op_cmpI lb tR tR (cs hv_42)) <| jn <| jif tR hx (fun hc20 hx => ?_) (fun hc20 hx => ?_)
   · refine JC.skip <| JQ.then ?_
     obtain ⟨⟨v_61, log_62, behind_63, x_64, x_65⟩, hx21, hq21⟩ := bnd_inv hx
     refine JC.seqJ (γ := Option Nat × Nat × Option Nat × Nat) (stj := fun q => ⟨[(0, ov (PTR gb_5 0)), (8, ov (S (rI .i64) (0 : Int))), (9, ov (S (rI .i64) x_65))], [cvar gb_5 (rP (rI .i64) (rP (rI .i64) (rP (rV 16 (rU UInt64)) (rP (rW (HDR q.1 0 (List.length log_62) q.2.1)) (rP (rW (HDR q.2.2.1 0 (List.length behind_63) q.2.2.2)) (rP (rW (MPV go_7)) r0)))))) (regions_2, (own_3, (v_61, ((), ((), ((), ())))))), cown q.1 r_api_Event log_62 0 q.2.1, cown q.2.2.1 (rV 16 (rU UInt64)) behind_63 0 q.2.2.2, cmap go_7 (A r_api_Dot) (A r_api_Event) (some x_64)], []⟩) (fun q => ?_) ?_
     · obtain ⟨go_66, gc_67, go_68, gc_69⟩ := q
       refine JC.at ⟨[(0, ov (PTR gb_5 0)), (8, ov (S (rI .i64) (0 : Int))), (9, ov (S (rI .i64) x_65))], [zq21 gb_5 go_66 log_62 gc_67 go_68 behind_63 gc_69 go_7 regions_2 own_3 v_61, cown go_66 r_api_Event log_62 0 gc_67, cown go_68 (rV 16 (rU UInt64)) behind_63 0 gc_69, cmap go_7 (A r_api_Dot) (A r_api_Event) (some x_64)], []⟩ <| JC.region <| jmv rfl rfl <| lI hq21 fun v_70 hv_70 hq21 => jc (op_arI lb tR .cI (cs hv_70)) <| jc (op_assign lb tR) <| JL.nil ?_
       try obtain rfl := so hq21
       exact JQ.next (go_66, gc_67, go_68, gc_69) rfl (Imp.norm (js := [0, 0, 0, 0]) rfl (.cons rfl (.cons rfl (.cons rfl .nil))))
     refine JC.block <| jr <| jmv rfl rfl <| jmv rfl rfl <| jmv rfl rfl <| lI hx21 fun v_43 hv_43 hx21 => jc (op_arI lb tR .cI (cs hv_43)) <| jc (op_nilCheck lb tR (fun e v h => by subst h; rfl)) <| jc (op_fieldAddr (off := 2) lb tf74_2 tR) <| JL.sub ⟨[(0, ov (PTR gb_5 0)), (8, ov (S (rI .i64) (0 : Int))), (9, ov (S (rI .i64) x_37)), (81, ov (S (rI .i64) x_37)), (84, ov (S (rI .i64) v_43)), (86, ov (PTR gb_5 (0 + 2)))], [zq21 gb_5 go_38 log_34 gc_39 go_40 behind_35 gc_41 go_7 regions_2 own_3 v_33, cown go_38 r_api_Event log_34 0 gc_39, cown go_40 (rV 16 (rU UInt64)) behind_35 0 gc_41, cmap go_7 (A r_api_Dot) (A r_api_Event) (some x_36)], []⟩ (.cons rfl (.cons rfl (.cons rfl (.cons rfl (.cons rfl (.cons rfl .nil)))))) rfl rfl <| bI hx21 fun i_44 hv_i_44 hx21 => jc (op_indexAddrIF lb tr34 tR tR hv_i_44) <| lI hx21 fun v_45 hv_45 hx21 => jc (op_loadS (j := 0) lb tS29 tR rfl (Comp.at (Comp.trans (Comp.self (zq19 go_38 log_34 gc_39 go_40 behind_35 gc_41 go_7) (regions_2, (own_3, (v_33, ((), ((), ((), ()))))))) (Comp.at' (Comp.inS (Comp.inS (Comp.inF (Comp.self (rV 16 (rU UInt64)) v_33) (lE rfl)))) (by rfl : _ = 2)) (lE rfl)) i_44.2 rfl) rfl hv_45) ?_
     obtain ⟨v_46, hv_46, hx21⟩ := lt1_inv hx21
     refine jc (op_arU lb tR (HasO.cU (x := (1 : UInt64)) rfl (by decide)) (cs hv_46)) <| jc (op_build lb tZ31 zs31 tp31 (.S (off := 0) rfl tR rfl ((UpdR.fst (UpdR.self (by rfl))).at (by rfl)) (.S (off := 1) rfl tR rfl ((UpdR.snd (UpdR.fst (UpdR.self (by rfl)))).at (by rfl)) .nil)) rfl) <| jx (op_alloc lb tZ31 zr31) fun gb_47 => jc (op_storeA (j := 4) tA31 tR tR rfl (UpdR.self (by rfl)) rfl) <| jn <| JC.seq ?_
     obtain ⟨⟨v_48, is_49⟩, hv_48, hx21⟩ := bnd_inv hx21
     refine JC.anyF (base := [(0, ov (PTR gb_5 0)), (8, ov (S (rI .i64) (0 : Int))), (9, ov (S (rI .i64) x_37)), (10, ov (PTR gb_47 0))])
         (fs := fun γ => [⟨some 92, ov (PTR gb_5 0)⟩, ⟨some 93, ov (PTR gb_5 0)⟩, ⟨some 94, ov (PTR gb_5 (0 + 20))⟩, ⟨some 95, ov (MPV go_7)⟩, ⟨some 96, ov (A (rP (rI .i64) (rP (rU UInt64) r0)) (x_37, (v_46, ())))⟩, ⟨some 97, .tup [.val (A r_api_Event v_48), .val (S rB is_49)]⟩, ⟨some 91, .tup [.val (A r_api_Event v_48), .val (S rB is_49)]⟩, ⟨some 98, ov (A r_api_Event v_48)⟩, ⟨some 99, ov (S rB is_49)⟩, ⟨some 11, ov (PTR (γ 9 0) 0)⟩, ⟨none, .one .any⟩, ⟨some 12, ov (S rB is_49)⟩])
         (rs := fun γ => [⟨zq21 gb_5 go_38 log_34 gc_39 go_40 behind_35 gc_41 go_7 regions_2 own_3 v_33, none, none, [3]⟩, ⟨cown go_38 r_api_Event log_34 0 gc_39, none, none, []⟩, ⟨cown go_40 (rV 16 (rU UInt64)) behind_35 0 gc_41, none, none, []⟩, ⟨cmap go_7 (A r_api_Dot) (A r_api_Event) (some x_36), none, none, [5]⟩, ⟨cvar gb_47 (rP (rI .i64) (rP (rU UInt64) r0)) (x_37, (v_46, ())), none, none, [4]⟩, ⟨cvar (γ 9 0) zq1 zq2, (some 9), (some 10), []⟩, ⟨cvar (γ 9 0) r_api_Event v_48, (some 10), none, []⟩])
         (afts := [[], [], [], [], [], [], [], [], [], [9, 10, 11], [], []]) (js := [0, 0, 0, 0, 0]) mixed (.cons rfl (.cons rfl (.cons rfl (.cons rfl .nil)))) (fun _ => rfl)
         (by
      refine db 1 0 <| dS 2 (fun γ ρ B hb hd => op_nilCheck lb (tl hd 0 92) (fun e v h => by subst h; rfl)) <| dS 3 (fun γ ρ B hb hd => op_fieldAddr (off := 20) lb tf74_5 (tl hd 1 93)) <| dR 4 (fun γ ρ B hb hd => OpStep.lk ⟨ρ, (zq21 gb_5 go_38 log_34 gc_39 go_40 behind_35 gc_41 go_7 regions_2 own_3 v_33) :: B, _⟩ (op_loadW (j := 0) lb tS72 (tl hd 2 94) rfl (Comp.trans (Comp.self (zq19 go_38 log_34 gc_39 go_40 behind_35 gc_41 go_7) (regions_2, (own_3, (v_33, ((), ((), ((), ()))))))) (Comp.at' (Comp.inS (Comp.inS (Comp.inS (Comp.inS (Comp.inS (Comp.inF (Comp.self (rW (MPV go_7)) ()) (lE rfl))))))) (by rfl : _ = 20)) (lE rfl)))) <| dR 5 (fun γ ρ B hb hd => OpStep.lk ⟨ρ, (cvar gb_47 (rP (rI .i64) (rP (rU UInt64) r0)) (x_37, (v_46, ()))) :: B, _⟩ (op_loadA (j := 0) lb tA31 (.tmp (hb 10 _ rfl)) rfl (Comp.self (rP (rI .i64) (rP (rU UInt64) r0)) (x_37, (v_46, ()))) rfl)) ?_
      refine dR 6 (fun γ ρ B hb hd => OpStep.lk ⟨ρ, (cmap go_7 (A r_api_Dot) (A r_api_Event) (some x_36)) :: B, _⟩ (op_lookupD (z0 := (api_Event.mk (api_Dot.mk (0 : Int) (0 : UInt64)) ([] : (List UInt8)) ([] : (List UInt8)) (Vector.replicate 16 (0 : UInt64)) ([] : (List api_Dest)))) (j := 0) lb tu72 ky31 tZ37 (fun e => ⟨_, rfl, zv37 e⟩) rfl (tl hd 3 95) (HasO.wk (q := A r_api_Dot (api_Dot.mk x_37 v_46)) (tl hd 4 96) (wkAK (Wk.st Wk.refl))) hv_48)) <| dm 7 5 97 <| dS 8 (fun γ ρ B hb hd => op_extract (i := 0) lb (tl hd 6 91) rfl) <| dS 9 (fun γ ρ B hb hd => op_extract (i := 1) lb (tl hd 6 91) rfl) ?_
      refine DSteps.cons (j := 10) rfl (fun _ => rfl) (.runX (fun _ _ => rfl) (fun γ ρ B hb hd => ⟨.none, OpX.ghost (γ := Nat) (st' := fun q => setO ⟨ρ, (cvar q zq1 zq2) :: B, _⟩ (some 11) (ov (PTR q 0))) (fun q c => q) (OpX.front (op_alloc lb tZ37 zr37)) (fun q => Imp.refl)⟩) (fun _ _ => rfl) (fun _ _ => rfl)) ?_
      refine dR 11 (fun γ ρ B hb hd => OpStep.at ⟨ρ, (cvar (γ 9 0) zq1 zq2) :: B, _⟩ (setO ⟨ρ, (cvar (γ 9 0) r_api_Event v_48) :: B, _⟩ _ _) (op_storeA (j := 0) tA37 (tl hd 9 11) (tl hd 7 98) rfl (UpdR.self (by rfl)) rfl)) <| dS 12 (fun γ ρ B hb hd => op_assign lb (tl hd 8 99)) ?_
      exact DSteps.nil)
         (by decide +kernel) (fun _ => rfl) (fun _ => rfl) (fun _ => rfl) rfl
         (ρ' := fun γ => [(0, ov (PTR gb_5 0)), (8, ov (S (rI .i64) (0 : Int))), (9, ov (S (rI .i64) x_37)), (10, ov (PTR gb_47 0)), (11, ov (PTR (γ 9 0) 0)), (12, ov (S rB is_49))])
         (X' := fun γ => [zq21 gb_5 go_38 log_34 gc_39 go_40 behind_35 gc_41 go_7 regions_2 own_3 v_33, cown go_38 r_api_Event log_34 0 gc_39, cown go_40 (rV 16 (rU UInt64)) behind_35 0 gc_41, cmap go_7 (A r_api_Dot) (A r_api_Event) (some x_36), cvar gb_47 (rP (rI .i64) (rP (rU UInt64) r0)) (x_37, (v_46, ())), cvar (γ 9 0) r_api_Event v_48])
         (fun γ ρ hb hd => (.cons (hb 0 _ rfl) (.cons (hb 8 _ rfl) (.cons (hb 9 _ rfl) (.cons (hb 10 _ rfl) (.cons (hdq hd 9 11 rfl) (.cons (hdq hd 11 12 rfl) .nil))))))) (fun _ => rfl) (fun γ => ?_)
     generalize (γ 9 0) = gb_50
     clear γ
     refine JQ.at ⟨[(0, ov (PTR gb_5 0)), (8, ov (S (rI .i64) (0 : Int))), (9, ov (S (rI .i64) x_37)), (10, ov (PTR gb_47 0)), (11, ov (PTR gb_50 0)), (12, ov (S rB is_49))], [zq21 gb_5 go_38 log_34 gc_39 go_40 behind_35 gc_41 go_7 regions_2 own_3 v_33, cown go_38 r_api_Event log_34 0 gc_39, cown go_40 (rV 16 (rU UInt64)) behind_35 0 gc_41, cmap go_7 (A r_api_Dot) (A r_api_Event) (some x_36), cvar gb_47 (rP (rI .i64) (rP (rU UInt64) r0)) (x_37, (v_46, ())), cvar gb_50 r_api_Event v_48], []⟩ <| JQ.then <| bI hx21 fun x_52 hx22 hq22 => JC.seqJ (γ := Unit) (stj := fun _ => ⟨[(0, ov (PTR gb_5 0)), (8, ov (S (rI .i64) (0 : Int))), (9, ov (S (rI .i64) x_37)), (10, ov (PTR gb_47 0)), (11, ov (PTR gb_50 0)), (105, ov (S rB x_52))], [zq21 gb_5 go_38 log_34 gc_39 go_40 behind_35 gc_41 go_7 regions_2 own_3 v_33, cown go_38 r_api_Event log_34 0 gc_39, cown go_40 (rV 16 (rU UInt64)) behind_35 0 gc_41, cmap go_7 (A r_api_Dot) (A r_api_Event) (some x_36), cvar gb_47 (rP (rI .i64) (rP (rU UInt64) r0)) (x_37, (v_46, ())), cvar gb_50 r_api_Event v_48], []⟩) (fun _ => ?_) ?_
     · rcases iteB_inv hq22 with ⟨hc27, hq22⟩ | ⟨hc27, hq22⟩
       · refine JC.condT tR hc27 <| JC.seq ?_
         obtain ⟨x_53, hv_x_53, hq22⟩ := lt1_inv hq22
         refine JC.anyF (base := [(0, ov (PTR gb_5 0)), (8, ov (S (rI .i64) (0 : Int))), (10, ov (PTR gb_47 0)), (11, ov (PTR gb_50 0))])
             (fs := fun γ => [⟨some 106, ov (PTR gb_5 0)⟩, ⟨some 107, ov (PTR gb_5 0)⟩, ⟨some 108, ov (PTR gb_5 (0 + 20))⟩, ⟨some 109, ov (MPV go_7)⟩, ⟨some 110, ov (A (rP (rI .i64) (rP (rU UInt64) r0)) (x_37, (v_46, ())))⟩, ⟨none, .one .any⟩])
             (rs := fun γ => [⟨zq21 gb_5 go_38 log_34 gc_39 go_40 behind_35 gc_41 go_7 regions_2 own_3 v_33, none, none, [3]⟩, ⟨cown go_38 r_api_Event log_34 0 gc_39, none, none, []⟩, ⟨cown go_40 (rV 16 (rU UInt64)) behind_35 0 gc_41, none, none, []⟩, ⟨cmap go_7 (A r_api_Dot) (A r_api_Event) (some x_36), none, (some 5), []⟩, ⟨cvar gb_47 (rP (rI .i64) (rP (rU UInt64) r0)) (x_37, (v_46, ())), none, none, [4]⟩, ⟨cvar gb_50 r_api_Event v_48, none, none, []⟩, ⟨cmap go_7 (A r_api_Dot) (A r_api_Event) (some x_53), (some 5), none, []⟩])
             (afts := nn 6) (js := [0, 0, 0, 0, 0, 0]) mixed (.cons rfl (.cons rfl (.cons rfl (.cons rfl .nil)))) (fun _ => rfl)
             (by
      refine db 1 0 <| dS 2 (fun γ ρ B hb hd => op_nilCheck lb (tl hd 0 106) (fun e v h => by subst h; rfl)) <| dS 3 (fun γ ρ B hb hd => op_fieldAddr (off := 20) lb tf74_5 (tl hd 1 107)) <| dR 4 (fun γ ρ B hb hd => OpStep.lk ⟨ρ, (zq21 gb_5 go_38 log_34 gc_39 go_40 behind_35 gc_41 go_7 regions_2 own_3 v_33) :: B, _⟩ (op_loadW (j := 0) lb tS72 (tl hd 2 108) rfl (Comp.trans (Comp.self (zq19 go_38 log_34 gc_39 go_40 behind_35 gc_41 go_7) (regions_2, (own_3, (v_33, ((), ((), ((), ()))))))) (Comp.at' (Comp.inS (Comp.inS (Comp.inS (Comp.inS (Comp.inS (Comp.inF (Comp.self (rW (MPV go_7)) ()) (lE rfl))))))) (by rfl : _ = 20)) (lE rfl)))) <| dR 5 (fun γ ρ B hb hd => OpStep.lk ⟨ρ, (cvar gb_47 (rP (rI .i64) (rP (rU UInt64) r0)) (x_37, (v_46, ()))) :: B, _⟩ (op_loadA (j := 0) lb tA31 (.tmp (hb 10 _ rfl)) rfl (Comp.self (rP (rI .i64) (rP (rU UInt64) r0)) (x_37, (v_46, ()))) rfl)) ?_
      refine dR 6 (fun γ ρ B hb hd => OpStep.at ⟨ρ, (cmap go_7 (A r_api_Dot) (A r_api_Event) (some x_36)) :: B, _⟩ (setO ⟨ρ, (cmap go_7 (A r_api_Dot) (A r_api_Event) (some x_53)) :: B, _⟩ _ _) (op_delete (j := 0) rfl tu72 ky31 rfl (tl hd 3 109) (HasO.wk (q := A r_api_Dot (api_Dot.mk x_37 v_46)) (tl hd 4 110) (wkAK (Wk.st Wk.refl))) (cs hv_x_53))) ?_
      exact DSteps.nil)
             (by decide +kernel) (fun _ => rfl) (fun _ => rfl) (fun _ => rfl) rfl
             (ρ' := fun γ => [(0, ov (PTR gb_5 0)), (8, ov (S (rI .i64) (0 : Int))), (11, ov (PTR gb_50 0))])
             (X' := fun γ => [zq21 gb_5 go_38 log_34 gc_39 go_40 behind_35 gc_41 go_7 regions_2 own_3 v_33, cown go_38 r_api_Event log_34 0 gc_39, cown go_40 (rV 16 (rU UInt64)) behind_35 0 gc_41, cvar gb_47 (rP (rI .i64) (rP (rU UInt64) r0)) (x_37, (v_46, ())), cvar gb_50 r_api_Event v_48, cmap go_7 (A r_api_Dot) (A r_api_Event) (some x_53)])
             (fun γ ρ hb hd => (.cons (hb 0 _ rfl) (.cons (hb 8 _ rfl) (.cons (hb 11 _ rfl) .nil)))) (fun _ => rfl) (fun γ => ?_)
         refine JQ.at ⟨[(0, ov (PTR gb_5 0)), (8, ov (S (rI .i64) (0 : Int))), (11, ov (PTR gb_50 0))], [zq21 gb_5 go_38 log_34 gc_39 go_40 behind_35 gc_41 go_7 regions_2 own_3 v_33, cown go_38 r_api_Event log_34 0 gc_39, cown go_40 (rV 16 (rU UInt64)) behind_35 0 gc_41, cvar gb_47 (rP (rI .i64) (rP (rU UInt64) r0)) (x_37, (v_46, ())), cvar gb_50 r_api_Event v_48, cmap go_7 (A r_api_Dot) (A r_api_Event) (some x_53)], []⟩ <| JQ.then <| jr <| jmv rfl rfl <| jc (op_loadA (j := 4) lb tA37 tR rfl (Comp.self r_api_Event v_48) rfl) ?_
         obtain ⟨⟨x_54, x_55, x_56⟩, hv_x_54, hq22⟩ := bnd_inv hq22
         refine jx (op_call (js := [0, 0, 0, 2]) ld cl28 (sim_cast_Caster_apply_pv_svvvoomm k v_48 regions_2 own_3 v_33 log_34 behind_35 x_53 gb_5 go_38 gc_39 go_40 gc_41 go_7 (x_54, x_55, x_56) hv_x_54) .func (.cons tR (.cons tR .nil)) rfl) (fun q => ?_)
         obtain ⟨go_57, gc_58, go_59, gc_60⟩ := q
         refine jn <| jr <| jc (op_assign lb .cI) <| jn <| JC.exit <| JQ.here ?_
         have hz := Option.some.inj hq22
         replace hz := Prod.mk.inj hz
         obtain ⟨hz_a, hz⟩ := hz
         first | subst hz_a | clear hz_a
         replace hz := Prod.mk.inj hz
         obtain ⟨hz_a, hz⟩ := hz
         first | subst hz_a | clear hz_a
         replace hz := Prod.mk.inj hz
         obtain ⟨hz_a, hz⟩ := hz
         first | subst hz_a | clear hz_a
         replace hz := Prod.mk.inj hz
         obtain ⟨hz_a, hz⟩ := hz
         first | subst hz_a | clear hz_a
         first | subst hz | clear hz
         exact JQ.join (go_57, gc_58, go_59, gc_60) (Imp.norm (js := [0, 0, 0, 0]) rfl (.cons rfl (.cons rfl (.cons rfl .nil))))
       refine JC.condF tR hc27 <| JC.skip <| JQ.outNB ?_
       have hz := Option.some.inj hq22
       replace hz := Prod.mk.inj hz
       obtain ⟨hz_a, hz⟩ := hz
       first | subst hz_a | clear hz_a
       replace hz := Prod.mk.inj hz
       obtain ⟨hz_a, hz⟩ := hz
       first | subst hz_a | clear hz_a
       replace hz := Prod.mk.inj hz
       obtain ⟨hz_a, hz⟩ := hz
       first | subst hz_a | clear hz_a
       replace hz := Prod.mk.inj hz
       obtain ⟨hz_a, hz⟩ := hz
       first | subst hz_a | clear hz_a
       first | subst hz | clear hz
       exact JQ.join (go_38, gc_39, go_40, gc_41) (Imp.norm (js := [0, 0, 0, 0]) rfl (.cons rfl (.cons rfl (.cons rfl .nil))))
     refine JC.region <| jmv rfl rfl <| jmv rfl rfl <| jT (ov (PTR gb_5 0)) rfl rfl rfl rfl (fun hq_23 => op_move lb tR) <| jT (ov (A r_api_Event v_48)) rfl rfl rfl rfl (fun hq_24 => op_loadA (j := 5) lb tA37 tR rfl (Comp.self r_api_Event v_48) rfl) ?_
     rcases iteB_inv hx22 with ⟨hc26, hx22⟩ | ⟨hc26, hx22⟩
     · refine bI hx22 fun v_51 hv_51 hx22 => JL.runX (.yes rfl (ltB rfl) rfl hc26) (op_call (js := [0, 0, 0, 0]) ld cl30 (sim_cast_Caster_can_pv_svvvoomm k v_48 regions_2 own_3 v_33 log_34 behind_35 x_36 gb_5 go_38 gc_39 go_40 gc_41 go_7 v_51 hv_51) .func (.cons (HasO.cnd tR hc26) (.cons (HasO.cnd tR hc26) .nil)) rfl) fun _ => jc (op_pickT lb tR hc26 tR) <| JL.nil ?_
       try obtain rfl := so hx22
       exact JQ.join () (Imp.norm (js := [0, 0, 0, 0, 0, 0]) rfl (.cons rfl (.cons rfl (.cons rfl (.cons rfl (.cons rfl (.cons rfl .nil)))))))
     refine jk rfl hc26 <| jc (op_pickF lb tR hc26 .cB) <| JL.nil ?_
     try obtain rfl := so hx22
     exact JQ.join () (Imp.norm (js := [0, 0, 0, 0, 0, 0]) rfl (.cons rfl (.cons rfl (.cons rfl (.cons rfl (.cons rfl (.cons rfl .nil)))))))
   refine JC.exit <| JQ.outX ?_
   try obtain rfl := so hx
   have ht := hr _ rfl
   have hq19 := cs ht
   clear hr ht
   refine JQ.outX <| JQ.here ?_
   have hz := Option.some.inj hq19
   replace hz := Prod.mk.inj hz
   obtain ⟨hz_a, hz⟩ := hz
   first | subst hz_a | clear hz_a
   replace hz := Prod.mk.inj hz
   obtain ⟨hz_a, hz⟩ := hz
   first | subst hz_a | clear hz_a
   replace hz := Prod.mk.inj hz
   obtain ⟨hz_a, hz⟩ := hz
   first | subst hz_a | clear hz_a
   first | subst hz | clear hz
   exact JQ.join (go_38, gc_39, go_40, gc_41) (Imp.norm (js := [0, 0, 0, 0]) rfl (.cons rfl (.cons rfl .nil)))
 obtain ⟨v_15, hv_15, hx2⟩ := lt1_inv hx2
 rcases iteB_inv hx2 with ⟨hc14, hx2⟩ | ⟨hc14, hx2⟩
 · refine JC.anyF (base := [(0, ov (PTR gb_5 0)), (3, ov (PTR gb_8 0)), (7, ov (S rB is_13))])
       (fs := fun γ => [⟨some 30, ov (S rB is_13)⟩, ⟨some 31, ov (S rB is_13)⟩, ⟨some 32, bif (!is_13) then ov (PTR gb_8 (0 + 0)) else .one .und⟩, ⟨some 33, bif (!is_13) then ov (PTR gb_8 ((0 + 0) + 1)) else .one .und⟩, ⟨some 34, bif (!is_13) then ov (S (rU UInt64) a_1.ID.Count) else .one .und⟩, ⟨some 35, bif (!is_13) then ov (PTR gb_5 0) else .one .und⟩, ⟨some 36, bif (!is_13) then ov (PTR gb_8 (0 + 0)) else .one .und⟩, ⟨some 37, bif (!is_13) then ov (PTR gb_8 ((0 + 0) + 0)) else .one .und⟩, ⟨some 38, bif (!is_13) then ov (S (rI .i64) a_1.ID.Region) else .one .und⟩, ⟨some 39, bif (!is_13) then ov (S (rI .i64) v_15) else .one .und⟩, ⟨some 40, bif (!is_13) then ov (PTR gb_5 0) else .one .und⟩, ⟨some 41, bif (!is_13) then ov (PTR gb_5 (0 + 2)) else .one .und⟩, ⟨some 42, .one .und⟩, ⟨some 43, .one .und⟩, ⟨some 44, .one .und⟩, ⟨some 45, ov (S rB true)⟩])
       (rs := fun γ => [⟨cvar gb_5 (zq4 go_7) (regions_2, (own_3, (v_4, ((), ((), ((), ())))))), none, none, []⟩, ⟨cmap go_7 (A r_api_Dot) (A r_api_Event) (some x_6), none, none, []⟩, ⟨cvar gb_8 r_api_Event a_1, none, none, [4, 8]⟩, ⟨cvar gb_14 r_api_Event v_12, none, none, []⟩])
       (afts := nn 16) (js := [0, 0, 0, 0]) mixed (.cons rfl (.cons rfl (.cons rfl .nil))) (fun _ => rfl)
       (by
      refine db 1 7 <| dm 2 0 30 ?_
      refine dF 3 1 31 is_13 (fun γ => ov (PTR gb_8 (0 + 0))) (fun γ ρ B hb hd hq_3 => op_fieldAddr (off := 0) lb tf37_0 (.tmp (hb 3 _ rfl))) ?_
      refine dF 4 1 31 is_13 (fun γ => ov (PTR gb_8 ((0 + 0) + 1))) (fun γ ρ B hb hd hq_4 => op_fieldAddr (off := 1) lb tf31_1 (HasO.cnd (tl hd 2 32) (notT (notF hq_4)))) ?_
      refine eF 5 1 31 is_13 (fun γ => ov (S (rU UInt64) a_1.ID.Count)) (fun γ ρ B hb hd hq_5 => OpStep.lk ⟨ρ, (cvar gb_8 r_api_Event a_1) :: B, _⟩ (op_loadS (j := 0) lb tS29 (HasO.cnd (tl hd 3 33) (notT (notF hq_5))) rfl (Comp.trans (cT (comp_api_Event_ID a_1) rfl) (comp_api_Dot_Count a_1.ID) (lE rfl)) rfl rfl)) ?_
      refine dF 6 1 31 is_13 (fun γ => ov (PTR gb_5 0)) (fun γ ρ B hb hd hq_6 => op_move lb (.tmp (hb 0 _ rfl))) ?_
      refine dF 7 1 31 is_13 (fun γ => ov (PTR gb_8 (0 + 0))) (fun γ ρ B hb hd hq_7 => op_fieldAddr (off := 0) lb tf37_0 (.tmp (hb 3 _ rfl))) ?_
      refine dF 8 1 31 is_13 (fun γ => ov (PTR gb_8 ((0 + 0) + 0))) (fun γ ρ B hb hd hq_8 => op_fieldAddr (off := 0) lb tf31_0 (HasO.cnd (tl hd 6 36) (notT (notF hq_8)))) ?_
      refine eF 9 1 31 is_13 (fun γ => ov (S (rI .i64) a_1.ID.Region)) (fun γ ρ B hb hd hq_9 => OpStep.lk ⟨ρ, (cvar gb_8 r_api_Event a_1) :: B, _⟩ (op_loadS (j := 0) lb tS3 (HasO.cnd (tl hd 7 37) (notT (notF hq_9))) rfl (Comp.trans (cT (comp_api_Event_ID a_1) rfl) (comp_api_Dot_Region a_1.ID) (lE rfl)) rfl rfl)) ?_
      refine dF 10 1 31 is_13 (fun γ => ov (S (rI .i64) v_15)) (fun γ ρ B hb hd hq_10 => op_arI lb (HasO.cnd (tl hd 8 38) (notT (notF hq_10))) .cI (cs hv_15)) ?_
      refine dF 11 1 31 is_13 (fun γ => ov (PTR gb_5 0)) (fun γ ρ B hb hd hq_11 => op_nilCheck lb (HasO.cnd (tl hd 5 35) (notT (notF hq_11))) (fun e v h => by subst h; rfl)) ?_
      refine dF 12 1 31 is_13 (fun γ => ov (PTR gb_5 (0 + 2))) (fun γ ρ B hb hd hq_12 => op_fieldAddr (off := 2) lb tf74_2 (HasO.cnd (tl hd 10 40) (notT (notF hq_12)))) ?_
      refine kn 13 1 31 rfl hc14 <| kn 14 1 31 rfl hc14 <| kn 15 1 31 rfl hc14 <| dS 16 (fun γ ρ B hb hd => op_pickT lb (tl hd 1 31) hc14 .cB) ?_
      exact DSteps.nil)
       (by decide +kernel) (fun _ => rfl) (fun _ => rfl) (fun _ => rfl) rfl
       (ρ' := fun γ => [(0, ov (PTR gb_5 0)), (3, ov (PTR gb_8 0)), (45, ov (S rB true))])
       (X' := fun γ => [cvar gb_5 (zq4 go_7) (regions_2, (own_3, (v_4, ((), ((), ((), ())))))), cmap go_7 (A r_api_Dot) (A r_api_Event) (some x_6), cvar gb_8 r_api_Event a_1, cvar gb_14 r_api_Event v_12])
       (fun γ ρ hb hd => (.cons (hb 0 _ rfl) (.cons (hb 3 _ rfl) (.cons (hdq hd 15 45 rfl) .nil)))) (fun _ => rfl) (fun γ => ?_)
   refine JQ.at ⟨[(0, ov (PTR gb_5 0)), (3, ov (PTR gb_8 0)), (45, ov (S rB true))], [cvar gb_5 (zq4 go_7) (regions_2, (own_3, (v_4, ((), ((), ((), ())))))), cmap go_7 (A r_api_Dot) (A r_api_Event) (some x_6), cvar gb_8 r_api_Event a_1, cvar gb_14 r_api_Event v_12], []⟩ ?_
   try obtain rfl := so hx2
   exact JQ.join () (Imp.norm (js := [0, 0, 0]) rfl (.cons rfl (.cons rfl (.cons rfl .nil))))
 refine bI hx2 fun i_16 hv_i_16 hx2 => lI hx2 fun v_17 hv_17 hx2 => ?_
 obtain ⟨v_18, hv_18, hx2⟩ := lt1_inv hx2
 refine JC.anyF (base := [(0, ov (PTR gb_5 0)), (3, ov (PTR gb_8 0)), (7, ov (S rB is_13))])
     (fs := fun γ => [⟨some 30, ov (S rB is_13)⟩, ⟨some 31, ov (S rB is_13)⟩, ⟨some 32, bif (!is_13) then ov (PTR gb_8 (0 + 0)) else .one .und⟩, ⟨some 33, bif (!is_13) then ov (PTR gb_8 ((0 + 0) + 1)) else .one .und⟩, ⟨some 34, bif (!is_13) then ov (S (rU UInt64) a_1.ID.Count) else .one .und⟩, ⟨some 35, bif (!is_13) then ov (PTR gb_5 0) else .one .und⟩, ⟨some 36, bif (!is_13) then ov (PTR gb_8 (0 + 0)) else .one .und⟩, ⟨some 37, bif (!is_13) then ov (PTR gb_8 ((0 + 0) + 0)) else .one .und⟩, ⟨some 38, bif (!is_13) then ov (S (rI .i64) a_1.ID.Region) else .one .und⟩, ⟨some 39, bif (!is_13) then ov (S (rI .i64) v_15) else .one .und⟩, ⟨some 40, bif (!is_13) then ov (PTR gb_5 0) else .one .und⟩, ⟨some 41, bif (!is_13) then ov (PTR gb_5 (0 + 2)) else .one .und⟩, ⟨some 42, ov (PTR gb_5 ((0 + 2) + i_16.1 * 1))⟩, ⟨some 43, ov (S (rU UInt64) v_17)⟩, ⟨some 44, ov (S rB v_18)⟩, ⟨some 45, ov (S rB v_18)⟩])
     (rs := fun γ => [⟨cvar gb_5 (zq4 go_7) (regions_2, (own_3, (v_4, ((), ((), ((), ())))))), none, none, [13]⟩, ⟨cmap go_7 (A r_api_Dot) (A r_api_Event) (some x_6), none, none, []⟩, ⟨cvar gb_8 r_api_Event a_1, none, none, [4, 8]⟩, ⟨cvar gb_14 r_api_Event v_12, none, none, []⟩])
     (afts := nn 16) (js := [0, 0, 0, 0]) mixed (.cons rfl (.cons rfl (.cons rfl .nil))) (fun _ => rfl)
     (by
      refine db 1 7 <| dm 2 0 30 ?_
      refine dF 3 1 31 is_13 (fun γ => ov (PTR gb_8 (0 + 0))) (fun γ ρ B hb hd hq_3 => op_fieldAddr (off := 0) lb tf37_0 (.tmp (hb 3 _ rfl))) ?_
      refine dF 4 1 31 is_13 (fun γ => ov (PTR gb_8 ((0 + 0) + 1))) (fun γ ρ B hb hd hq_4 => op_fieldAddr (off := 1) lb tf31_1 (HasO.cnd (tl hd 2 32) (notT (notF hq_4)))) ?_
      refine eF 5 1 31 is_13 (fun γ => ov (S (rU UInt64) a_1.ID.Count)) (fun γ ρ B hb hd hq_5 => OpStep.lk ⟨ρ, (cvar gb_8 r_api_Event a_1) :: B, _⟩ (op_loadS (j := 0) lb tS29 (HasO.cnd (tl hd 3 33) (notT (notF hq_5))) rfl (Comp.trans (cT (comp_api_Event_ID a_1) rfl) (comp_api_Dot_Count a_1.ID) (lE rfl)) rfl rfl)) ?_
      refine dF 6 1 31 is_13 (fun γ => ov (PTR gb_5 0)) (fun γ ρ B hb hd hq_6 => op_move lb (.tmp (hb 0 _ rfl))) ?_
      refine dF 7 1 31 is_13 (fun γ => ov (PTR gb_8 (0 + 0))) (fun γ ρ B hb hd hq_7 => op_fieldAddr (off := 0) lb tf37_0 (.tmp (hb 3 _ rfl))) ?_
      refine dF 8 1 31 is_13 (fun γ => ov (PTR gb_8 ((0 + 0) + 0))) (fun γ ρ B hb hd hq_8 => op_fieldAddr (off := 0) lb tf31_0 (HasO.cnd (tl hd 6 36) (notT (notF hq_8)))) ?_
      refine eF 9 1 31 is_13 (fun γ => ov (S (rI .i64) a_1.ID.Region)) (fun γ ρ B hb hd hq_9 => OpStep.lk ⟨ρ, (cvar gb_8 r_api_Event a_1) :: B, _⟩ (op_loadS (j := 0) lb tS3 (HasO.cnd (tl hd 7 37) (notT (notF hq_9))) rfl (Comp.trans (cT (comp_api_Event_ID a_1) rfl) (comp_api_Dot_Region a_1.ID) (lE rfl)) rfl rfl)) ?_
      refine dF 10 1 31 is_13 (fun γ => ov (S (rI .i64) v_15)) (fun γ ρ B hb hd hq_10 => op_arI lb (HasO.cnd (tl hd 8 38) (notT (notF hq_10))) .cI (cs hv_15)) ?_
      refine dF 11 1 31 is_13 (fun γ => ov (PTR gb_5 0)) (fun γ ρ B hb hd hq_11 => op_nilCheck lb (HasO.cnd (tl hd 5 35) (notT (notF hq_11))) (fun e v h => by subst h; rfl)) ?_
      refine dF 12 1 31 is_13 (fun γ => ov (PTR gb_5 (0 + 2))) (fun γ ρ B hb hd hq_12 => op_fieldAddr (off := 2) lb tf74_2 (HasO.cnd (tl hd 10 40) (notT (notF hq_12)))) ?_
      refine dY 13 (fun γ ρ B hb hd => ⟨.yes rfl (ltB rfl) (hl hd 1 31 rfl) hc14, lkB (op_indexAddrIF lb tr34 (HasO.cnd (tl hd 11 41) (notT hc14)) (HasO.cnd (tl hd 9 39) (notT hc14)) hv_i_16)⟩) <| dY 14 (fun γ ρ B hb hd => ⟨.yes rfl (ltB rfl) (hl hd 1 31 rfl) hc14, OpStep.lk ⟨ρ, (cvar gb_5 (zq4 go_7) (regions_2, (own_3, (v_4, ((), ((), ((), ()))))))) :: B, _⟩ (op_loadS (j := 0) lb tS29 (tl hd 12 42) rfl (Comp.at (Comp.trans (Comp.self (zq4 go_7) (regions_2, (own_3, (v_4, ((), ((), ((), ()))))))) (Comp.at' (Comp.inS (Comp.inS (Comp.inF (Comp.self (rV 16 (rU UInt64)) v_4) (lE rfl)))) (by rfl : _ = 2)) (lE rfl)) i_16.2 rfl) rfl hv_17)⟩) <| dY 15 (fun γ ρ B hb hd => ⟨.yes rfl (ltB rfl) (hl hd 1 31 rfl) hc14, lkB (op_cmpU lb (HasO.cnd (tl hd 4 34) (notT hc14)) (tl hd 13 43) (cs hv_18))⟩) <| dS 16 (fun γ ρ B hb hd => op_pickF lb (tl hd 1 31) hc14 (tl hd 14 44)) ?_
      exact DSteps.nil)
     (by decide +kernel) (fun _ => rfl) (fun _ => rfl) (fun _ => rfl) rfl
     (ρ' := fun γ => [(0, ov (PTR gb_5 0)), (3, ov (PTR gb_8 0)), (45, ov (S rB v_18))])
     (X' := fun γ => [cvar gb_5 (zq4 go_7) (regions_2, (own_3, (v_4, ((), ((), ((), ())))))), cmap go_7 (A r_api_Dot) (A r_api_Event) (some x_6), cvar gb_8 r_api_Event a_1, cvar gb_14 r_api_Event v_12])
     (fun γ ρ hb hd => (.cons (hb 0 _ rfl) (.cons (hb 3 _ rfl) (.cons (hdq hd 15 45 rfl) .nil)))) (fun _ => rfl) (fun γ => ?_)
 refine JQ.at ⟨[(0, ov (PTR gb_5 0)), (3, ov (PTR gb_8 0)), (45, ov (S rB v_18))], [cvar gb_5 (zq4 go_7) (regions_2, (own_3, (v_4, ((), ((), ((), ())))))), cmap go_7 (A r_api_Dot) (A r_api_Event) (some x_6), cvar gb_8 r_api_Event a_1, cvar gb_14 r_api_Event v_12], []⟩ ?_
 try obtain rfl := so hx2
 exact JQ.join () (Imp.norm (js := [0, 0, 0]) rfl (.cons rfl (.cons rfl (.cons rfl .nil))))

theorem sim_cast_Caster_there_p_svvvoomm (k : Nat) (regions_1 : Int) (own_2 : Int) (v_3 : (Vector UInt64 16)) (x_5 : (List api_Event)) (x_8 : (List (Vector UInt64 16))) (x_11 : (List (api_Dot × api_Event))) (gb_4 : Nat) (go_6 : Option Nat) (gc_7 : Nat) (go_9 : Option Nat) (gc_10 : Nat) (go_12 : Option Nat) (r : Unit) (hm : cast_Caster_there_p_svvvoomm k regions_1 own_2 v_3 x_5 x_8 x_11 = some r) : Sim Try.prog 26 [PTR gb_4 0] [zq21 gb_4 go_6 x_5 gc_7 go_9 x_8 gc_10 go_12 regions_1 own_2 v_3, cown go_6 r_api_Event x_5 (List.length x_5) gc_7, cown go_9 (rV 16 (rU UInt64)) x_8 0 gc_10, cmap go_12 (A r_api_Dot) (A r_api_Event) (some x_11)] (γ := Unit) (fun q => [zq21 gb_4 go_6 x_5 gc_7 go_9 x_8 gc_10 go_12 regions_1 own_2 v_3, cown go_6 r_api_Event x_5 (List.length x_5) gc_7, cown go_9 (rV 16 (rU UInt64)) x_8 0 gc_10, cmap go_12 (A r_api_Dot) (A r_api_Event) (some x_11)]) (fun q => .one (.val (S rB true))) := by
 unfold cast_Caster_there_p_svvvoomm at hm
 refine Sim.of Try.func26 rfl rfl (lE rfl) (fun e0 w0 => ?_)
 refine JC.at ⟨[(0, ov (PTR gb_4 0))], [zq21 gb_4 go_6 x_5 gc_7 go_9 x_8 gc_10 go_12 regions_1 own_2 v_3, cown go_6 r_api_Event x_5 (List.length x_5) gc_7, cown go_9 (rV 16 (rU UInt64)) x_8 0 gc_10, cmap go_12 (A r_api_Dot) (A r_api_Event) (some x_11)], []⟩ <| jr <| jc (op_assign lb .cB) <| jn <| bI hm fun _ hx1 hq1 => JC.seqJ (γ := Unit) (stj := fun _ => ⟨[(2, ov (S rB true))], [zq21 gb_4 go_6 x_5 gc_7 go_9 x_8 gc_10 go_12 regions_1 own_2 v_3, cown go_6 r_api_Event x_5 (List.length x_5) gc_7, cown go_9 (rV 16 (rU UInt64)) x_8 0 gc_10, cmap go_12 (A r_api_Dot) (A r_api_Event) (some x_11)], []⟩) (fun _ => ?_) ?_
 · exact JC.ret <| JQ.done (js := [0, 0, 0, 0]) (ss := [.val (S rB true)]) () (.inl rfl) (.nil rfl) rfl (.cons (.tmp rfl) .nil) rfl rfl rfl
 refine JC.region <| jmv rfl rfl <| jc (op_nilP (neg := true) lb tu25 tR (HasO.const (p := PTO none) fun _ => rfl)) <| jmv rfl rfl <| JL.run (.yes rfl (ltB rfl) rfl rfl) (op_move lb tR) <| JL.run (.yes rfl (ltB rfl) rfl rfl) (op_nilCheck lb tR (fun e v h => by subst h; rfl)) <| JL.run (.yes rfl (ltB rfl) rfl rfl) (op_fieldAddr (off := 20) lb tf74_5 tR) <| JL.run (.yes rfl (ltB rfl) rfl rfl) (op_loadW (j := 0) lb tS72 tR rfl (Comp.trans (Comp.self (zq19 go_6 x_5 gc_7 go_9 x_8 gc_10 go_12) (regions_1, (own_2, (v_3, ((), ((), ((), ()))))))) (Comp.at' (Comp.inS (Comp.inS (Comp.inS (Comp.inS (Comp.inS (Comp.inF (Comp.self (rW (MPV go_12)) ()) (lE rfl))))))) (by rfl : _ = 20)) (lE rfl))) <| JL.run (.yes rfl (ltB rfl) rfl rfl) (op_nilMX (neg := true) (j := 3) lb tu72 rfl tR (HasO.const (p := MPV none) fun _ => rfl) rfl) <| jc (op_pickT lb tR rfl tR) <| jc (op_assign lb tR) <| JL.nil <| JQ.pre (Imp.var (j := 0) (q := (zq19 go_6 x_5 gc_7 go_9 x_8 gc_10 go_12)) (y := (regions_1, (own_2, (v_3, ((), ((), ((), ()))))))) rfl Wk.refl) ?_
 exact JQ.join () (Imp.norm (js := [0, 0, 0, 0]) rfl (.cons rfl .nil))

theorem sim_maps_Valuesmapapi_Dotapi_Event_api_Dot_api_Event (k : Nat) (x_1 : (List (api_Dot × api_Event))) (go_2 : Option Nat) (r : Unit) (hm : maps_Valuesmapapi_Dotapi_Event_api_Dot_api_Event k x_1 = some r) : Sim Try.prog 33 [MPV go_2] [cmap go_2 (A r_api_Dot) (A r_api_Event) (some x_1)] (γ := Nat) (fun q => [cvar q (rW (MPV go_2)) (), cmap go_2 (A r_api_Dot) (A r_api_Event) (some x_1)]) (fun q => .one (.val (CLO 53 [PTR q 0]))) := by
 unfold maps_Valuesmapapi_Dotapi_Event_api_Dot_api_Event at hm
 refine Sim.of Try.func33 rfl rfl (lE rfl) (fun e0 w0 => ?_)
 exact JC.at ⟨[(0, ov (MPV go_2))], [cmap go_2 (A r_api_Dot) (A r_api_Event) (some x_1)], []⟩ <| jr <| jx (op_boxW lb tR) fun gb_3 => jc (op_assign lb (HasO.const (p := NILF) fun _ => rfl)) <| jn <| jr <| jc (op_makeFunc lb (.cons tR .nil)) <| jc (op_assign lb tR) <| jn <| JC.ret <| JQ.done (js := [1, 0]) (ss := [.val (CLO 53 [PTR gb_3 0])]) gb_3 (.inl rfl) (.nil rfl) rfl (.cons (.tmp rfl) .nil) rfl rfl rfl

theorem sim_maps_Valuesmapapi_Dotapi_Event_api_Dot_api_Event_1 {σ τ γ : Type} (k : Nat) (Y_1 : (σ → api_Event → Option (σ ⊕ τ))) (x_2 : (σ ⊕ τ)) (x_5 : (List (api_Dot × api_Event))) (gq_3 : γ) (gb_4 : Nat) (go_6 : Option Nat) (L : Nat) (C : σ ⊕ τ → γ → Chunk) (hY : YSim Try.prog L (fun (u : api_Event) (z : Unit) => [A r_api_Event u]) (fun (u : api_Event) (z : Unit) => []) Y_1 C) (r : (σ ⊕ τ)) (hm : maps_Valuesmapapi_Dotapi_Event_api_Dot_api_Event_1 k Y_1 x_2 x_5 = some r) : Sim Try.prog 53 [YLD L, PTR gb_4 0] [C x_2 gq_3, cvar gb_4 (rW (MPV go_6)) (), cmap go_6 (A r_api_Dot) (A r_api_Event) (some x_5)] (γ := γ) (fun q => [C r q, cvar gb_4 (rW (MPV go_6)) (), cmap go_6 (A r_api_Dot) (A r_api_Event) (some x_5)]) (fun q => .tup []) := by
 unfold maps_Valuesmapapi_Dotapi_Event_api_Dot_api_Event_1 at hm
 refine Sim.of Try.func53 rfl rfl (lE rfl) (fun e0 w0 => ?_)
 refine JC.at ⟨[(0, ov (YLD L)), (1, ov (PTR gb_4 0))], [C x_2 gq_3, cvar gb_4 (rW (MPV go_6)) (), cmap go_6 (A r_api_Dot) (A r_api_Event) (some x_5)], []⟩ <| jr <| jc (op_loadW (j := 1) lb tS72 tR rfl (Comp.self (rW (MPV go_6)) ())) <| jx (op_range (j := 2) lb tu72 rfl tR) fun gr_7 => jn <| JC.block <| bI hm fun tv1 hL1 hq1 => JC.pre ?_ (JC.mloop (γ := γ) (stf := fun s rem q => ⟨[(0, ov (YLD L)), (6, ov (PTR gr_7 0))], [C s q, cmapI go_6 gr_7 (A r_api_Dot) (A r_api_Event) (some x_5) rem none, cvar gb_4 (rW (MPV go_6)) ()], []⟩) (q := gq_3) hL1 ?_)
 · exact (Imp.norm (js := [0, 1, 0]) rfl (.cons rfl (.cons rfl .nil)))
 intro x_9 rem_8 q hf
 obtain ⟨gq_10, hqq⟩ : ∃ z, z = q := ⟨_, rfl⟩
 subst hqq
 refine JC.at ⟨[(0, ov (YLD L)), (6, ov (PTR gr_7 0))], [C x_9 gq_10, cmapI go_6 gr_7 (A r_api_Dot) (A r_api_Event) (some x_5) rem_8 none, cvar gb_4 (rW (MPV go_6)) ()], []⟩ <| jr <| JL.next (j := 1) lb rfl tR (fun h0 => ?_) (fun e_11 rem_12 hp => ?_)
 · subst h0
   replace hf := foldO_end hf
   change maps_Valuesmapapi_Dotapi_Event_api_Dot_api_Event_1.f1 k x_9 = some _ at hf
   unfold maps_Valuesmapapi_Dotapi_Event_api_Dot_api_Event_1.f1 at hf
   refine jc (op_extract (i := 0) lb tR rfl) <| jn <| JC.seq <| JC.condF tR rfl <| JC.exit <| JQ.outX ?_
   have ht := Option.some.inj hf
   have hr := ht
   clear hr
   first | subst ht | clear ht
   dsimp only at hq1
   refine JQ.outX <| JQ.pre (Imp.endIt (j := 1) rfl) <| JQ.here ?_
   obtain rfl := so hq1
   exact JQ.done (js := [0, 1, 0]) (ss := []) gq_10 (.inr rfl) (.nil rfl) rfl .nil rfl rfl rfl
 obtain ⟨x, hx, hr, hn⟩ := foldO_step hf hp
 change maps_Valuesmapapi_Dotapi_Event_api_Dot_api_Event_1.b1 k Y_1 x_9 e_11 = some x at hx
 unfold maps_Valuesmapapi_Dotapi_Event_api_Dot_api_Event_1.b1 at hx
 refine jc (op_extract (i := 0) lb tR rfl) <| jn <| JC.seq <| JC.condT tR rfl <| JC.skip <| JQ.then <| JC.block <| jr <| jc (op_entry (j := 1) lb rfl tR) <| jc (op_extract (i := 1) lb tR rfl) <| jx (op_alloc lb tZ37 zr37) fun gb_13 => jc (op_storeA (j := 3) tA37 tR tR rfl (UpdR.self (by rfl)) rfl) <| jn <| jr <| jmv rfl rfl <| jc (op_loadA (j := 3) lb tA37 tR rfl (Comp.self r_api_Event e_11.2) rfl) <| bI hx fun y_14 hv_y_14 hx => jx (op_yld (js := [0]) (u := e_11.2) (z := ()) (rest := _) lb hY tR (.cons tR .nil) rfl hv_y_14) fun gq_15 => JL.nrm ⟨[(0, ov (YLD L)), (6, ov (PTR gr_7 0)), (13, ov (S rB (Sum.isLeft y_14)))], [C y_14 gq_15, cmapI go_6 gr_7 (A r_api_Dot) (A r_api_Event) (some x_5) rem_12 (some e_11), cvar gb_4 (rW (MPV go_6)) ()], []⟩ [0, 0, 0] rfl (.cons rfl (.cons rfl (.cons rfl .nil))) rfl ?_
 refine lI hx fun v_16 hv_16 hx => jc (op_not lb tR hv_16) <| jn <| jif tR hx (fun hc2 hx => ?_) (fun hc2 hx => ?_)
 · refine JC.ret <| JQ.outRB ?_
   try obtain rfl := so hx
   have ht := hr _ rfl
   clear hn
   clear hr
   first | subst ht | clear ht
   dsimp only at hq1
   refine JQ.outR <| JQ.pre (Imp.endIt (j := 1) rfl) <| JQ.outRB ?_
   obtain rfl := so hq1
   exact JQ.done (js := [0, 1, 0]) (ss := []) gq_15 (.inl rfl) (.nil rfl) rfl .nil rfl rfl rfl
 refine JC.skip <| JQ.outNB ?_
 try obtain rfl := so hx
 exact JQ.pre (Imp.forget (j := 1) rfl) <| JQ.mnext gq_15 hp (hn _ rfl) (Imp.norm (js := [0, 0, 0]) rfl (.cons rfl (.cons rfl .nil)))

theorem sim_slices_AppendSeqapi_Event_api_Event'2 (k : Nat) (s_1 : (List api_Event)) (x_5 : (List (api_Dot × api_Event))) (go_2 : Option Nat) (gc_3 : Nat) (gb_4 : Nat) (go_6 : Option Nat) (r : (List api_Event)) (hm : slices_AppendSeqapi_Event_api_Event'2 k s_1 x_5 = some r) : Sim Try.prog 61 [HDR go_2 0 (List.length s_1) gc_3, CLO 53 [PTR gb_4 0]] [cown go_2 r_api_Event s_1 0 gc_3, cvar gb_4 (rW (MPV go_6)) (), cmap go_6 (A r_api_Dot) (A r_api_Event) (some x_5)] (γ := Option Nat × Nat) (fun q => [cown q.1 r_api_Event r 0 q.2, cvar gb_4 (rW (MPV go_6)) (), cmap go_6 (A r_api_Dot) (A r_api_Event) (some x_5)]) (fun q => .one (.val (HDR q.1 0 (List.length r) q.2))) := by
 unfold slices_AppendSeqapi_Event_api_Event'2 at hm
 refine Sim.of Try.func61 rfl rfl (lE rfl) (fun e0 w0 => ?_)
 refine JC.at ⟨[(0, ov (HDR go_2 0 (List.length s_1) gc_3)), (1, ov (CLO 53 [PTR gb_4 0]))], [cown go_2 r_api_Event s_1 0 gc_3, cvar gb_4 (rW (MPV go_6)) (), cmap go_6 (A r_api_Dot) (A r_api_Event) (some x_5)], []⟩ <| jr <| jx (op_boxW lb tR) fun gb_7 => jc (op_assign lb HasO.nilH) <| jn <| bI hm fun s_20 hx1 hq1 => JC.seqJ (γ := Option Nat × Nat × List Nat) (stj := fun q => ⟨[(2, ov (PTR gb_7 0))], [cvar gb_7 (rW (HDR q.1 0 (List.length s_20) q.2.1)) (), cown q.1 r_api_Event s_20 0 q.2.1, cvar gb_4 (rW (MPV go_6)) (), cmap go_6 (A r_api_Dot) (A r_api_Event) (some x_5), cdefs q.2.2], q.2.2⟩) (fun q => ?_) ?_
 · obtain ⟨go_21, gc_22, gK_23⟩ := q
   refine JC.at ⟨[(2, ov (PTR gb_7 0))], [cvar gb_7 (rW (HDR go_21 0 (List.length s_20) gc_22)) (), cown go_21 r_api_Event s_20 0 gc_22, cvar gb_4 (rW (MPV go_6)) (), cmap go_6 (A r_api_Dot) (A r_api_Event) (some x_5), cdefs gK_23], gK_23⟩ <| jr <| jc (op_loadW (j := 0) lb tS42 tR rfl (Comp.self (rW (HDR go_21 0 (List.length s_20) gc_22)) ())) <| jc (op_assign lb tR) <| jn <| JC.ret ?_
   obtain rfl := so hq1
   exact JQ.doneL (j := 4) (js := [1, 1, 1]) (ss := [.val (HDR go_21 0 (List.length s_20) gc_22)]) (go_21, gc_22) (.inl rfl) rfl rfl (.cons (.tmp rfl) .nil) rfl rfl rfl
 refine jr <| jmv rfl rfl <| jn <| JC.block <| bI hx1 fun tv2 hL2 hq2 => JC.pre (st' := ⟨[(2, ov (PTR gb_7 0)), (6, ov (CLO 53 [PTR gb_4 0]))], [cvar gb_4 (rW (MPV go_6)) (), cmap go_6 (A r_api_Dot) (A r_api_Event) (some x_5), cvar gb_7 (rW (HDR go_2 0 (List.length s_1) gc_3)) (), cown go_2 r_api_Event s_1 0 gc_3], []⟩) (Imp.norm (js := [1, 1, 1, 0]) rfl (.cons rfl (.cons rfl .nil))) ?_
 replace hx1 := hq2
 refine JC.rangeFunc (γ := Option Nat × Nat) (γ' := (Option Nat × Nat)) (r := tv2) (js := [0, 0]) (qf := fun g => g) (X' := fun g => [cvar gb_4 (rW (MPV go_6)) (), cmap go_6 (A r_api_Dot) (A r_api_Event) (some x_5)]) (sv := fun _ => .tup [])
     (fun (u : api_Event) (z : Unit) => [A r_api_Event u]) (fun (u : api_Event) (z : Unit) => []) (fun (s : (List api_Event)) (u : api_Event) => slices_AppendSeqapi_Event_api_Event'2.y1 k s u) (fun (s : (List api_Event)) q => [cvar gb_7 (rW (HDR q.1 0 (List.length s) q.2)) (), cown q.1 r_api_Event s 0 q.2]) (fun (t : Empty) q => nomatch t) (fun (t : Empty) => nomatch t) [(2, ov (PTR gb_7 0))] s_1 (go_2, gc_3) rfl tR cl53 rfl (.cons rfl .nil) (fun _ _ => rfl) (by decide) rfl ?_ (fun L C hY => sim_maps_Valuesmapapi_Dotapi_Event_api_Dot_api_Event_1 k (fun (s : (List api_Event)) (u : api_Event) => slices_AppendSeqapi_Event_api_Event'2.y1 k s u) (Sum.inl s_1) x_5 (go_2, gc_3) gb_4 go_6 L C hY tv2 hL2) ?_ ?_
 · intro e1 w1 F1 L K lp s q u z y hx hlp
   obtain ⟨s_8, hvv⟩ : ∃ z, z = s := ⟨_, rfl⟩
   subst hvv
   obtain ⟨a_11, hvv⟩ : ∃ z, z = u := ⟨_, rfl⟩
   subst hvv
   obtain ⟨go_9, gc_10⟩ := q
   change slices_AppendSeqapi_Event_api_Event'2.y1 k s_8 a_11 = some y at hx
   unfold slices_AppendSeqapi_Event_api_Event'2.y1 at hx
   refine JC.at ⟨[(7, ov (A r_api_Event a_11)), (2, ov (PTR gb_7 0))], [cLK L K (.loop lp), cvar gb_7 (rW (HDR go_9 0 (List.length s_8) gc_10)) (), cown go_9 r_api_Event s_8 0 gc_10], []⟩ <| JC.region <| jx (op_alloc lb tZ37 zr37) fun gb_12 => jc (op_storeA (j := 3) tA37 tR tR rfl (UpdR.self (by rfl)) rfl) <| JL.nil <| JQ.begin (j := 0) hlp rfl <| JC.block <| JC.region <| jc (op_loadW (j := 1) lb tS42 tR rfl (Comp.self (rW (HDR go_9 0 (List.length s_8) gc_10)) ())) <| jc (op_loadA (j := 3) lb tA37 tR rfl (Comp.self r_api_Event a_11) rfl) <| jc (op_buildF (r := r_api_Event) lb tu42 tz37 tZ37 rfl (lE rfl) (.A tR .nil) rfl) <| bI hx fun x_13 hv_x_13 hx => jx (op_appendL (j := 2) lb tu42 tu42 rfl tB37 rfl (Nat.lt_of_lt_of_le Nat.zero_lt_one (lE rfl)) (Nat.lt_of_lt_of_le Nat.zero_lt_one (lE rfl))  rfl tR tR hv_x_13) (fun q => ?_)
   obtain ⟨go_14, gc_15⟩ := q
   exact JL.nrm ⟨[(2, ov (PTR gb_7 0)), (11, ov (HDR go_14 0 (List.length x_13) gc_15))], [cLK L K (.loop { lp with state := .busy }), cvar gb_7 (rW (HDR go_9 0 (List.length s_8) gc_10)) (), cown go_14 r_api_Event x_13 0 gc_15], []⟩ [0, 0, 0] rfl (.cons rfl (.cons rfl .nil)) rfl <| jc (op_storeW (j := 1) tS42 tR tR rfl (UpdR.self (by rfl)) rfl) <| JL.nil <| JQ.outNB <| JQ.rnext (go_14, gc_15) (Option.some.inj hx).symm (Imp.norm (js := [0, 0, 0]) rfl .nil)
 · intro s gK_16 gq0 hr
   obtain ⟨gq2, hgq⟩ : ∃ z, z = gq0 := ⟨_, rfl⟩
   obtain ⟨s_17, hvv⟩ : ∃ z, z = s := ⟨_, rfl⟩
   subst hvv
   subst hr
   dsimp only at hx1
   simp only [← hgq]
   generalize gq2.1 = go_18
   generalize gq2.2 = gc_19
   refine JQ.pre Imp.defs1 <| JQ.pre (st' := ⟨[(2, ov (PTR gb_7 0))], [cdefs (gK_16 :: ([] : List Nat)), cvar gb_7 (rW (HDR go_18 0 (List.length s_17) gc_19)) (), cown go_18 r_api_Event s_17 0 gc_19, cvar gb_4 (rW (MPV go_6)) (), cmap go_6 (A r_api_Dot) (A r_api_Event) (some x_5)], (gK_16 :: ([] : List Nat))⟩) (Imp.norm (js := [0, 0, 0, 0, 0]) rfl (.cons rfl .nil)) <| JQ.outNB ?_
   try obtain rfl := so hx1
   exact JQ.join (go_18, gc_19, (gK_16 :: ([] : List Nat))) (Imp.norm (js := [1, 1, 1, 1, 0]) rfl (.cons rfl .nil))
 intro u
 exact nomatch u

end Go.Proofs.Ytbmimaabgclhjaa
