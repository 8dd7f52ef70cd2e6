/- Walks. -/
import Derived.Test.YtbmimaabgclhjaaT
import Derived.Test.YtbmimaabgclhjaaW0
import Derived.Test.YtbmimaabgclhjaaW6
import Derived.Test.YtbmimaabgclhjaaW7
namespace Go.Proofs.Ytbmimaabgclhjaa
open Go Fw
set_option linter.unusedVariables false
set_option maxRecDepth 100000
set_option maxHeartbeats 4000000

theorem sim_law13_CastOrder (k : Nat) (t_1 : Int) (a_2 : Int) (a_3 : (List law13_Act)) (r : Bool) (hm : law13_CastOrder k t_1 a_2 a_3 = some r) : Sim Try.prog 3 [S (rI .i64) t_1, S (rI .i64) a_2, S (rL r_law13_Act) a_3] [] (γ := Unit) (fun q => []) (fun q => .one (.val (S rB r))) := by
 unfold law13_CastOrder at hm
 refine Sim.of Try.func3 rfl rfl (lE rfl) (fun e0 w0 => ?_)
 refine JC.at ⟨[(0, ov (S (rI .i64) t_1)), (1, ov (S (rI .i64) a_2)), (2, ov (S (rL r_law13_Act) a_3))], [], []⟩ <| jr <| jc (op_assign lb .cB) <| jn <| JC.seq <| jr <| jmv rfl rfl <| bI hm fun v_4 hv_4 hm => jx (op_call (js := []) ld cl8 (sim_law13_much k a_3 v_4 hv_4) .func (.cons tR .nil) rfl) fun _ => jn <| jif tR hm (fun hc1 hm => ?_) (fun hc1 hm => ?_)
 · refine jr <| bI hm fun v_5 hv_5 hm => jx (op_call (js := []) ld cl9 (sim_law13_known k v_5 hv_5) .func .nil rfl) fun _ => jc (op_assign lb tR) <| jn <| JC.ret <| JQ.outR ?_
   obtain rfl := so hm
   exact jd (.val (S rB v_5)) rfl rfl rfl rfl rfl rfl
 refine JC.skip <| JQ.then <| jr <| jmv rfl rfl <| jmv rfl rfl ?_
 obtain ⟨ts2, hs2, hm⟩ := bnd_inv hm
 rcases ts2 with ts2 | ts2
 · obtain _ := ts2
   dsimp only at hm
   refine jx (op_call (js := []) ld cl10 (sim_cast_New_v0 k t_1 a_2 () hs2) .func (.cons tR (.cons tR .nil)) rfl) (fun q => ?_)
   obtain ⟨gb_6, go_7⟩ := q
   refine jmv rfl rfl <| jc (op_extract (i := 0) lb tR rfl) <| jc (op_extract (i := 1) lb tR rfl) <| jc (op_assign lb tR) <| JL.sub ⟨[(2, ov (S (rL r_law13_Act) a_3)), (7, ov (PTR gb_6 0)), (24, ov (S (rI .i64) (0 : Int)))], [zq25 gb_6 go_7 t_1 a_2, cmap go_7 (A r_api_Dot) (A r_api_Event) (some ([] : (List (api_Dot × api_Event))))], []⟩ (.cons rfl (.cons rfl (.cons rfl .nil))) rfl rfl <| jc (op_assign lb tR) <| jn <| JC.seq <| jr <| jmv rfl rfl <| jc (op_cmpI lb tR .cI (cs (by decide : ((0 : Int) != (0 : Int)) = false))) <| jn <| JC.condF tR rfl <| JC.skip <| JQ.then ?_
   obtain ⟨⟨v_52, log_53, behind_54, x_55⟩, hx3, hq3⟩ := bnd_inv hm
   refine JC.seqJ (γ := Option Nat × Nat × Option Nat × Nat) (stj := fun q => ⟨[(7, ov (PTR gb_6 0))], [cvar gb_6 (rP (rI .i64) (rP (rI .i64) (rP (rV 16 (rU UInt64)) (rP (rW (HDR q.1 0 (List.length log_53) q.2.1)) (rP (rW (HDR q.2.2.1 0 (List.length behind_54) q.2.2.2)) (rP (rW (MPV go_7)) r0)))))) (t_1, (a_2, (v_52, ((), ((), ((), ())))))), cown q.1 r_api_Event log_53 (List.length log_53) q.2.1, cown q.2.2.1 (rV 16 (rU UInt64)) behind_54 0 q.2.2.2, cmap go_7 (A r_api_Dot) (A r_api_Event) (some x_55)], []⟩) (fun q => ?_) ?_
   · obtain ⟨go_56, gc_57, go_58, gc_59⟩ := q
     refine JC.at ⟨[(7, ov (PTR gb_6 0))], [zq21 gb_6 go_56 log_53 gc_57 go_58 behind_54 gc_59 go_7 t_1 a_2 v_52, cown go_56 r_api_Event log_53 (List.length log_53) gc_57, cown go_58 (rV 16 (rU UInt64)) behind_54 0 gc_59, cmap go_7 (A r_api_Dot) (A r_api_Event) (some x_55)], []⟩ <| jr <| jmv rfl rfl <| bI hq3 fun v_60 hv_60 hq3 => jx (op_call (js := [0, 0, 0, 0]) ld cl13 (sim_cast_Caster_Log_p_svvvoomm k t_1 a_2 v_52 log_53 behind_54 x_55 gb_6 go_56 gc_57 go_58 gc_59 go_7 v_60 hv_60) .func (.cons tR .nil) rfl) (fun q => ?_)
     obtain ⟨go_61, gc_62⟩ := q
     refine jc (op_assign lb tR) <| jn <| jr <| jx (op_alloc lb tZ46 zr46) fun gb_63 => jn <| bI hq3 fun tv8 hx8 hq8 => JC.seqK (α := Unit) (γ := Unit) (stj := fun v q => ⟨[], [], []⟩) (p := fun v => tv8 = (.inl v)) (fun v q hv => ?_) ?_
     · subst hv
       skip
       obtain _ := q
       dsimp only at hq8
       refine JC.at ⟨[], [], []⟩ <| jr <| bI hq8 fun v_94 hv_94 hq8 => jx (op_call (js := []) ld cl9 (sim_law13_known k v_94 hv_94) .func .nil rfl) fun _ => jc (op_assign lb tR) <| jn <| JC.ret ?_
       obtain rfl := so hq8
       exact jd (.val (S rB v_94)) rfl rfl rfl rfl rfl rfl
     refine jr <| jc (op_assign lb .cI) <| jn <| JC.block <| bI hx8 fun tv9 hL9 hq9 => JC.pre ?_ (JC.loop (γ := Unit) (stf := fun s q => ⟨[(11, ov (HDR go_61 0 (List.length v_60) gc_62)), (12, ov (PTR gb_63 0)), (13, ov (S (rI .i64) s.2))], [cown go_61 r_api_Event v_60 0 gc_62, cvar gb_63 (rV 17 (rU UInt64)) s.1], []⟩) (q := ()) hL9 ?_)
     · exact (Imp.norm (js := [0, 4]) rfl (.cons rfl (.cons rfl (.cons rfl .nil))))
     intro s q x hx hr
     obtain ⟨x_64, x_65⟩ := s
     obtain _ := q
     change law13_CastOrder.b2 k v_60 x_64 x_65 = some x at hx
     unfold law13_CastOrder.b2 at hx
     refine JC.at ⟨[(11, ov (HDR go_61 0 (List.length v_60) gc_62)), (12, ov (PTR gb_63 0)), (13, ov (S (rI .i64) x_65))], [cown go_61 r_api_Event v_60 0 gc_62, cvar gb_63 (rV 17 (rU UInt64)) x_64], []⟩ <| JC.seq <| jr <| jmv rfl rfl <| jmv rfl rfl <| jc (op_lenH lb tu42 tR) <| lI hx fun v_66 hv_66 hx => jc (op_cmpI lb tR tR (cs hv_66)) <| jn <| jif tR hx (fun hc10 hx => ?_) (fun hc10 hx => ?_)
     · refine JC.skip <| JQ.then <| bI hx fun tv11 hx11 hq11 => JC.seqK (α := (Vector UInt64 17)) (γ := Unit) (stj := fun v q => ⟨[(11, ov (HDR go_61 0 (List.length v_60) gc_62)), (12, ov (PTR gb_63 0)), (13, ov (S (rI .i64) x_65))], [cown go_61 r_api_Event v_60 0 gc_62, cvar gb_63 (rV 17 (rU UInt64)) v], []⟩) (p := fun v => tv11 = (.inl v)) (fun v q hv => ?_) ?_
       · subst hv
         obtain ⟨x_92, hvv⟩ : ∃ z, z = v := ⟨_, rfl⟩
         subst hvv
         obtain _ := q
         dsimp only at hq11
         refine JC.at ⟨[(11, ov (HDR go_61 0 (List.length v_60) gc_62)), (12, ov (PTR gb_63 0)), (13, ov (S (rI .i64) x_65))], [cown go_61 r_api_Event v_60 0 gc_62, cvar gb_63 (rV 17 (rU UInt64)) x_92], []⟩ <| JC.region <| jmv rfl rfl <| lI hq11 fun v_93 hv_93 hq11 => jc (op_arI lb tR .cI (cs hv_93)) <| jc (op_assign lb tR) <| JL.nil ?_
         try obtain rfl := so hq11
         exact JQ.next () rfl (Imp.norm (js := [0, 0]) rfl (.cons rfl (.cons rfl (.cons rfl .nil))))
       refine JC.block <| jr <| jmv rfl rfl <| jmv rfl rfl <| bI hx11 fun i_67 hv_i_67 hx11 => jc (op_indexAddrOF (r := r_api_Event) (j := 0) lb tu42 tz37 rfl tR tR hv_i_67) <| jc (op_fieldAddrE (off := 0) lb tf37_0 tR) <| jc (op_fieldAddrE (off := 0) lb tf31_0 tR) <| bI hx11 fun u_68 hv_u_68 hx11 => jc (op_loadOS (r := r_api_Event) (i := i_67) (off := 0) (j := 0) lb tS3 rfl rfl tR hv_u_68 (Comp.at' (Comp.trans (cT (comp_api_Event_ID u_68) rfl) (comp_api_Dot_Region u_68.ID) (lE rfl)) rfl) (by decide)) <| jc (op_assign lb tR) <| jn <| JC.seq <| bI hx11 fun x_78 hx12 hq12 => JC.seqJ (γ := Unit) (stj := fun _ => ⟨[(11, ov (HDR go_61 0 (List.length v_60) gc_62)), (12, ov (PTR gb_63 0)), (13, ov (S (rI .i64) x_65)), (14, ov (S (rI .i64) u_68.ID.Region)), (88, ov (S rB x_78))], [cown go_61 r_api_Event v_60 0 gc_62, cvar gb_63 (rV 17 (rU UInt64)) x_64], []⟩) (fun _ => ?_) ?_
       · refine jif tR hq12 (fun hc18 hq12 => ?_) (fun hc18 hq12 => ?_)
         · refine jr <| jc (op_assign lb .cB) <| jn <| JC.ret <| JQ.outR <| JQ.outRB ?_
           try obtain rfl := so hq12
           dsimp only at hq11
           refine JQ.outR ?_
           try obtain rfl := so hq11
           try obtain rfl := hr _ rfl
           dsimp only at hq9
           refine JQ.outR <| JQ.outRB ?_
           try obtain rfl := so hq9
           dsimp only at hq8
           refine JQ.outR ?_
           obtain rfl := so hq8
           exact jd (.val (S rB false)) rfl rfl rfl rfl rfl rfl
         refine JC.skip <| JQ.then <| jr <| jmv rfl rfl <| bI hq12 fun i_79 hv_i_79 hq12 => jc (op_indexAddrIF lb tr46 tR tR hv_i_79) <| lI hq12 fun v_80 hv_80 hq12 => jc (op_loadS (j := 1) lb tS29 tR rfl (Comp.at (Comp.self (rV 17 (rU UInt64)) x_64) i_79.2 rfl) rfl hv_80) <| lI hq12 fun v_81 hv_81 hq12 => jc (op_arU lb tR (HasO.cU (x := (1 : UInt64)) rfl (by decide)) (cs hv_81)) ?_
         obtain ⟨i_82, hv_i_82, hq12⟩ := bnd_inv hq12
         refine jc (op_indexAddrIF lb tr46 tR tR hv_i_82) <| lI hq12 fun x_83 hv_x_83 hq12 => jc (op_storeS (j := 1) tS29 tR tR rfl rfl (Upd.at (Comp.self (rV 17 (rU UInt64)) x_64) i_82.2 rfl (Upd.self (rV 17 (rU UInt64)) x_64 _)).R hv_x_83) <| jn <| jr <| jc (op_assign lb .cI) <| jn <| JC.block <| bI hq12 fun tv19 hL19 hq19 => JC.pre ?_ (JC.loop (γ := Unit) (stf := fun s q => ⟨[(11, ov (HDR go_61 0 (List.length v_60) gc_62)), (12, ov (PTR gb_63 0)), (13, ov (S (rI .i64) x_65)), (15, ov (S (rI .i64) s))], [cown go_61 r_api_Event v_60 0 gc_62, cvar gb_63 (rV 17 (rU UInt64)) x_83], []⟩) (q := ()) hL19 ?_)
         · exact (Imp.norm (js := [0, 0]) rfl (.cons rfl (.cons rfl (.cons rfl (.cons rfl .nil)))))
         intro x_84 q x hx hr
         obtain _ := q
         change law13_CastOrder.b3 k x_65 v_60 x_84 = some x at hx
         unfold law13_CastOrder.b3 at hx
         refine JC.at ⟨[(11, ov (HDR go_61 0 (List.length v_60) gc_62)), (12, ov (PTR gb_63 0)), (13, ov (S (rI .i64) x_65)), (15, ov (S (rI .i64) x_84))], [cown go_61 r_api_Event v_60 0 gc_62, cvar gb_63 (rV 17 (rU UInt64)) x_83], []⟩ <| JC.seq <| jr <| jmv rfl rfl <| jmv rfl rfl <| lI hx fun v_85 hv_85 hx => jc (op_cmpI lb tR tR (cs hv_85)) <| jn ?_
         rcases iteB_inv hx with ⟨hc20, hx⟩ | ⟨hc20, hx⟩
         · refine JC.condT tR hc20 <| JC.skip <| JQ.then <| JC.seq <| JC.block <| JC.seq <| bI hx fun i_86 hv_i_86 hx => bI hx fun v_87 hv_87 hx => bI hx fun i_88 hv_i_88 hx => bI hx fun v_89 hv_89 hx => ?_
           obtain ⟨v_90, hv_90, hx⟩ := bnd_inv hx
           refine JC.anyF (base := [(11, ov (HDR go_61 0 (List.length v_60) gc_62)), (12, ov (PTR gb_63 0)), (13, ov (S (rI .i64) x_65)), (15, ov (S (rI .i64) x_84))])
               (fs := fun γ => [⟨some 99, ov (HDR go_61 0 (List.length v_60) gc_62)⟩, ⟨some 100, ov (S (rI .i64) x_65)⟩, ⟨some 101, ov (EPT go_61 (i_86 * 21))⟩, ⟨some 102, ov (A r_api_Event v_87)⟩, ⟨some 103, ov (HDR go_61 0 (List.length v_60) gc_62)⟩, ⟨some 104, ov (S (rI .i64) x_84)⟩, ⟨some 105, ov (EPT go_61 (i_88 * 21))⟩, ⟨some 106, ov (A r_api_Event v_89)⟩, ⟨some 107, ov (S rB v_90)⟩])
               (rs := fun γ => [⟨cown go_61 r_api_Event v_60 0 gc_62, none, none, [2, 3, 6, 7]⟩, ⟨cvar gb_63 (rV 17 (rU UInt64)) x_83, none, none, []⟩])
               (afts := nn 9) (js := [0, 0]) mixed (.cons rfl (.cons rfl (.cons rfl (.cons rfl .nil)))) (fun _ => rfl)
               (by
      refine db 1 11 <| db 2 13 <| dR 3 (fun γ ρ B hb hd => OpStep.lk ⟨ρ, (cown go_61 r_api_Event v_60 0 gc_62) :: B, _⟩ (op_indexAddrOF (r := r_api_Event) (j := 0) lb tu42 tz37 rfl (tl hd 0 99) (tl hd 1 100) hv_i_86)) <| dR 4 (fun γ ρ B hb hd => OpStep.lk ⟨ρ, (cown go_61 r_api_Event v_60 0 gc_62) :: B, _⟩ (op_loadOA (r := r_api_Event) (i := i_86) (off := 0) (j := 0) lb tA37 rfl (tl hd 2 101) hv_87 (Comp.self r_api_Event v_87) (by decide))) <| db 5 11 ?_
      refine db 6 15 <| dR 7 (fun γ ρ B hb hd => OpStep.lk ⟨ρ, (cown go_61 r_api_Event v_60 0 gc_62) :: B, _⟩ (op_indexAddrOF (r := r_api_Event) (j := 0) lb tu42 tz37 rfl (tl hd 4 103) (tl hd 5 104) hv_i_88)) <| dR 8 (fun γ ρ B hb hd => OpStep.lk ⟨ρ, (cown go_61 r_api_Event v_60 0 gc_62) :: B, _⟩ (op_loadOA (r := r_api_Event) (i := i_88) (off := 0) (j := 0) lb tA37 rfl (tl hd 6 105) hv_89 (Comp.self r_api_Event v_89) (by decide))) <| dS 9 (fun γ ρ B hb hd => (op_call (js := []) ld cl14 (sim_ref13_Before k v_87 v_89 v_90 hv_90) .func (.cons (tl hd 3 102) (.cons (tl hd 7 106) .nil)) rfl).post (fun _ => Imp.refl)) ?_
      exact DSteps.nil)
               (by decide +kernel) (fun _ => rfl) (fun _ => rfl) (fun _ => rfl) rfl
               (ρ' := fun γ => [(11, ov (HDR go_61 0 (List.length v_60) gc_62)), (12, ov (PTR gb_63 0)), (13, ov (S (rI .i64) x_65)), (15, ov (S (rI .i64) x_84)), (107, ov (S rB v_90))])
               (X' := fun γ => [cown go_61 r_api_Event v_60 0 gc_62, cvar gb_63 (rV 17 (rU UInt64)) x_83])
               (fun γ ρ hb hd => (.cons (hb 11 _ rfl) (.cons (hb 12 _ rfl) (.cons (hb 13 _ rfl) (.cons (hb 15 _ rfl) (.cons (hdq hd 8 107 rfl) .nil)))))) (fun _ => rfl) (fun γ => ?_)
           refine JQ.at ⟨[(11, ov (HDR go_61 0 (List.length v_60) gc_62)), (12, ov (PTR gb_63 0)), (13, ov (S (rI .i64) x_65)), (15, ov (S (rI .i64) x_84)), (107, ov (S rB v_90))], [cown go_61 r_api_Event v_60 0 gc_62, cvar gb_63 (rV 17 (rU UInt64)) x_83], []⟩ <| JQ.then <| jif tR hx (fun hc21 hx => ?_) (fun hc21 hx => ?_)
           · refine jr <| jc (op_assign lb .cB) <| jn <| JC.ret <| JQ.outRB <| JQ.outR ?_
             try obtain rfl := so hx
             try obtain rfl := hr _ rfl
             dsimp only at hq19
             refine JQ.outR <| JQ.outRB <| JQ.outRB ?_
             try obtain rfl := so hq19
             dsimp only at hq11
             refine JQ.outR ?_
             try obtain rfl := so hq11
             try obtain rfl := hr _ rfl
             dsimp only at hq9
             refine JQ.outR <| JQ.outRB ?_
             try obtain rfl := so hq9
             dsimp only at hq8
             refine JQ.outR ?_
             obtain rfl := so hq8
             exact jd (.val (S rB false)) rfl rfl rfl rfl rfl rfl
           refine JC.skip <| JQ.outNB <| JQ.then <| JC.region <| jmv rfl rfl <| lI hx fun v_91 hv_91 hx => jc (op_arI lb tR .cI (cs hv_91)) <| jc (op_assign lb tR) <| JL.nil ?_
           try obtain rfl := so hx
           exact JQ.next () rfl (Imp.norm (js := [0, 0]) rfl (.cons rfl (.cons rfl (.cons rfl (.cons rfl .nil)))))
         refine JC.condF tR hc20 <| JC.exit <| JQ.outX ?_
         try obtain rfl := so hx
         try obtain rfl := hr _ rfl
         dsimp only at hq19
         refine JQ.outX <| JQ.here <| JQ.outNB ?_
         try obtain rfl := so hq19
         exact JQ.joinK x_83 () rfl (Imp.norm (js := [0, 0]) rfl (.cons rfl (.cons rfl (.cons rfl .nil))))
       refine lI hx12 fun v_69 hv_69 hx12 => lI hx12 fun v_70 hv_70 hx12 => ?_
       obtain ⟨v_71, hv_71, hx12⟩ := lt1_inv hx12
       rcases iteB_inv hx12 with ⟨hc17, hx12⟩ | ⟨hc17, hx12⟩
       · refine JC.anyF (base := [(11, ov (HDR go_61 0 (List.length v_60) gc_62)), (12, ov (PTR gb_63 0)), (13, ov (S (rI .i64) x_65)), (14, ov (S (rI .i64) u_68.ID.Region))])
             (fs := fun γ => [⟨some 70, ov (S (rI .i64) u_68.ID.Region)⟩, ⟨some 71, ov (S rB v_69)⟩, ⟨some 72, ov (S rB v_69)⟩, ⟨some 73, bif (!v_69) then ov (S (rI .i64) u_68.ID.Region) else .one .und⟩, ⟨some 74, bif (!v_69) then ov (S rB v_70) else .one .und⟩, ⟨some 75, ov (S rB v_71)⟩, ⟨some 76, ov (S rB v_71)⟩, ⟨some 77, .one .und⟩, ⟨some 78, .one .und⟩, ⟨some 79, .one .und⟩, ⟨some 80, .one .und⟩, ⟨some 81, .one .und⟩, ⟨some 82, .one .und⟩, ⟨some 83, .one .und⟩, ⟨some 84, .one .und⟩, ⟨some 85, .one .und⟩, ⟨some 86, .one .und⟩, ⟨some 87, .one .und⟩, ⟨some 88, ov (S rB true)⟩])
             (rs := fun γ => [⟨cown go_61 r_api_Event v_60 0 gc_62, none, none, []⟩, ⟨cvar gb_63 (rV 17 (rU UInt64)) x_64, none, none, []⟩])
             (afts := nn 19) (js := [0, 0]) mixed (.cons rfl (.cons rfl (.cons rfl (.cons rfl .nil)))) (fun _ => rfl)
             (by
      refine db 1 14 <| dS 2 (fun γ ρ B hb hd => op_cmpI lb (tl hd 0 70) .cI (cs hv_69)) <| dm 3 1 71 ?_
      refine dF 4 2 72 v_69 (fun γ => ov (S (rI .i64) u_68.ID.Region)) (fun γ ρ B hb hd hq_13 => op_move lb (.tmp (hb 14 _ rfl))) ?_
      refine dF 5 2 72 v_69 (fun γ => ov (S rB v_70)) (fun γ ρ B hb hd hq_14 => op_cmpI lb (HasO.cnd (tl hd 3 73) (notT (notF hq_14))) .cI (cs hv_70)) ?_
      refine dS 6 (fun γ ρ B hb hd => op_pickCS lb (tl hd 2 72) (fun hb15 => .cB) (fun hb15 => (HasO.cnd (tl hd 4 74) (notT hb15))) hv_71) <| dm 7 5 75 <| kn 8 6 76 rfl hc17 <| kn 9 6 76 rfl hc17 <| kn 10 6 76 rfl hc17 ?_
      refine kn 11 6 76 rfl hc17 <| kn 12 6 76 rfl hc17 <| kn 13 6 76 rfl hc17 <| kn 14 6 76 rfl hc17 <| kn 15 6 76 rfl hc17 ?_
      refine kn 16 6 76 rfl hc17 <| kn 17 6 76 rfl hc17 <| kn 18 6 76 rfl hc17 <| dS 19 (fun γ ρ B hb hd => op_pickT lb (tl hd 6 76) hc17 .cB) ?_
      exact DSteps.nil)
             (by decide +kernel) (fun _ => rfl) (fun _ => rfl) (fun _ => rfl) rfl
             (ρ' := fun γ => [(11, ov (HDR go_61 0 (List.length v_60) gc_62)), (12, ov (PTR gb_63 0)), (13, ov (S (rI .i64) x_65)), (14, ov (S (rI .i64) u_68.ID.Region)), (88, ov (S rB true))])
             (X' := fun γ => [cown go_61 r_api_Event v_60 0 gc_62, cvar gb_63 (rV 17 (rU UInt64)) x_64])
             (fun γ ρ hb hd => (.cons (hb 11 _ rfl) (.cons (hb 12 _ rfl) (.cons (hb 13 _ rfl) (.cons (hb 14 _ rfl) (.cons (hdq hd 18 88 rfl) .nil)))))) (fun _ => rfl) (fun γ => ?_)
         refine JQ.at ⟨[(11, ov (HDR go_61 0 (List.length v_60) gc_62)), (12, ov (PTR gb_63 0)), (13, ov (S (rI .i64) x_65)), (14, ov (S (rI .i64) u_68.ID.Region)), (88, ov (S rB true))], [cown go_61 r_api_Event v_60 0 gc_62, cvar gb_63 (rV 17 (rU UInt64)) x_64], []⟩ ?_
         try obtain rfl := so hx12
         exact JQ.join () (Imp.norm (js := [0, 0]) rfl (.cons rfl (.cons rfl (.cons rfl (.cons rfl (.cons rfl .nil))))))
       refine bI hx12 fun i_72 hv_i_72 hx12 => bI hx12 fun u_73 hv_u_73 hx12 => bI hx12 fun i_74 hv_i_74 hx12 => lI hx12 fun v_75 hv_75 hx12 => lI hx12 fun v_76 hv_76 hx12 => ?_
       obtain ⟨v_77, hv_77, hx12⟩ := lt1_inv hx12
       refine JC.anyF (base := [(11, ov (HDR go_61 0 (List.length v_60) gc_62)), (12, ov (PTR gb_63 0)), (13, ov (S (rI .i64) x_65)), (14, ov (S (rI .i64) u_68.ID.Region))])
           (fs := fun γ => [⟨some 70, ov (S (rI .i64) u_68.ID.Region)⟩, ⟨some 71, ov (S rB v_69)⟩, ⟨some 72, ov (S rB v_69)⟩, ⟨some 73, bif (!v_69) then ov (S (rI .i64) u_68.ID.Region) else .one .und⟩, ⟨some 74, bif (!v_69) then ov (S rB v_70) else .one .und⟩, ⟨some 75, ov (S rB v_71)⟩, ⟨some 76, ov (S rB v_71)⟩, ⟨some 77, ov (HDR go_61 0 (List.length v_60) gc_62)⟩, ⟨some 78, ov (S (rI .i64) x_65)⟩, ⟨some 79, ov (EPT go_61 (i_72 * 21))⟩, ⟨some 80, ov (EPT go_61 ((i_72 * 21) + 0))⟩, ⟨some 81, ov (EPT go_61 (((i_72 * 21) + 0) + 1))⟩, ⟨some 82, ov (S (rU UInt64) u_73.ID.Count)⟩, ⟨some 83, ov (S (rI .i64) u_68.ID.Region)⟩, ⟨some 84, ov (PTR gb_63 (0 + i_74.1 * 1))⟩, ⟨some 85, ov (S (rU UInt64) v_75)⟩, ⟨some 86, ov (S (rU UInt64) v_76)⟩, ⟨some 87, ov (S rB v_77)⟩, ⟨some 88, ov (S rB v_77)⟩])
           (rs := fun γ => [⟨cown go_61 r_api_Event v_60 0 gc_62, none, none, [9, 12]⟩, ⟨cvar gb_63 (rV 17 (rU UInt64)) x_64, none, none, [15]⟩])
           (afts := nn 19) (js := [0, 0]) mixed (.cons rfl (.cons rfl (.cons rfl (.cons rfl .nil)))) (fun _ => rfl)
           (by
      refine db 1 14 <| dS 2 (fun γ ρ B hb hd => op_cmpI lb (tl hd 0 70) .cI (cs hv_69)) <| dm 3 1 71 ?_
      refine dF 4 2 72 v_69 (fun γ => ov (S (rI .i64) u_68.ID.Region)) (fun γ ρ B hb hd hq_13 => op_move lb (.tmp (hb 14 _ rfl))) ?_
      refine dF 5 2 72 v_69 (fun γ => ov (S rB v_70)) (fun γ ρ B hb hd hq_14 => op_cmpI lb (HasO.cnd (tl hd 3 73) (notT (notF hq_14))) .cI (cs hv_70)) ?_
      refine dS 6 (fun γ ρ B hb hd => op_pickCS lb (tl hd 2 72) (fun hb15 => .cB) (fun hb15 => (HasO.cnd (tl hd 4 74) (notT hb15))) hv_71) <| dm 7 5 75 <| dY 8 (fun γ ρ B hb hd => ⟨.yes rfl (ltB rfl) (hl hd 6 76 rfl) hc17, lkB (op_move lb (.tmp (hb 11 _ rfl)))⟩) <| dY 9 (fun γ ρ B hb hd => ⟨.yes rfl (ltB rfl) (hl hd 6 76 rfl) hc17, lkB (op_move lb (.tmp (hb 13 _ rfl)))⟩) <| dY 10 (fun γ ρ B hb hd => ⟨.yes rfl (ltB rfl) (hl hd 6 76 rfl) hc17, OpStep.lk ⟨ρ, (cown go_61 r_api_Event v_60 0 gc_62) :: B, _⟩ (op_indexAddrOF (r := r_api_Event) (j := 0) lb tu42 tz37 rfl (tl hd 7 77) (tl hd 8 78) hv_i_72)⟩) ?_
      refine dY 11 (fun γ ρ B hb hd => ⟨.yes rfl (ltB rfl) (hl hd 6 76 rfl) hc17, lkB (op_fieldAddrE (off := 0) lb tf37_0 (tl hd 9 79))⟩) <| dY 12 (fun γ ρ B hb hd => ⟨.yes rfl (ltB rfl) (hl hd 6 76 rfl) hc17, lkB (op_fieldAddrE (off := 1) lb tf31_1 (tl hd 10 80))⟩) <| dY 13 (fun γ ρ B hb hd => ⟨.yes rfl (ltB rfl) (hl hd 6 76 rfl) hc17, OpStep.lk ⟨ρ, (cown go_61 r_api_Event v_60 0 gc_62) :: B, _⟩ (op_loadOS (r := r_api_Event) (i := i_72) (off := 1) (j := 0) lb tS29 rfl rfl (tl hd 11 81) hv_u_73 (Comp.at' (Comp.trans (cT (comp_api_Event_ID u_73) rfl) (comp_api_Dot_Count u_73.ID) (lE rfl)) rfl) (by decide))⟩) <| dY 14 (fun γ ρ B hb hd => ⟨.yes rfl (ltB rfl) (hl hd 6 76 rfl) hc17, lkB (op_move lb (.tmp (hb 14 _ rfl)))⟩) <| dY 15 (fun γ ρ B hb hd => ⟨.yes rfl (ltB rfl) (hl hd 6 76 rfl) hc17, lkB (op_indexAddrIF lb tr46 (.tmp (hb 12 _ rfl)) (tl hd 13 83) hv_i_74)⟩) ?_
      refine dY 16 (fun γ ρ B hb hd => ⟨.yes rfl (ltB rfl) (hl hd 6 76 rfl) hc17, OpStep.lk ⟨ρ, (cvar gb_63 (rV 17 (rU UInt64)) x_64) :: B, _⟩ (op_loadS (j := 0) lb tS29 (tl hd 14 84) rfl (Comp.at (Comp.self (rV 17 (rU UInt64)) x_64) i_74.2 rfl) rfl hv_75)⟩) <| dY 17 (fun γ ρ B hb hd => ⟨.yes rfl (ltB rfl) (hl hd 6 76 rfl) hc17, lkB (op_arU lb (tl hd 15 85) (HasO.cU (x := (1 : UInt64)) rfl (by decide)) (cs hv_76))⟩) <| dY 18 (fun γ ρ B hb hd => ⟨.yes rfl (ltB rfl) (hl hd 6 76 rfl) hc17, lkB (op_cmpU lb (tl hd 12 82) (tl hd 16 86) (cs hv_77))⟩) <| dS 19 (fun γ ρ B hb hd => op_pickF lb (tl hd 6 76) hc17 (tl hd 17 87)) ?_
      exact DSteps.nil)
           (by decide +kernel) (fun _ => rfl) (fun _ => rfl) (fun _ => rfl) rfl
           (ρ' := fun γ => [(11, ov (HDR go_61 0 (List.length v_60) gc_62)), (12, ov (PTR gb_63 0)), (13, ov (S (rI .i64) x_65)), (14, ov (S (rI .i64) u_68.ID.Region)), (88, ov (S rB v_77))])
           (X' := fun γ => [cown go_61 r_api_Event v_60 0 gc_62, cvar gb_63 (rV 17 (rU UInt64)) x_64])
           (fun γ ρ hb hd => (.cons (hb 11 _ rfl) (.cons (hb 12 _ rfl) (.cons (hb 13 _ rfl) (.cons (hb 14 _ rfl) (.cons (hdq hd 18 88 rfl) .nil)))))) (fun _ => rfl) (fun γ => ?_)
       refine JQ.at ⟨[(11, ov (HDR go_61 0 (List.length v_60) gc_62)), (12, ov (PTR gb_63 0)), (13, ov (S (rI .i64) x_65)), (14, ov (S (rI .i64) u_68.ID.Region)), (88, ov (S rB v_77))], [cown go_61 r_api_Event v_60 0 gc_62, cvar gb_63 (rV 17 (rU UInt64)) x_64], []⟩ ?_
       try obtain rfl := so hx12
       exact JQ.join () (Imp.norm (js := [0, 0]) rfl (.cons rfl (.cons rfl (.cons rfl (.cons rfl (.cons rfl .nil))))))
     refine JC.exit <| JQ.outX ?_
     try obtain rfl := so hx
     try obtain rfl := hr _ rfl
     dsimp only at hq9
     refine JQ.outX <| JQ.here ?_
     try obtain rfl := so hq9
     exact JQ.joinK () () rfl (Imp.norm (js := []) rfl .nil)
   refine jr <| jc (op_assign lb .cI) <| jn <| JC.block <| JC.pre (Imp.nilown r_api_Event) <| JC.pre (Imp.nilown (rV 16 (rU UInt64))) <| JC.pre (Imp.frz (j := 2) rfl ImpK.refl) <| JC.pre ?_ (JC.loop (γ := Option Nat × Nat × Option Nat × Nat) (stf := fun s q => ⟨[(2, ov (S (rL r_law13_Act) a_3)), (7, ov (PTR gb_6 0)), (9, ov (S (rI .i64) s.2.2.2.2))], [cvar gb_6 (rP (rI .i64) (rP (rI .i64) (rP (rV 16 (rU UInt64)) (rP (rW (HDR q.1 0 (List.length s.2.1) q.2.1)) (rP (rW (HDR q.2.2.1 0 (List.length s.2.2.1) q.2.2.2)) (rP (rW (MPV go_7)) r0)))))) (t_1, (a_2, (s.1, ((), ((), ((), ())))))), cown q.1 r_api_Event s.2.1 (List.length s.2.1) q.2.1, cown q.2.2.1 (rV 16 (rU UInt64)) s.2.2.1 0 q.2.2.2, cmap go_7 (A r_api_Dot) (A r_api_Event) (some s.2.2.2.1)], []⟩) (q := (none, 0, none, 0)) hx3 ?_)
   · exact (Imp.norm (js := [0, 1, 1, 0]) rfl (.cons rfl (.cons rfl (.cons rfl .nil))))
   intro s q x hx hr
   obtain ⟨v_8, log_9, behind_10, x_11, x_12⟩ := s
   obtain ⟨go_13, gc_14, go_15, gc_16⟩ := q
   change law13_CastOrder.b1 k a_3 t_1 a_2 v_8 log_9 behind_10 x_11 x_12 = some x at hx
   unfold law13_CastOrder.b1 at hx
   refine JC.at ⟨[(2, ov (S (rL r_law13_Act) a_3)), (7, ov (PTR gb_6 0)), (9, ov (S (rI .i64) x_12))], [zq21 gb_6 go_13 log_9 gc_14 go_15 behind_10 gc_16 go_7 t_1 a_2 v_8, cown go_13 r_api_Event log_9 (List.length log_9) gc_14, cown go_15 (rV 16 (rU UInt64)) behind_10 0 gc_16, cmap go_7 (A r_api_Dot) (A r_api_Event) (some x_11)], []⟩ <| JC.seq <| jr <| jmv rfl rfl <| jmv rfl rfl <| jc (op_lenL lb tu22 tR) <| lI hx fun v_17 hv_17 hx => jc (op_cmpI lb tR tR (cs hv_17)) <| jn <| jif tR hx (fun hc5 hx => ?_) (fun hc5 hx => ?_)
   · refine JC.skip <| JQ.then ?_
     obtain ⟨⟨v_43, log_44, behind_45, x_46⟩, hx6, hq6⟩ := bnd_inv hx
     refine JC.seqJ (γ := Option Nat × Nat × Option Nat × Nat) (stj := fun q => ⟨[(2, ov (S (rL r_law13_Act) a_3)), (7, ov (PTR gb_6 0)), (9, ov (S (rI .i64) x_12))], [cvar gb_6 (rP (rI .i64) (rP (rI .i64) (rP (rV 16 (rU UInt64)) (rP (rW (HDR q.1 0 (List.length log_44) q.2.1)) (rP (rW (HDR q.2.2.1 0 (List.length behind_45) q.2.2.2)) (rP (rW (MPV go_7)) r0)))))) (t_1, (a_2, (v_43, ((), ((), ((), ())))))), cown q.1 r_api_Event log_44 (List.length log_44) q.2.1, cown q.2.2.1 (rV 16 (rU UInt64)) behind_45 0 q.2.2.2, cmap go_7 (A r_api_Dot) (A r_api_Event) (some x_46)], []⟩) (fun q => ?_) ?_
     · obtain ⟨go_47, gc_48, go_49, gc_50⟩ := q
       refine JC.at ⟨[(2, ov (S (rL r_law13_Act) a_3)), (7, ov (PTR gb_6 0)), (9, ov (S (rI .i64) x_12))], [zq21 gb_6 go_47 log_44 gc_48 go_49 behind_45 gc_50 go_7 t_1 a_2 v_43, cown go_47 r_api_Event log_44 (List.length log_44) gc_48, cown go_49 (rV 16 (rU UInt64)) behind_45 0 gc_50, cmap go_7 (A r_api_Dot) (A r_api_Event) (some x_46)], []⟩ <| JC.region <| jmv rfl rfl <| lI hq6 fun v_51 hv_51 hq6 => jc (op_arI lb tR .cI (cs hv_51)) <| jc (op_assign lb tR) <| JL.nil ?_
       try obtain rfl := so hq6
       exact JQ.next (go_47, gc_48, go_49, gc_50) rfl (Imp.norm (js := [0, 0, 0, 0]) rfl (.cons rfl (.cons rfl (.cons rfl .nil))))
     refine JC.block <| jr <| jmv rfl rfl <| jmv rfl rfl <| bI hx6 fun v_18 hv_18 hx6 => jc (op_indexAddrLg lb tu22 tz39 tR tR hv_18) <| jc (op_fieldAddrP lb tf39_1 tR (comp_law13_Act_Event v_18)) <| jc (op_loadPAg lb tA37 tR rfl) <| jx (op_alloc lb tZ37 zr37) fun gb_19 => JL.sub ⟨[(2, ov (S (rL r_law13_Act) a_3)), (7, ov (PTR gb_6 0)), (9, ov (S (rI .i64) x_12)), (10, ov (PTR gb_19 0)), (38, ov (A r_api_Event v_18.Event))], [zq21 gb_6 go_13 log_9 gc_14 go_15 behind_10 gc_16 go_7 t_1 a_2 v_8, cown go_13 r_api_Event log_9 (List.length log_9) gc_14, cown go_15 (rV 16 (rU UInt64)) behind_10 0 gc_16, cmap go_7 (A r_api_Dot) (A r_api_Event) (some x_11), cvar gb_19 zq1 zq2], []⟩ (.cons rfl (.cons rfl (.cons rfl (.cons rfl (.cons rfl .nil))))) rfl rfl <| jc (op_storeA (j := 4) tA37 tR tR rfl (UpdR.self (by rfl)) rfl) <| jn <| jr <| jmv rfl rfl <| jmv rfl rfl <| bI hx6 fun v_20 hv_20 hx6 => jc (op_indexAddrLg lb tu22 tz39 tR tR hv_20) <| jc (op_fieldAddrP lb tf39_0 tR (comp_law13_Act_Kind v_20)) <| jc (op_loadPSg lb tS3 rfl tR rfl) ?_
     obtain ⟨v_21, hv_21, hx6⟩ := lt1_inv hx6
     refine jc (op_cmpI lb tR .cI (cs hv_21)) <| jn <| jif tR hx6 (fun hc7 hx6 => ?_) (fun hc7 hx6 => ?_)
     · refine JC.region <| jmv rfl rfl <| jc (op_fieldAddr (off := 2) lb tf37_1 tR) <| jc (op_loadS (j := 4) lb tS9 tR rfl (cT (comp_api_Event_Topic v_18.Event) rfl) rfl rfl) <| JL.sub ⟨[(2, ov (S (rL r_law13_Act) a_3)), (7, ov (PTR gb_6 0)), (9, ov (S (rI .i64) x_12)), (10, ov (PTR gb_19 0)), (45, ov (PTR gb_6 0)), (47, ov (S rS v_18.Event.Topic))], [zq21 gb_6 go_13 log_9 gc_14 go_15 behind_10 gc_16 go_7 t_1 a_2 v_8, cown go_13 r_api_Event log_9 (List.length log_9) gc_14, cown go_15 (rV 16 (rU UInt64)) behind_10 0 gc_16, cmap go_7 (A r_api_Dot) (A r_api_Event) (some x_11), cvar gb_19 r_api_Event v_18.Event], []⟩ (.cons rfl (.cons rfl (.cons rfl (.cons rfl (.cons rfl (.cons rfl .nil)))))) rfl rfl <| jc (op_fieldAddr (off := 3) lb tf37_2 tR) <| jc (op_loadS (j := 4) lb tS32 tR rfl (cT (comp_api_Event_Payload v_18.Event) rfl) rfl rfl) <| jc (op_fieldAddr (off := 20) lb tf37_4 tR) <| jc (op_loadS (j := 4) lb tS35 tR rfl (cT (comp_api_Event_To v_18.Event) rfl) rfl rfl) ?_
       obtain ⟨⟨v_22, v_23, x_24, x_25, x_26⟩, hv_22, hx6⟩ := bnd_inv hx6
       refine jx (op_call (js := [0, 0, 0, 0]) ld cl11 (sim_cast_Caster_Publish_pvvv_svvvoomm k v_18.Event.Topic v_18.Event.Payload v_18.Event.To t_1 a_2 v_8 log_9 behind_10 x_11 gb_6 go_13 gc_14 go_15 gc_16 go_7 (v_22, v_23, x_24, x_25, x_26) hv_22) .func (.cons tR (.cons tR (.cons tR (.cons tR .nil)))) rfl) (fun q => ?_)
       obtain ⟨go_27, gc_28, go_29, gc_30⟩ := q
       refine JL.nil <| JQ.outNB ?_
       have hz := Option.some.inj hx6
       replace hz := Prod.mk.inj hz
       obtain ⟨hz_a, hz⟩ := hz
       first | subst hz_a | clear hz_a
       replace hz := Prod.mk.inj hz
       obtain ⟨hz_a, hz⟩ := hz
       first | subst hz_a | clear hz_a
       replace hz := Prod.mk.inj hz
       obtain ⟨hz_a, hz⟩ := hz
       first | subst hz_a | clear hz_a
       first | subst hz | clear hz
       exact JQ.join (go_27, gc_28, go_29, gc_30) (Imp.norm (js := [0, 0, 0, 0]) rfl (.cons rfl (.cons rfl (.cons rfl .nil))))
     refine JC.region <| jmv rfl rfl <| jc (op_loadA (j := 4) lb tA37 tR rfl (Comp.self r_api_Event v_18.Event) rfl) ?_
     obtain ⟨⟨v_31, v_32, x_33, x_34, x_35, x_36⟩, hv_31, hx6⟩ := bnd_inv hx6
     refine jx (op_call (js := [0, 0, 0, 0]) ld cl12 (sim_cast_Caster_Offer_pv_svvvoomm k v_18.Event t_1 a_2 v_8 log_9 behind_10 x_11 gb_6 go_13 gc_14 go_15 gc_16 go_7 (v_31, v_32, x_33, x_34, x_35, x_36) hv_31) .func (.cons tR (.cons tR .nil)) rfl) (fun q => ?_)
     obtain ⟨go_37, gc_38, go_39, gc_40, go_41, gc_42⟩ := q
     refine JL.nrm ⟨[(2, ov (S (rL r_law13_Act) a_3)), (7, ov (PTR gb_6 0)), (9, ov (S (rI .i64) x_12))], [zq21 gb_6 go_39 x_34 gc_40 go_41 x_35 gc_42 go_7 t_1 a_2 x_33, cown go_39 r_api_Event x_34 (List.length x_34) gc_40, cown go_41 (rV 16 (rU UInt64)) x_35 0 gc_42, cmap go_7 (A r_api_Dot) (A r_api_Event) (some (x_36))], []⟩ [1, 1, 1, 1] rfl (.cons rfl (.cons rfl (.cons rfl .nil))) rfl <| JL.nil <| JQ.outNB ?_
     have hz := Option.some.inj hx6
     replace hz := Prod.mk.inj hz
     obtain ⟨hz_a, hz⟩ := hz
     first | subst hz_a | clear hz_a
     replace hz := Prod.mk.inj hz
     obtain ⟨hz_a, hz⟩ := hz
     first | subst hz_a | clear hz_a
     replace hz := Prod.mk.inj hz
     obtain ⟨hz_a, hz⟩ := hz
     first | subst hz_a | clear hz_a
     first | subst hz | clear hz
     exact JQ.join (go_39, gc_40, go_41, gc_42) (Imp.norm (js := [0, 0, 0, 0]) rfl (.cons rfl (.cons rfl (.cons rfl .nil))))
   refine JC.exit <| JQ.outX ?_
   try obtain rfl := so hx
   have ht := hr _ rfl
   have hq4 := cs ht
   clear hr ht
   refine JQ.outX <| JQ.here ?_
   have hz := Option.some.inj hq4
   replace hz := Prod.mk.inj hz
   obtain ⟨hz_a, hz⟩ := hz
   first | subst hz_a | clear hz_a
   replace hz := Prod.mk.inj hz
   obtain ⟨hz_a, hz⟩ := hz
   first | subst hz_a | clear hz_a
   replace hz := Prod.mk.inj hz
   obtain ⟨hz_a, hz⟩ := hz
   first | subst hz_a | clear hz_a
   first | subst hz | clear hz
   exact JQ.join (go_13, gc_14, go_15, gc_16) (Imp.norm (js := [0, 0, 0, 0]) rfl (.cons rfl .nil))
 obtain _ := ts2
 dsimp only at hm
 refine jx (op_call (js := []) ld cl10 (sim_cast_New_v1 k t_1 a_2 () hs2) .func (.cons tR (.cons tR .nil)) rfl) fun _ => jmv rfl rfl <| jc (op_extract (i := 0) lb tR rfl) <| jc (op_extract (i := 1) lb tR rfl) <| jc (op_assign lb tR) <| JL.sub ⟨[(2, ov (S (rL r_law13_Act) a_3)), (7, ov (PTO none)), (24, ov (S (rI .i64) (2 : Int)))], [], []⟩ (.cons rfl (.cons rfl (.cons rfl .nil))) rfl rfl <| jc (op_assign lb tR) <| jn <| JC.seq <| jr <| jmv rfl rfl <| jc (op_cmpI lb tR .cI (cs (by decide : ((2 : Int) != (0 : Int)) = true))) <| jn <| JC.condT tR rfl <| jr <| bI hm fun v_95 hv_95 hm => jx (op_call (js := []) ld cl9 (sim_law13_known k v_95 hv_95) .func .nil rfl) (fun _ => ?_)
 refine jc (op_assign lb tR) <| jn <| JC.ret <| JQ.outR ?_
 obtain rfl := so hm
 exact jd (.val (S rB v_95)) rfl rfl rfl rfl rfl rfl

end Go.Proofs.Ytbmimaabgclhjaa
