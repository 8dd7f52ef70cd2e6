/- Walks. -/
import Derived.Test.YtbmimaabgclhjaaT
import Derived.Test.YtbmimaabgclhjaaW0
import Derived.Test.YtbmimaabgclhjaaW6
import Derived.Test.YtbmimaabgclhjaaW7
namespace Go.Proofs.Ytbmimaabgclhjaa
open Go Fw
set_option linter.unusedVariables false
set_option maxRecDepth 100000
set_option maxHeartbeats 4000000

theorem sim_law13_CastPast (k : Nat) (t_1 : Int) (a_2 : (List law13_Act)) (r : Bool) (hm : law13_CastPast k t_1 a_2 = some r) : Sim Try.prog 5 [S (rI .i64) t_1, S (rL r_law13_Act) a_2] [] (γ := Unit) (fun q => []) (fun q => .one (.val (S rB r))) := by
 unfold law13_CastPast at hm
 refine Sim.of Try.func5 rfl rfl (lE rfl) (fun e0 w0 => ?_)
 refine JC.at ⟨[(0, ov (S (rI .i64) t_1)), (1, ov (S (rL r_law13_Act) a_2))], [], []⟩ <| jr <| jc (op_assign lb .cB) <| jn <| JC.seq <| jr <| jmv rfl rfl <| bI hm fun v_3 hv_3 hm => jx (op_call (js := []) ld cl8 (sim_law13_much k a_2 v_3 hv_3) .func (.cons tR .nil) rfl) fun _ => jn <| jif tR hm (fun hc1 hm => ?_) (fun hc1 hm => ?_)
 · refine jr <| bI hm fun v_4 hv_4 hm => jx (op_call (js := []) ld cl9 (sim_law13_known k v_4 hv_4) .func .nil rfl) fun _ => jc (op_assign lb tR) <| jn <| JC.ret <| JQ.outR ?_
   obtain rfl := so hm
   exact jd (.val (S rB v_4)) rfl rfl rfl rfl rfl rfl
 refine JC.skip <| JQ.then <| jr <| jmv rfl rfl ?_
 obtain ⟨ts2, hs2, hm⟩ := bnd_inv hm
 rcases ts2 with ts2 | ts2
 · obtain _ := ts2
   dsimp only at hm
   refine jx (op_call (js := []) ld cl10 (sim_cast_New_v0 k t_1 (1 : Int) () hs2) .func (.cons tR (.cons .cI .nil)) rfl) (fun q => ?_)
   obtain ⟨gb_5, go_6⟩ := q
   refine jmv rfl rfl <| jc (op_extract (i := 0) lb tR rfl) <| jc (op_extract (i := 1) lb tR rfl) <| jc (op_assign lb tR) <| jc (op_assign lb tR) <| JL.sub ⟨[(1, ov (S (rL r_law13_Act) a_2)), (5, ov (PTR gb_5 0)), (6, ov (S (rI .i64) (0 : Int)))], [zq25 gb_5 go_6 t_1, cmap go_6 (A r_api_Dot) (A r_api_Event) (some ([] : (List (api_Dot × api_Event))))], []⟩ (.cons rfl (.cons rfl (.cons rfl .nil))) rfl rfl <| jn <| JC.seq <| jr <| jmv rfl rfl <| jc (op_cmpI lb tR .cI (cs (by decide : ((0 : Int) != (0 : Int)) = false))) <| jn <| JC.condF tR rfl <| JC.skip <| JQ.then ?_
   obtain ⟨⟨v_51, log_52, behind_53, x_54⟩, hx3, hq3⟩ := bnd_inv hm
   refine JC.seqJ (γ := Option Nat × Nat × Option Nat × Nat) (stj := fun q => ⟨[(5, ov (PTR gb_5 0))], [cvar gb_5 (rP (rI .i64) (rP (rI .i64) (rP (rV 16 (rU UInt64)) (rP (rW (HDR q.1 0 (List.length log_52) q.2.1)) (rP (rW (HDR q.2.2.1 0 (List.length behind_53) q.2.2.2)) (rP (rW (MPV go_6)) r0)))))) (t_1, ((1 : Int), (v_51, ((), ((), ((), ())))))), cown q.1 r_api_Event log_52 (List.length log_52) q.2.1, cown q.2.2.1 (rV 16 (rU UInt64)) behind_53 0 q.2.2.2, cmap go_6 (A r_api_Dot) (A r_api_Event) (some x_54)], []⟩) (fun q => ?_) ?_
   · obtain ⟨go_55, gc_56, go_57, gc_58⟩ := q
     refine JC.at ⟨[(5, ov (PTR gb_5 0))], [zq28 gb_5 go_55 log_52 gc_56 go_57 behind_53 gc_58 go_6 t_1 v_51, cown go_55 r_api_Event log_52 (List.length log_52) gc_56, cown go_57 (rV 16 (rU UInt64)) behind_53 0 gc_58, cmap go_6 (A r_api_Dot) (A r_api_Event) (some x_54)], []⟩ <| jr <| jx (op_alloc lb tZ34 zr34) fun gb_59 => jn <| bI hq3 fun tv8 hx8 hq8 => JC.seqK (α := (Vector UInt64 16)) (γ := Unit) (stj := fun v q => ⟨[(5, ov (PTR gb_5 0)), (9, ov (PTR gb_59 0))], [zq28 gb_5 go_55 log_52 gc_56 go_57 behind_53 gc_58 go_6 t_1 v_51, cown go_55 r_api_Event log_52 (List.length log_52) gc_56, cown go_57 (rV 16 (rU UInt64)) behind_53 0 gc_58, cmap go_6 (A r_api_Dot) (A r_api_Event) (some x_54), cvar gb_59 (rV 16 (rU UInt64)) v], []⟩) (p := fun v => tv8 = (.inl v)) (fun v q hv => ?_) ?_
     · subst hv
       obtain ⟨x_98, hvv⟩ : ∃ z, z = v := ⟨_, rfl⟩
       subst hvv
       obtain _ := q
       dsimp only at hq8
       refine JC.at ⟨[(5, ov (PTR gb_5 0)), (9, ov (PTR gb_59 0))], [zq28 gb_5 go_55 log_52 gc_56 go_57 behind_53 gc_58 go_6 t_1 v_51, cown go_55 r_api_Event log_52 (List.length log_52) gc_56, cown go_57 (rV 16 (rU UInt64)) behind_53 0 gc_58, cmap go_6 (A r_api_Dot) (A r_api_Event) (some x_54), cvar gb_59 (rV 16 (rU UInt64)) x_98], []⟩ <| bI hq8 fun x_103 hx35 hq35 => JC.seqJ (γ := Unit) (stj := fun _ => ⟨[(4, ov (S rB x_103))], [], []⟩) (fun _ => ?_) ?_
       · refine JC.ret ?_
         obtain rfl := so hq35
         exact jd (.val (S rB x_103)) rfl rfl rfl rfl rfl rfl
       refine bI hx35 fun _ hv_u_99 hx35 => lI hx35 fun v_100 hv_100 hx35 => bI hx35 fun v_101 hv_101 hx35 => ?_
       obtain ⟨v_102, hv_102, hx35⟩ := lt1_inv hx35
       refine JC.anyF (base := [(5, ov (PTR gb_5 0)), (9, ov (PTR gb_59 0))])
           (fs := fun γ => [⟨some 116, ov (PTR gb_5 0)⟩, ⟨some 117, ov (A (rV 16 (rU UInt64)) v_51)⟩, ⟨some 118, ov (A (rV 16 (rU UInt64)) x_98)⟩, ⟨some 119, ov (S rB v_100)⟩, ⟨some 120, ov (S rB v_100)⟩, ⟨some 121, bif v_100 then ov (S rB v_101) else .one .und⟩, ⟨some 122, ov (S rB v_102)⟩, ⟨some 4, ov (S rB v_102)⟩])
           (rs := fun γ => [⟨zq28 gb_5 go_55 log_52 gc_56 go_57 behind_53 gc_58 go_6 t_1 v_51, none, none, [1]⟩, ⟨cown go_55 r_api_Event log_52 (List.length log_52) gc_56, none, none, [1]⟩, ⟨cown go_57 (rV 16 (rU UInt64)) behind_53 0 gc_58, none, none, [1]⟩, ⟨cmap go_6 (A r_api_Dot) (A r_api_Event) (some x_54), none, none, [1]⟩, ⟨cvar gb_59 (rV 16 (rU UInt64)) x_98, none, none, [2]⟩])
           (afts := nn 8) (js := [0, 0, 0, 0, 0]) mixed (.cons rfl (.cons rfl .nil)) (fun _ => rfl)
           (by
      refine db 1 5 <| dR 2 (fun γ ρ B hb hd => OpStep.lk ⟨ρ, (zq28 gb_5 go_55 log_52 gc_56 go_57 behind_53 gc_58 go_6 t_1 v_51) :: (cown go_55 r_api_Event log_52 (List.length log_52) gc_56) :: (cown go_57 (rV 16 (rU UInt64)) behind_53 0 gc_58) :: (cmap go_6 (A r_api_Dot) (A r_api_Event) (some x_54)) :: B, _⟩ ((op_call (js := [0, 0, 0, 0]) ld cl17 (sim_cast_Caster_Vector_p_svvvoomm k t_1 (1 : Int) v_51 log_52 behind_53 x_54 gb_5 go_55 gc_56 go_57 gc_58 go_6 () hv_u_99) .func (.cons (tl hd 0 116) .nil) rfl).post (fun _ => Imp.pick (js := [0, 0, 0, 0]) rfl rfl))) <| dR 3 (fun γ ρ B hb hd => OpStep.lk ⟨ρ, (cvar gb_59 (rV 16 (rU UInt64)) x_98) :: B, _⟩ (op_loadA (j := 0) lb tA34 (.tmp (hb 9 _ rfl)) rfl (Comp.self (rV 16 (rU UInt64)) x_98) rfl)) <| dS 4 (fun γ ρ B hb hd => op_eqA lb qa34 (by decide) ng34 (tl hd 1 117) (tl hd 2 118) hv_100) <| dm 5 3 119 ?_
      refine dT 6 4 120 v_100 (fun γ => ov (S rB v_101)) (fun γ ρ B hb hd hq_36 => (op_call (js := []) ld cl9 (sim_law13_known k v_101 (ifT hv_101 hq_36)) .func .nil rfl).post (fun _ => Imp.refl)) ?_
      refine dS 7 (fun γ ρ B hb hd => op_pickCS lb (tl hd 4 120) (fun hb37 => (HasO.cnd (tl hd 5 121) hb37)) (fun hb37 => .cB) hv_102) <| dS 8 (fun γ ρ B hb hd => op_assign lb (tl hd 6 122)) ?_
      exact DSteps.nil)
           (by decide +kernel) (fun _ => rfl) (fun _ => rfl) (fun _ => rfl) rfl
           (ρ' := fun γ => [(4, ov (S rB v_102))])
           (X' := fun γ => [zq28 gb_5 go_55 log_52 gc_56 go_57 behind_53 gc_58 go_6 t_1 v_51, cown go_55 r_api_Event log_52 (List.length log_52) gc_56, cown go_57 (rV 16 (rU UInt64)) behind_53 0 gc_58, cmap go_6 (A r_api_Dot) (A r_api_Event) (some x_54), cvar gb_59 (rV 16 (rU UInt64)) x_98])
           (fun γ ρ hb hd => (.cons (hdq hd 7 4 rfl) .nil)) (fun _ => rfl) (fun γ => ?_)
       refine JQ.at ⟨[(4, ov (S rB v_102))], [zq28 gb_5 go_55 log_52 gc_56 go_57 behind_53 gc_58 go_6 t_1 v_51, cown go_55 r_api_Event log_52 (List.length log_52) gc_56, cown go_57 (rV 16 (rU UInt64)) behind_53 0 gc_58, cmap go_6 (A r_api_Dot) (A r_api_Event) (some x_54), cvar gb_59 (rV 16 (rU UInt64)) x_98], []⟩ ?_
       try obtain rfl := so hx35
       exact jo rfl rfl rfl
     refine jr <| jc (op_assign lb .cI) <| jn <| JC.block <| bI hx8 fun tv9 hL9 hq9 => JC.pre ?_ (JC.loop (γ := Unit) (stf := fun s q => ⟨[(5, ov (PTR gb_5 0)), (9, ov (PTR gb_59 0)), (10, ov (S (rI .i64) s.2))], [zq28 gb_5 go_55 log_52 gc_56 go_57 behind_53 gc_58 go_6 t_1 v_51, cown go_55 r_api_Event log_52 (List.length log_52) gc_56, cown go_57 (rV 16 (rU UInt64)) behind_53 0 gc_58, cmap go_6 (A r_api_Dot) (A r_api_Event) (some x_54), cvar gb_59 (rV 16 (rU UInt64)) s.1], []⟩) (q := ()) hL9 ?_)
     · exact (Imp.norm (js := [0, 0, 0, 0, 0]) rfl (.cons rfl (.cons rfl (.cons rfl .nil))))
     intro s q x hx hr
     obtain ⟨x_60, x_61⟩ := s
     obtain _ := q
     change law13_CastPast.b2 k t_1 v_51 log_52 behind_53 x_54 x_60 x_61 = some x at hx
     unfold law13_CastPast.b2 at hx
     refine JC.at ⟨[(5, ov (PTR gb_5 0)), (9, ov (PTR gb_59 0)), (10, ov (S (rI .i64) x_61))], [zq28 gb_5 go_55 log_52 gc_56 go_57 behind_53 gc_58 go_6 t_1 v_51, cown go_55 r_api_Event log_52 (List.length log_52) gc_56, cown go_57 (rV 16 (rU UInt64)) behind_53 0 gc_58, cmap go_6 (A r_api_Dot) (A r_api_Event) (some x_54), cvar gb_59 (rV 16 (rU UInt64)) x_60], []⟩ <| JC.seq <| jr <| jmv rfl rfl <| jmv rfl rfl <| bI hx fun _ hv_u_62 hx => jx (op_call (js := [0, 0, 0, 0]) ld cl15 (sim_cast_Caster_Len_p_svvvoomm k t_1 (1 : Int) v_51 log_52 behind_53 x_54 gb_5 go_55 gc_56 go_57 gc_58 go_6 () hv_u_62) .func (.cons tR .nil) rfl) fun _ => lI hx fun v_63 hv_63 hx => jc (op_cmpI lb tR tR (cs hv_63)) <| jn <| jif tR hx (fun hc10 hx => ?_) (fun hc10 hx => ?_)
     · refine JC.skip <| JQ.then <| bI hx fun tv11 hx11 hq11 => JC.seqK (α := (Vector UInt64 16)) (γ := Unit) (stj := fun v q => ⟨[(5, ov (PTR gb_5 0)), (9, ov (PTR gb_59 0)), (10, ov (S (rI .i64) x_61))], [zq28 gb_5 go_55 log_52 gc_56 go_57 behind_53 gc_58 go_6 t_1 v_51, cown go_55 r_api_Event log_52 (List.length log_52) gc_56, cown go_57 (rV 16 (rU UInt64)) behind_53 0 gc_58, cmap go_6 (A r_api_Dot) (A r_api_Event) (some x_54), cvar gb_59 (rV 16 (rU UInt64)) v], []⟩) (p := fun v => tv11 = (.inl v)) (fun v q hv => ?_) ?_
       · subst hv
         obtain ⟨x_95, hvv⟩ : ∃ z, z = v := ⟨_, rfl⟩
         subst hvv
         obtain _ := q
         dsimp only at hq11
         refine JC.at ⟨[(5, ov (PTR gb_5 0)), (9, ov (PTR gb_59 0)), (10, ov (S (rI .i64) x_61))], [zq28 gb_5 go_55 log_52 gc_56 go_57 behind_53 gc_58 go_6 t_1 v_51, cown go_55 r_api_Event log_52 (List.length log_52) gc_56, cown go_57 (rV 16 (rU UInt64)) behind_53 0 gc_58, cmap go_6 (A r_api_Dot) (A r_api_Event) (some x_54), cvar gb_59 (rV 16 (rU UInt64)) x_95], []⟩ <| JC.region <| jmv rfl rfl <| lI hq11 fun v_96 hv_96 hq11 => jc (op_arI lb tR .cI (cs hv_96)) <| jc (op_assign lb tR) <| JL.nil ?_
         try obtain rfl := so hq11
         exact JQ.next () rfl (Imp.norm (js := [0, 0, 0, 0, 0]) rfl (.cons rfl (.cons rfl (.cons rfl .nil))))
       refine JC.block <| jr <| jmv rfl rfl <| jmv rfl rfl ?_
       obtain ⟨⟨v_64, v_65, v_66⟩, hv_64, hx11⟩ := bnd_inv hx11
       refine jx (op_call (js := [0, 0, 0, 0]) ld cl18 (sim_cast_Caster_At_pv_svvvoomm k x_61 t_1 (1 : Int) v_51 log_52 behind_53 x_54 gb_5 go_55 gc_56 go_57 gc_58 go_6 (v_64, v_65, v_66) hv_64) .func (.cons tR (.cons tR .nil)) rfl) fun _ => jmv rfl rfl <| jc (op_extract (i := 0) lb tR rfl) <| jc (op_extract (i := 1) lb tR rfl) <| jc (op_extract (i := 2) lb tR rfl) <| jx (op_alloc lb tZ37 zr37) fun gb_67 => JL.sub ⟨[(5, ov (PTR gb_5 0)), (9, ov (PTR gb_59 0)), (10, ov (S (rI .i64) x_61)), (11, ov (PTR gb_67 0)), (64, ov (A r_api_Event v_64)), (65, ov (A (rV 16 (rU UInt64)) v_65)), (66, ov (S rB v_66))], [zq28 gb_5 go_55 log_52 gc_56 go_57 behind_53 gc_58 go_6 t_1 v_51, cown go_55 r_api_Event log_52 (List.length log_52) gc_56, cown go_57 (rV 16 (rU UInt64)) behind_53 0 gc_58, cmap go_6 (A r_api_Dot) (A r_api_Event) (some x_54), cvar gb_59 (rV 16 (rU UInt64)) x_60, cvar gb_67 zq1 zq2], []⟩ (.cons rfl (.cons rfl (.cons rfl (.cons rfl (.cons rfl (.cons rfl (.cons rfl .nil))))))) rfl rfl <| jx (op_alloc lb tZ34 zr34) fun gb_68 => jc (op_storeA (j := 5) tA37 tR tR rfl (UpdR.self (by rfl)) rfl) <| jc (op_storeA (j := 6) tA34 tR tR rfl (UpdR.self (by rfl)) rfl) <| jc (op_assign lb tR) <| jn <| JC.seq <| bI hx11 fun x_74 hx12 hq12 => JC.seqJ (γ := Unit) (stj := fun _ => ⟨[(5, ov (PTR gb_5 0)), (9, ov (PTR gb_59 0)), (10, ov (S (rI .i64) x_61)), (11, ov (PTR gb_67 0)), (12, ov (PTR gb_68 0)), (80, ov (S rB x_74))], [zq28 gb_5 go_55 log_52 gc_56 go_57 behind_53 gc_58 go_6 t_1 v_51, cown go_55 r_api_Event log_52 (List.length log_52) gc_56, cown go_57 (rV 16 (rU UInt64)) behind_53 0 gc_58, cmap go_6 (A r_api_Dot) (A r_api_Event) (some x_54), cvar gb_59 (rV 16 (rU UInt64)) x_60, cvar gb_67 r_api_Event v_64, cvar gb_68 (rV 16 (rU UInt64)) v_65], []⟩) (fun _ => ?_) ?_
       · refine jif tR hq12 (fun hc23 hq12 => ?_) (fun hc23 hq12 => ?_)
         · refine jr <| jc (op_assign lb .cB) <| jn <| JC.ret <| JQ.outR <| JQ.outRB ?_
           try obtain rfl := so hq12
           dsimp only at hq11
           refine JQ.outR ?_
           try obtain rfl := so hq11
           try obtain rfl := hr _ rfl
           dsimp only at hq9
           refine JQ.outR <| JQ.outRB ?_
           try obtain rfl := so hq9
           dsimp only at hq8
           refine JQ.outR ?_
           obtain rfl := so hq8
           exact jd (.val (S rB false)) rfl rfl rfl rfl rfl rfl
         refine JC.skip <| JQ.then <| jr <| jc (op_fieldAddr (off := 0) lb tf37_0 tR) <| jc (op_fieldAddr (off := 0) lb tf31_0 tR) <| jc (op_loadS (j := 5) lb tS3 tR rfl (Comp.trans (cT (comp_api_Event_ID v_64) rfl) (comp_api_Dot_Region v_64.ID) (lE rfl)) rfl rfl) <| lI hq12 fun v_75 hv_75 hq12 => jc (op_arI lb tR .cI (cs hv_75)) <| bI hq12 fun i_76 hv_i_76 hq12 => jc (op_indexAddrIF lb tr34 tR tR hv_i_76) <| lI hq12 fun v_77 hv_77 hq12 => jc (op_loadS (j := 4) lb tS29 tR rfl (Comp.at (Comp.self (rV 16 (rU UInt64)) x_60) i_76.2 rfl) rfl hv_77) ?_
         obtain ⟨v_78, hv_78, hq12⟩ := lt1_inv hq12
         refine jc (op_arU lb tR (HasO.cU (x := (1 : UInt64)) rfl (by decide)) (cs hv_78)) <| bI hq12 fun i_79 hv_i_79 hq12 => jc (op_indexAddrIF lb tr34 tR tR hv_i_79) <| lI hq12 fun x_80 hv_x_80 hq12 => jc (op_storeS (j := 4) tS29 tR tR rfl rfl (Upd.at (Comp.self (rV 16 (rU UInt64)) x_60) i_79.2 rfl (Upd.self (rV 16 (rU UInt64)) x_60 _)).R hv_x_80) <| jn <| JC.seq <| bI hq12 fun x_86 hx24 hq24 => JC.seqJ (γ := Unit) (stj := fun _ => ⟨[(5, ov (PTR gb_5 0)), (9, ov (PTR gb_59 0)), (10, ov (S (rI .i64) x_61)), (11, ov (PTR gb_67 0)), (12, ov (PTR gb_68 0)), (103, ov (S rB x_86))], [zq28 gb_5 go_55 log_52 gc_56 go_57 behind_53 gc_58 go_6 t_1 v_51, cown go_55 r_api_Event log_52 (List.length log_52) gc_56, cown go_57 (rV 16 (rU UInt64)) behind_53 0 gc_58, cmap go_6 (A r_api_Dot) (A r_api_Event) (some x_54), cvar gb_59 (rV 16 (rU UInt64)) x_80, cvar gb_67 r_api_Event v_64, cvar gb_68 (rV 16 (rU UInt64)) v_65], []⟩) (fun _ => ?_) ?_
         · refine jif tR hq24 (fun hc31 hq24 => ?_) (fun hc31 hq24 => ?_)
           · refine jr <| jc (op_assign lb .cB) <| jn <| JC.ret <| JQ.outR <| JQ.outRB ?_
             try obtain rfl := so hq24
             dsimp only at hq11
             refine JQ.outR ?_
             try obtain rfl := so hq11
             try obtain rfl := hr _ rfl
             dsimp only at hq9
             refine JQ.outR <| JQ.outRB ?_
             try obtain rfl := so hq9
             dsimp only at hq8
             refine JQ.outR ?_
             obtain rfl := so hq8
             exact jd (.val (S rB false)) rfl rfl rfl rfl rfl rfl
           refine JC.skip <| JQ.then <| jr <| jc (op_assign lb .cI) <| jn <| JC.block <| bI hq24 fun tv32 hL32 hq32 => JC.pre ?_ (JC.loop (γ := Unit) (stf := fun s q => ⟨[(5, ov (PTR gb_5 0)), (9, ov (PTR gb_59 0)), (10, ov (S (rI .i64) x_61)), (11, ov (PTR gb_67 0)), (12, ov (PTR gb_68 0)), (14, ov (S (rI .i64) s))], [zq28 gb_5 go_55 log_52 gc_56 go_57 behind_53 gc_58 go_6 t_1 v_51, cown go_55 r_api_Event log_52 (List.length log_52) gc_56, cown go_57 (rV 16 (rU UInt64)) behind_53 0 gc_58, cmap go_6 (A r_api_Dot) (A r_api_Event) (some x_54), cvar gb_59 (rV 16 (rU UInt64)) x_80, cvar gb_67 r_api_Event v_64, cvar gb_68 (rV 16 (rU UInt64)) v_65], []⟩) (q := ()) hL32 ?_)
           · exact (Imp.norm (js := [0, 0, 0, 0, 0, 0, 0]) rfl (.cons rfl (.cons rfl (.cons rfl (.cons rfl (.cons rfl (.cons rfl .nil)))))))
           intro x_87 q x hx hr
           obtain _ := q
           change law13_CastPast.b3 k v_64 v_65 x_87 = some x at hx
           unfold law13_CastPast.b3 at hx
           refine JC.at ⟨[(5, ov (PTR gb_5 0)), (9, ov (PTR gb_59 0)), (10, ov (S (rI .i64) x_61)), (11, ov (PTR gb_67 0)), (12, ov (PTR gb_68 0)), (14, ov (S (rI .i64) x_87))], [zq28 gb_5 go_55 log_52 gc_56 go_57 behind_53 gc_58 go_6 t_1 v_51, cown go_55 r_api_Event log_52 (List.length log_52) gc_56, cown go_57 (rV 16 (rU UInt64)) behind_53 0 gc_58, cmap go_6 (A r_api_Dot) (A r_api_Event) (some x_54), cvar gb_59 (rV 16 (rU UInt64)) x_80, cvar gb_67 r_api_Event v_64, cvar gb_68 (rV 16 (rU UInt64)) v_65], []⟩ <| JC.seq <| jr <| jmv rfl rfl <| lI hx fun v_88 hv_88 hx => jc (op_cmpI lb tR .cI (cs hv_88)) <| jn ?_
           rcases iteB_inv hx with ⟨hc33, hx⟩ | ⟨hc33, hx⟩
           · refine JC.condT tR hc33 <| JC.skip <| JQ.then <| JC.seq <| JC.block <| JC.seq <| bI hx fun i_89 hv_i_89 hx => lI hx fun v_90 hv_90 hx => bI hx fun i_91 hv_i_91 hx => lI hx fun v_92 hv_92 hx => ?_
             obtain ⟨v_93, hv_93, hx⟩ := lt1_inv hx
             refine JC.anyF (base := [(5, ov (PTR gb_5 0)), (9, ov (PTR gb_59 0)), (10, ov (S (rI .i64) x_61)), (11, ov (PTR gb_67 0)), (12, ov (PTR gb_68 0)), (14, ov (S (rI .i64) x_87))])
                 (fs := fun γ => [⟨some 108, ov (S (rI .i64) x_87)⟩, ⟨some 109, ov (PTR gb_67 (0 + 4))⟩, ⟨some 110, ov (PTR gb_67 ((0 + 4) + i_89.1 * 1))⟩, ⟨some 111, ov (S (rU UInt64) v_90)⟩, ⟨some 112, ov (S (rI .i64) x_87)⟩, ⟨some 113, ov (PTR gb_68 (0 + i_91.1 * 1))⟩, ⟨some 114, ov (S (rU UInt64) v_92)⟩, ⟨some 115, ov (S rB v_93)⟩])
                 (rs := fun γ => [⟨zq28 gb_5 go_55 log_52 gc_56 go_57 behind_53 gc_58 go_6 t_1 v_51, none, none, []⟩, ⟨cown go_55 r_api_Event log_52 (List.length log_52) gc_56, none, none, []⟩, ⟨cown go_57 (rV 16 (rU UInt64)) behind_53 0 gc_58, none, none, []⟩, ⟨cmap go_6 (A r_api_Dot) (A r_api_Event) (some x_54), none, none, []⟩, ⟨cvar gb_59 (rV 16 (rU UInt64)) x_80, none, none, []⟩, ⟨cvar gb_67 r_api_Event v_64, none, none, [3]⟩, ⟨cvar gb_68 (rV 16 (rU UInt64)) v_65, none, none, [6]⟩])
                 (afts := nn 8) (js := [0, 0, 0, 0, 0, 0, 0]) mixed (.cons rfl (.cons rfl (.cons rfl (.cons rfl (.cons rfl (.cons rfl .nil)))))) (fun _ => rfl)
                 (by
      refine db 1 14 <| dS 2 (fun γ ρ B hb hd => op_fieldAddr (off := 4) lb tf37_3 (.tmp (hb 11 _ rfl))) <| dS 3 (fun γ ρ B hb hd => op_indexAddrIF lb tr34 (tl hd 1 109) (tl hd 0 108) hv_i_89) <| dR 4 (fun γ ρ B hb hd => OpStep.lk ⟨ρ, (cvar gb_67 r_api_Event v_64) :: B, _⟩ (op_loadS (j := 0) lb tS29 (tl hd 2 110) rfl (Comp.at (cT (comp_api_Event_Past v_64) rfl) i_89.2 rfl) rfl hv_90)) <| db 5 14 ?_
      refine dS 6 (fun γ ρ B hb hd => op_indexAddrIF lb tr34 (.tmp (hb 12 _ rfl)) (tl hd 4 112) hv_i_91) <| dR 7 (fun γ ρ B hb hd => OpStep.lk ⟨ρ, (cvar gb_68 (rV 16 (rU UInt64)) v_65) :: B, _⟩ (op_loadS (j := 0) lb tS29 (tl hd 5 113) rfl (Comp.at (Comp.self (rV 16 (rU UInt64)) v_65) i_91.2 rfl) rfl hv_92)) <| dS 8 (fun γ ρ B hb hd => op_cmpU lb (tl hd 3 111) (tl hd 6 114) (cs hv_93)) ?_
      exact DSteps.nil)
                 (by decide +kernel) (fun _ => rfl) (fun _ => rfl) (fun _ => rfl) rfl
                 (ρ' := fun γ => [(5, ov (PTR gb_5 0)), (9, ov (PTR gb_59 0)), (10, ov (S (rI .i64) x_61)), (11, ov (PTR gb_67 0)), (12, ov (PTR gb_68 0)), (14, ov (S (rI .i64) x_87)), (115, ov (S rB v_93))])
                 (X' := fun γ => [zq28 gb_5 go_55 log_52 gc_56 go_57 behind_53 gc_58 go_6 t_1 v_51, cown go_55 r_api_Event log_52 (List.length log_52) gc_56, cown go_57 (rV 16 (rU UInt64)) behind_53 0 gc_58, cmap go_6 (A r_api_Dot) (A r_api_Event) (some x_54), cvar gb_59 (rV 16 (rU UInt64)) x_80, cvar gb_67 r_api_Event v_64, cvar gb_68 (rV 16 (rU UInt64)) v_65])
                 (fun γ ρ hb hd => (.cons (hb 5 _ rfl) (.cons (hb 9 _ rfl) (.cons (hb 10 _ rfl) (.cons (hb 11 _ rfl) (.cons (hb 12 _ rfl) (.cons (hb 14 _ rfl) (.cons (hdq hd 7 115 rfl) .nil)))))))) (fun _ => rfl) (fun γ => ?_)
             refine JQ.at ⟨[(5, ov (PTR gb_5 0)), (9, ov (PTR gb_59 0)), (10, ov (S (rI .i64) x_61)), (11, ov (PTR gb_67 0)), (12, ov (PTR gb_68 0)), (14, ov (S (rI .i64) x_87)), (115, ov (S rB v_93))], [zq28 gb_5 go_55 log_52 gc_56 go_57 behind_53 gc_58 go_6 t_1 v_51, cown go_55 r_api_Event log_52 (List.length log_52) gc_56, cown go_57 (rV 16 (rU UInt64)) behind_53 0 gc_58, cmap go_6 (A r_api_Dot) (A r_api_Event) (some x_54), cvar gb_59 (rV 16 (rU UInt64)) x_80, cvar gb_67 r_api_Event v_64, cvar gb_68 (rV 16 (rU UInt64)) v_65], []⟩ <| JQ.then <| jif tR hx (fun hc34 hx => ?_) (fun hc34 hx => ?_)
             · refine jr <| jc (op_assign lb .cB) <| jn <| JC.ret <| JQ.outRB <| JQ.outR ?_
               try obtain rfl := so hx
               try obtain rfl := hr _ rfl
               dsimp only at hq32
               refine JQ.outR <| JQ.outRB <| JQ.outRB ?_
               try obtain rfl := so hq32
               dsimp only at hq11
               refine JQ.outR ?_
               try obtain rfl := so hq11
               try obtain rfl := hr _ rfl
               dsimp only at hq9
               refine JQ.outR <| JQ.outRB ?_
               try obtain rfl := so hq9
               dsimp only at hq8
               refine JQ.outR ?_
               obtain rfl := so hq8
               exact jd (.val (S rB false)) rfl rfl rfl rfl rfl rfl
             refine JC.skip <| JQ.outNB <| JQ.then <| JC.region <| jmv rfl rfl <| lI hx fun v_94 hv_94 hx => jc (op_arI lb tR .cI (cs hv_94)) <| jc (op_assign lb tR) <| JL.nil ?_
             try obtain rfl := so hx
             exact JQ.next () rfl (Imp.norm (js := [0, 0, 0, 0, 0, 0, 0]) rfl (.cons rfl (.cons rfl (.cons rfl (.cons rfl (.cons rfl (.cons rfl .nil)))))))
           refine JC.condF tR hc33 <| JC.exit <| JQ.outX ?_
           try obtain rfl := so hx
           try obtain rfl := hr _ rfl
           dsimp only at hq32
           refine JQ.outX <| JQ.here <| JQ.outNB ?_
           try obtain rfl := so hq32
           exact JQ.joinK x_80 () rfl (Imp.norm (js := [0, 0, 0, 0, 0]) rfl (.cons rfl (.cons rfl (.cons rfl .nil))))
         refine lI hx24 fun v_81 hv_81 hx24 => ?_
         obtain ⟨v_82, hv_82, hx24⟩ := lt1_inv hx24
         rcases iteB_inv hx24 with ⟨hc30, hx24⟩ | ⟨hc30, hx24⟩
         · refine JC.anyF (base := [(5, ov (PTR gb_5 0)), (9, ov (PTR gb_59 0)), (10, ov (S (rI .i64) x_61)), (11, ov (PTR gb_67 0)), (12, ov (PTR gb_68 0))])
               (fs := fun γ => [⟨some 89, ov (A (rV 16 (rU UInt64)) v_65)⟩, ⟨some 90, ov (A (rV 16 (rU UInt64)) x_80)⟩, ⟨some 91, ov (S rB v_81)⟩, ⟨some 92, ov (S rB v_81)⟩, ⟨some 93, bif (!v_81) then ov (PTR gb_67 (0 + 0)) else .one .und⟩, ⟨some 94, bif (!v_81) then ov (PTR gb_67 ((0 + 0) + 0)) else .one .und⟩, ⟨some 95, bif (!v_81) then ov (S (rI .i64) v_64.ID.Region) else .one .und⟩, ⟨some 96, bif (!v_81) then ov (S (rI .i64) v_82) else .one .und⟩, ⟨some 97, .one .und⟩, ⟨some 98, .one .und⟩, ⟨some 99, .one .und⟩, ⟨some 100, .one .und⟩, ⟨some 101, .one .und⟩, ⟨some 102, .one .und⟩, ⟨some 103, ov (S rB true)⟩])
               (rs := fun γ => [⟨zq28 gb_5 go_55 log_52 gc_56 go_57 behind_53 gc_58 go_6 t_1 v_51, none, none, []⟩, ⟨cown go_55 r_api_Event log_52 (List.length log_52) gc_56, none, none, []⟩, ⟨cown go_57 (rV 16 (rU UInt64)) behind_53 0 gc_58, none, none, []⟩, ⟨cmap go_6 (A r_api_Dot) (A r_api_Event) (some x_54), none, none, []⟩, ⟨cvar gb_59 (rV 16 (rU UInt64)) x_80, none, none, [1]⟩, ⟨cvar gb_67 r_api_Event v_64, none, none, [6]⟩, ⟨cvar gb_68 (rV 16 (rU UInt64)) v_65, none, none, [0]⟩])
               (afts := nn 15) (js := [0, 0, 0, 0, 0, 0, 0]) mixed (.cons rfl (.cons rfl (.cons rfl (.cons rfl (.cons rfl .nil))))) (fun _ => rfl)
               (by
      refine dR 1 (fun γ ρ B hb hd => OpStep.lk ⟨ρ, (cvar gb_68 (rV 16 (rU UInt64)) v_65) :: B, _⟩ (op_loadA (j := 0) lb tA34 (.tmp (hb 12 _ rfl)) rfl (Comp.self (rV 16 (rU UInt64)) v_65) rfl)) <| dR 2 (fun γ ρ B hb hd => OpStep.lk ⟨ρ, (cvar gb_59 (rV 16 (rU UInt64)) x_80) :: B, _⟩ (op_loadA (j := 0) lb tA34 (.tmp (hb 9 _ rfl)) rfl (Comp.self (rV 16 (rU UInt64)) x_80) rfl)) <| dS 3 (fun γ ρ B hb hd => op_neA lb qa34 (by decide) ng34 (tl hd 0 89) (tl hd 1 90) hv_81) <| dm 4 2 91 ?_
      refine dF 5 3 92 v_81 (fun γ => ov (PTR gb_67 (0 + 0))) (fun γ ρ B hb hd hq_25 => op_fieldAddr (off := 0) lb tf37_0 (.tmp (hb 11 _ rfl))) ?_
      refine dF 6 3 92 v_81 (fun γ => ov (PTR gb_67 ((0 + 0) + 0))) (fun γ ρ B hb hd hq_26 => op_fieldAddr (off := 0) lb tf31_0 (HasO.cnd (tl hd 4 93) (notT (notF hq_26)))) ?_
      refine eF 7 3 92 v_81 (fun γ => ov (S (rI .i64) v_64.ID.Region)) (fun γ ρ B hb hd hq_27 => OpStep.lk ⟨ρ, (cvar gb_67 r_api_Event v_64) :: B, _⟩ (op_loadS (j := 0) lb tS3 (HasO.cnd (tl hd 5 94) (notT (notF hq_27))) rfl (Comp.trans (cT (comp_api_Event_ID v_64) rfl) (comp_api_Dot_Region v_64.ID) (lE rfl)) rfl rfl)) ?_
      refine dF 8 3 92 v_81 (fun γ => ov (S (rI .i64) v_82)) (fun γ ρ B hb hd hq_28 => op_arI lb (HasO.cnd (tl hd 6 95) (notT (notF hq_28))) .cI (cs hv_82)) ?_
      refine kn 9 3 92 rfl hc30 <| kn 10 3 92 rfl hc30 <| kn 11 3 92 rfl hc30 <| kn 12 3 92 rfl hc30 <| kn 13 3 92 rfl hc30 ?_
      refine kn 14 3 92 rfl hc30 <| dS 15 (fun γ ρ B hb hd => op_pickT lb (tl hd 3 92) hc30 .cB) ?_
      exact DSteps.nil)
               (by decide +kernel) (fun _ => rfl) (fun _ => rfl) (fun _ => rfl) rfl
               (ρ' := fun γ => [(5, ov (PTR gb_5 0)), (9, ov (PTR gb_59 0)), (10, ov (S (rI .i64) x_61)), (11, ov (PTR gb_67 0)), (12, ov (PTR gb_68 0)), (103, ov (S rB true))])
               (X' := fun γ => [zq28 gb_5 go_55 log_52 gc_56 go_57 behind_53 gc_58 go_6 t_1 v_51, cown go_55 r_api_Event log_52 (List.length log_52) gc_56, cown go_57 (rV 16 (rU UInt64)) behind_53 0 gc_58, cmap go_6 (A r_api_Dot) (A r_api_Event) (some x_54), cvar gb_59 (rV 16 (rU UInt64)) x_80, cvar gb_67 r_api_Event v_64, cvar gb_68 (rV 16 (rU UInt64)) v_65])
               (fun γ ρ hb hd => (.cons (hb 5 _ rfl) (.cons (hb 9 _ rfl) (.cons (hb 10 _ rfl) (.cons (hb 11 _ rfl) (.cons (hb 12 _ rfl) (.cons (hdq hd 14 103 rfl) .nil))))))) (fun _ => rfl) (fun γ => ?_)
           refine JQ.at ⟨[(5, ov (PTR gb_5 0)), (9, ov (PTR gb_59 0)), (10, ov (S (rI .i64) x_61)), (11, ov (PTR gb_67 0)), (12, ov (PTR gb_68 0)), (103, ov (S rB true))], [zq28 gb_5 go_55 log_52 gc_56 go_57 behind_53 gc_58 go_6 t_1 v_51, cown go_55 r_api_Event log_52 (List.length log_52) gc_56, cown go_57 (rV 16 (rU UInt64)) behind_53 0 gc_58, cmap go_6 (A r_api_Dot) (A r_api_Event) (some x_54), cvar gb_59 (rV 16 (rU UInt64)) x_80, cvar gb_67 r_api_Event v_64, cvar gb_68 (rV 16 (rU UInt64)) v_65], []⟩ ?_
           try obtain rfl := so hx24
           exact JQ.join () (Imp.norm (js := [0, 0, 0, 0, 0, 0, 0]) rfl (.cons rfl (.cons rfl (.cons rfl (.cons rfl (.cons rfl (.cons rfl .nil)))))))
         refine bI hx24 fun i_83 hv_i_83 hx24 => lI hx24 fun v_84 hv_84 hx24 => ?_
         obtain ⟨v_85, hv_85, hx24⟩ := lt1_inv hx24
         refine JC.anyF (base := [(5, ov (PTR gb_5 0)), (9, ov (PTR gb_59 0)), (10, ov (S (rI .i64) x_61)), (11, ov (PTR gb_67 0)), (12, ov (PTR gb_68 0))])
             (fs := fun γ => [⟨some 89, ov (A (rV 16 (rU UInt64)) v_65)⟩, ⟨some 90, ov (A (rV 16 (rU UInt64)) x_80)⟩, ⟨some 91, ov (S rB v_81)⟩, ⟨some 92, ov (S rB v_81)⟩, ⟨some 93, bif (!v_81) then ov (PTR gb_67 (0 + 0)) else .one .und⟩, ⟨some 94, bif (!v_81) then ov (PTR gb_67 ((0 + 0) + 0)) else .one .und⟩, ⟨some 95, bif (!v_81) then ov (S (rI .i64) v_64.ID.Region) else .one .und⟩, ⟨some 96, bif (!v_81) then ov (S (rI .i64) v_82) else .one .und⟩, ⟨some 97, ov (PTR gb_68 (0 + i_83.1 * 1))⟩, ⟨some 98, ov (S (rU UInt64) v_84)⟩, ⟨some 99, ov (PTR gb_67 (0 + 0))⟩, ⟨some 100, ov (PTR gb_67 ((0 + 0) + 1))⟩, ⟨some 101, ov (S (rU UInt64) v_64.ID.Count)⟩, ⟨some 102, ov (S rB v_85)⟩, ⟨some 103, ov (S rB v_85)⟩])
             (rs := fun γ => [⟨zq28 gb_5 go_55 log_52 gc_56 go_57 behind_53 gc_58 go_6 t_1 v_51, none, none, []⟩, ⟨cown go_55 r_api_Event log_52 (List.length log_52) gc_56, none, none, []⟩, ⟨cown go_57 (rV 16 (rU UInt64)) behind_53 0 gc_58, none, none, []⟩, ⟨cmap go_6 (A r_api_Dot) (A r_api_Event) (some x_54), none, none, []⟩, ⟨cvar gb_59 (rV 16 (rU UInt64)) x_80, none, none, [1]⟩, ⟨cvar gb_67 r_api_Event v_64, none, none, [6, 12]⟩, ⟨cvar gb_68 (rV 16 (rU UInt64)) v_65, none, none, [0, 9]⟩])
             (afts := nn 15) (js := [0, 0, 0, 0, 0, 0, 0]) mixed (.cons rfl (.cons rfl (.cons rfl (.cons rfl (.cons rfl .nil))))) (fun _ => rfl)
             (by
      refine dR 1 (fun γ ρ B hb hd => OpStep.lk ⟨ρ, (cvar gb_68 (rV 16 (rU UInt64)) v_65) :: B, _⟩ (op_loadA (j := 0) lb tA34 (.tmp (hb 12 _ rfl)) rfl (Comp.self (rV 16 (rU UInt64)) v_65) rfl)) <| dR 2 (fun γ ρ B hb hd => OpStep.lk ⟨ρ, (cvar gb_59 (rV 16 (rU UInt64)) x_80) :: B, _⟩ (op_loadA (j := 0) lb tA34 (.tmp (hb 9 _ rfl)) rfl (Comp.self (rV 16 (rU UInt64)) x_80) rfl)) <| dS 3 (fun γ ρ B hb hd => op_neA lb qa34 (by decide) ng34 (tl hd 0 89) (tl hd 1 90) hv_81) <| dm 4 2 91 ?_
      refine dF 5 3 92 v_81 (fun γ => ov (PTR gb_67 (0 + 0))) (fun γ ρ B hb hd hq_25 => op_fieldAddr (off := 0) lb tf37_0 (.tmp (hb 11 _ rfl))) ?_
      refine dF 6 3 92 v_81 (fun γ => ov (PTR gb_67 ((0 + 0) + 0))) (fun γ ρ B hb hd hq_26 => op_fieldAddr (off := 0) lb tf31_0 (HasO.cnd (tl hd 4 93) (notT (notF hq_26)))) ?_
      refine eF 7 3 92 v_81 (fun γ => ov (S (rI .i64) v_64.ID.Region)) (fun γ ρ B hb hd hq_27 => OpStep.lk ⟨ρ, (cvar gb_67 r_api_Event v_64) :: B, _⟩ (op_loadS (j := 0) lb tS3 (HasO.cnd (tl hd 5 94) (notT (notF hq_27))) rfl (Comp.trans (cT (comp_api_Event_ID v_64) rfl) (comp_api_Dot_Region v_64.ID) (lE rfl)) rfl rfl)) ?_
      refine dF 8 3 92 v_81 (fun γ => ov (S (rI .i64) v_82)) (fun γ ρ B hb hd hq_28 => op_arI lb (HasO.cnd (tl hd 6 95) (notT (notF hq_28))) .cI (cs hv_82)) ?_
      refine dY 9 (fun γ ρ B hb hd => ⟨.yes rfl (ltB rfl) (hl hd 3 92 rfl) hc30, lkB (op_indexAddrIF lb tr34 (.tmp (hb 12 _ rfl)) (HasO.cnd (tl hd 7 96) (notT hc30)) hv_i_83)⟩) <| dY 10 (fun γ ρ B hb hd => ⟨.yes rfl (ltB rfl) (hl hd 3 92 rfl) hc30, OpStep.lk ⟨ρ, (cvar gb_68 (rV 16 (rU UInt64)) v_65) :: B, _⟩ (op_loadS (j := 0) lb tS29 (tl hd 8 97) rfl (Comp.at (Comp.self (rV 16 (rU UInt64)) v_65) i_83.2 rfl) rfl hv_84)⟩) <| dY 11 (fun γ ρ B hb hd => ⟨.yes rfl (ltB rfl) (hl hd 3 92 rfl) hc30, lkB (op_fieldAddr (off := 0) lb tf37_0 (.tmp (hb 11 _ rfl)))⟩) <| dY 12 (fun γ ρ B hb hd => ⟨.yes rfl (ltB rfl) (hl hd 3 92 rfl) hc30, lkB (op_fieldAddr (off := 1) lb tf31_1 (tl hd 10 99))⟩) <| dY 13 (fun γ ρ B hb hd => ⟨.yes rfl (ltB rfl) (hl hd 3 92 rfl) hc30, OpStep.lk ⟨ρ, (cvar gb_67 r_api_Event v_64) :: B, _⟩ (op_loadS (j := 0) lb tS29 (tl hd 11 100) rfl (Comp.trans (cT (comp_api_Event_ID v_64) rfl) (comp_api_Dot_Count v_64.ID) (lE rfl)) rfl rfl)⟩) ?_
      refine dY 14 (fun γ ρ B hb hd => ⟨.yes rfl (ltB rfl) (hl hd 3 92 rfl) hc30, lkB (op_cmpU lb (tl hd 9 98) (tl hd 12 101) (cs hv_85))⟩) <| dS 15 (fun γ ρ B hb hd => op_pickF lb (tl hd 3 92) hc30 (tl hd 13 102)) ?_
      exact DSteps.nil)
             (by decide +kernel) (fun _ => rfl) (fun _ => rfl) (fun _ => rfl) rfl
             (ρ' := fun γ => [(5, ov (PTR gb_5 0)), (9, ov (PTR gb_59 0)), (10, ov (S (rI .i64) x_61)), (11, ov (PTR gb_67 0)), (12, ov (PTR gb_68 0)), (103, ov (S rB v_85))])
             (X' := fun γ => [zq28 gb_5 go_55 log_52 gc_56 go_57 behind_53 gc_58 go_6 t_1 v_51, cown go_55 r_api_Event log_52 (List.length log_52) gc_56, cown go_57 (rV 16 (rU UInt64)) behind_53 0 gc_58, cmap go_6 (A r_api_Dot) (A r_api_Event) (some x_54), cvar gb_59 (rV 16 (rU UInt64)) x_80, cvar gb_67 r_api_Event v_64, cvar gb_68 (rV 16 (rU UInt64)) v_65])
             (fun γ ρ hb hd => (.cons (hb 5 _ rfl) (.cons (hb 9 _ rfl) (.cons (hb 10 _ rfl) (.cons (hb 11 _ rfl) (.cons (hb 12 _ rfl) (.cons (hdq hd 14 103 rfl) .nil))))))) (fun _ => rfl) (fun γ => ?_)
         refine JQ.at ⟨[(5, ov (PTR gb_5 0)), (9, ov (PTR gb_59 0)), (10, ov (S (rI .i64) x_61)), (11, ov (PTR gb_67 0)), (12, ov (PTR gb_68 0)), (103, ov (S rB v_85))], [zq28 gb_5 go_55 log_52 gc_56 go_57 behind_53 gc_58 go_6 t_1 v_51, cown go_55 r_api_Event log_52 (List.length log_52) gc_56, cown go_57 (rV 16 (rU UInt64)) behind_53 0 gc_58, cmap go_6 (A r_api_Dot) (A r_api_Event) (some x_54), cvar gb_59 (rV 16 (rU UInt64)) x_80, cvar gb_67 r_api_Event v_64, cvar gb_68 (rV 16 (rU UInt64)) v_65], []⟩ ?_
         try obtain rfl := so hx24
         exact JQ.join () (Imp.norm (js := [0, 0, 0, 0, 0, 0, 0]) rfl (.cons rfl (.cons rfl (.cons rfl (.cons rfl (.cons rfl (.cons rfl .nil)))))))
       refine JC.region <| jmv rfl rfl <| lI hx12 fun v_69 hv_69 hx12 => jc (op_not lb tR hv_69) <| JL.sub ⟨[(5, ov (PTR gb_5 0)), (9, ov (PTR gb_59 0)), (10, ov (S (rI .i64) x_61)), (11, ov (PTR gb_67 0)), (12, ov (PTR gb_68 0)), (68, ov (S rB v_69))], [zq28 gb_5 go_55 log_52 gc_56 go_57 behind_53 gc_58 go_6 t_1 v_51, cown go_55 r_api_Event log_52 (List.length log_52) gc_56, cown go_57 (rV 16 (rU UInt64)) behind_53 0 gc_58, cmap go_6 (A r_api_Dot) (A r_api_Event) (some x_54), cvar gb_59 (rV 16 (rU UInt64)) x_60, cvar gb_67 r_api_Event v_64, cvar gb_68 (rV 16 (rU UInt64)) v_65], []⟩ (.cons rfl (.cons rfl (.cons rfl (.cons rfl (.cons rfl (.cons rfl .nil)))))) rfl rfl <| jmv rfl rfl <| jF (ov (PTR gb_67 (0 + 0))) rfl rfl rfl rfl (fun hq_13 => op_fieldAddr (off := 0) lb tf37_0 tR) <| jF (ov (PTR gb_67 ((0 + 0) + 0))) rfl rfl rfl rfl (fun hq_14 => op_fieldAddr (off := 0) lb tf31_0 (HasO.cnd tR (notT (notF hq_14)))) <| jF (ov (S (rI .i64) v_64.ID.Region)) rfl rfl rfl rfl (fun hq_15 => op_loadS (j := 5) lb tS3 (HasO.cnd tR (notT (notF hq_15))) rfl (Comp.trans (cT (comp_api_Event_ID v_64) rfl) (comp_api_Dot_Region v_64.ID) (lE rfl)) rfl rfl) ?_
       obtain ⟨v_70, hv_70, hx12⟩ := lt1_inv hx12
       refine jF (ov (S rB v_70)) rfl rfl rfl rfl (fun hq_16 => op_cmpI lb (HasO.cnd tR (notT (notF hq_16))) .cI (cs hv_70)) <| lI hx12 fun v_71 hv_71 hx12 => jc (op_pickCS lb tR (fun hb17 => .cB) (fun hb17 => (HasO.cnd tR (notT hb17))) hv_71) <| jmv rfl rfl <| jF (ov (PTR gb_67 (0 + 0))) rfl rfl rfl rfl (fun hq_18 => op_fieldAddr (off := 0) lb tf37_0 tR) <| jF (ov (PTR gb_67 ((0 + 0) + 0))) rfl rfl rfl rfl (fun hq_19 => op_fieldAddr (off := 0) lb tf31_0 (HasO.cnd tR (notT (notF hq_19)))) <| jF (ov (S (rI .i64) v_64.ID.Region)) rfl rfl rfl rfl (fun hq_20 => op_loadS (j := 5) lb tS3 (HasO.cnd tR (notT (notF hq_20))) rfl (Comp.trans (cT (comp_api_Event_ID v_64) rfl) (comp_api_Dot_Region v_64.ID) (lE rfl)) rfl rfl) <| lI hx12 fun v_72 hv_72 hx12 => jF (ov (S rB v_72)) rfl rfl rfl rfl (fun hq_21 => op_cmpI lb (HasO.cnd tR (notT (notF hq_21))) .cI (cs hv_72)) ?_
       obtain ⟨v_73, hv_73, hx12⟩ := lt1_inv hx12
       refine jc (op_pickCS lb tR (fun hb22 => .cB) (fun hb22 => (HasO.cnd tR (notT hb22))) hv_73) <| JL.sub ⟨[(5, ov (PTR gb_5 0)), (9, ov (PTR gb_59 0)), (10, ov (S (rI .i64) x_61)), (11, ov (PTR gb_67 0)), (12, ov (PTR gb_68 0)), (80, ov (S rB v_73))], [zq28 gb_5 go_55 log_52 gc_56 go_57 behind_53 gc_58 go_6 t_1 v_51, cown go_55 r_api_Event log_52 (List.length log_52) gc_56, cown go_57 (rV 16 (rU UInt64)) behind_53 0 gc_58, cmap go_6 (A r_api_Dot) (A r_api_Event) (some x_54), cvar gb_59 (rV 16 (rU UInt64)) x_60, cvar gb_67 r_api_Event v_64, cvar gb_68 (rV 16 (rU UInt64)) v_65], []⟩ (.cons rfl (.cons rfl (.cons rfl (.cons rfl (.cons rfl (.cons rfl .nil)))))) rfl rfl <| JL.nil ?_
       try obtain rfl := so hx12
       exact JQ.join () (Imp.norm (js := [0, 0, 0, 0, 0, 0, 0]) rfl (.cons rfl (.cons rfl (.cons rfl (.cons rfl (.cons rfl (.cons rfl .nil)))))))
     refine JC.exit <| JQ.outX ?_
     try obtain rfl := so hx
     try obtain rfl := hr _ rfl
     dsimp only at hq9
     refine JQ.outX <| JQ.here ?_
     try obtain rfl := so hq9
     exact JQ.joinK x_60 () rfl (Imp.norm (js := [0, 0, 0, 0, 0]) rfl (.cons rfl (.cons rfl .nil)))
   refine jr <| jc (op_assign lb .cI) <| jn <| JC.block <| JC.pre (Imp.nilown r_api_Event) <| JC.pre (Imp.nilown (rV 16 (rU UInt64))) <| JC.pre (Imp.frz (j := 2) rfl ImpK.refl) <| JC.pre ?_ (JC.loop (γ := Option Nat × Nat × Option Nat × Nat) (stf := fun s q => ⟨[(1, ov (S (rL r_law13_Act) a_2)), (5, ov (PTR gb_5 0)), (7, ov (S (rI .i64) s.2.2.2.2))], [cvar gb_5 (rP (rI .i64) (rP (rI .i64) (rP (rV 16 (rU UInt64)) (rP (rW (HDR q.1 0 (List.length s.2.1) q.2.1)) (rP (rW (HDR q.2.2.1 0 (List.length s.2.2.1) q.2.2.2)) (rP (rW (MPV go_6)) r0)))))) (t_1, ((1 : Int), (s.1, ((), ((), ((), ())))))), cown q.1 r_api_Event s.2.1 (List.length s.2.1) q.2.1, cown q.2.2.1 (rV 16 (rU UInt64)) s.2.2.1 0 q.2.2.2, cmap go_6 (A r_api_Dot) (A r_api_Event) (some s.2.2.2.1)], []⟩) (q := (none, 0, none, 0)) hx3 ?_)
   · exact (Imp.norm (js := [0, 1, 1, 0]) rfl (.cons rfl (.cons rfl (.cons rfl .nil))))
   intro s q x hx hr
   obtain ⟨v_7, log_8, behind_9, x_10, x_11⟩ := s
   obtain ⟨go_12, gc_13, go_14, gc_15⟩ := q
   change law13_CastPast.b1 k a_2 t_1 v_7 log_8 behind_9 x_10 x_11 = some x at hx
   unfold law13_CastPast.b1 at hx
   refine JC.at ⟨[(1, ov (S (rL r_law13_Act) a_2)), (5, ov (PTR gb_5 0)), (7, ov (S (rI .i64) x_11))], [zq28 gb_5 go_12 log_8 gc_13 go_14 behind_9 gc_15 go_6 t_1 v_7, cown go_12 r_api_Event log_8 (List.length log_8) gc_13, cown go_14 (rV 16 (rU UInt64)) behind_9 0 gc_15, cmap go_6 (A r_api_Dot) (A r_api_Event) (some x_10)], []⟩ <| JC.seq <| jr <| jmv rfl rfl <| jmv rfl rfl <| jc (op_lenL lb tu22 tR) <| lI hx fun v_16 hv_16 hx => jc (op_cmpI lb tR tR (cs hv_16)) <| jn <| jif tR hx (fun hc5 hx => ?_) (fun hc5 hx => ?_)
   · refine JC.skip <| JQ.then ?_
     obtain ⟨⟨v_42, log_43, behind_44, x_45⟩, hx6, hq6⟩ := bnd_inv hx
     refine JC.seqJ (γ := Option Nat × Nat × Option Nat × Nat) (stj := fun q => ⟨[(1, ov (S (rL r_law13_Act) a_2)), (5, ov (PTR gb_5 0)), (7, ov (S (rI .i64) x_11))], [cvar gb_5 (rP (rI .i64) (rP (rI .i64) (rP (rV 16 (rU UInt64)) (rP (rW (HDR q.1 0 (List.length log_43) q.2.1)) (rP (rW (HDR q.2.2.1 0 (List.length behind_44) q.2.2.2)) (rP (rW (MPV go_6)) r0)))))) (t_1, ((1 : Int), (v_42, ((), ((), ((), ())))))), cown q.1 r_api_Event log_43 (List.length log_43) q.2.1, cown q.2.2.1 (rV 16 (rU UInt64)) behind_44 0 q.2.2.2, cmap go_6 (A r_api_Dot) (A r_api_Event) (some x_45)], []⟩) (fun q => ?_) ?_
     · obtain ⟨go_46, gc_47, go_48, gc_49⟩ := q
       refine JC.at ⟨[(1, ov (S (rL r_law13_Act) a_2)), (5, ov (PTR gb_5 0)), (7, ov (S (rI .i64) x_11))], [zq28 gb_5 go_46 log_43 gc_47 go_48 behind_44 gc_49 go_6 t_1 v_42, cown go_46 r_api_Event log_43 (List.length log_43) gc_47, cown go_48 (rV 16 (rU UInt64)) behind_44 0 gc_49, cmap go_6 (A r_api_Dot) (A r_api_Event) (some x_45)], []⟩ <| JC.region <| jmv rfl rfl <| lI hq6 fun v_50 hv_50 hq6 => jc (op_arI lb tR .cI (cs hv_50)) <| jc (op_assign lb tR) <| JL.nil ?_
       try obtain rfl := so hq6
       exact JQ.next (go_46, gc_47, go_48, gc_49) rfl (Imp.norm (js := [0, 0, 0, 0]) rfl (.cons rfl (.cons rfl (.cons rfl .nil))))
     refine JC.block <| jr <| jmv rfl rfl <| jmv rfl rfl <| bI hx6 fun v_17 hv_17 hx6 => jc (op_indexAddrLg lb tu22 tz39 tR tR hv_17) <| jc (op_fieldAddrP lb tf39_1 tR (comp_law13_Act_Event v_17)) <| jc (op_loadPAg lb tA37 tR rfl) <| jx (op_alloc lb tZ37 zr37) fun gb_18 => JL.sub ⟨[(1, ov (S (rL r_law13_Act) a_2)), (5, ov (PTR gb_5 0)), (7, ov (S (rI .i64) x_11)), (8, ov (PTR gb_18 0)), (36, ov (A r_api_Event v_17.Event))], [zq28 gb_5 go_12 log_8 gc_13 go_14 behind_9 gc_15 go_6 t_1 v_7, cown go_12 r_api_Event log_8 (List.length log_8) gc_13, cown go_14 (rV 16 (rU UInt64)) behind_9 0 gc_15, cmap go_6 (A r_api_Dot) (A r_api_Event) (some x_10), cvar gb_18 zq1 zq2], []⟩ (.cons rfl (.cons rfl (.cons rfl (.cons rfl (.cons rfl .nil))))) rfl rfl <| jc (op_storeA (j := 4) tA37 tR tR rfl (UpdR.self (by rfl)) rfl) <| jn <| jr <| jmv rfl rfl <| jmv rfl rfl <| bI hx6 fun v_19 hv_19 hx6 => jc (op_indexAddrLg lb tu22 tz39 tR tR hv_19) <| jc (op_fieldAddrP lb tf39_0 tR (comp_law13_Act_Kind v_19)) <| jc (op_loadPSg lb tS3 rfl tR rfl) ?_
     obtain ⟨v_20, hv_20, hx6⟩ := lt1_inv hx6
     refine jc (op_cmpI lb tR .cI (cs hv_20)) <| jn <| jif tR hx6 (fun hc7 hx6 => ?_) (fun hc7 hx6 => ?_)
     · refine JC.region <| jmv rfl rfl <| jc (op_fieldAddr (off := 2) lb tf37_1 tR) <| jc (op_loadS (j := 4) lb tS9 tR rfl (cT (comp_api_Event_Topic v_17.Event) rfl) rfl rfl) <| JL.sub ⟨[(1, ov (S (rL r_law13_Act) a_2)), (5, ov (PTR gb_5 0)), (7, ov (S (rI .i64) x_11)), (8, ov (PTR gb_18 0)), (43, ov (PTR gb_5 0)), (45, ov (S rS v_17.Event.Topic))], [zq28 gb_5 go_12 log_8 gc_13 go_14 behind_9 gc_15 go_6 t_1 v_7, cown go_12 r_api_Event log_8 (List.length log_8) gc_13, cown go_14 (rV 16 (rU UInt64)) behind_9 0 gc_15, cmap go_6 (A r_api_Dot) (A r_api_Event) (some x_10), cvar gb_18 r_api_Event v_17.Event], []⟩ (.cons rfl (.cons rfl (.cons rfl (.cons rfl (.cons rfl (.cons rfl .nil)))))) rfl rfl <| jc (op_fieldAddr (off := 3) lb tf37_2 tR) <| jc (op_loadS (j := 4) lb tS32 tR rfl (cT (comp_api_Event_Payload v_17.Event) rfl) rfl rfl) <| jc (op_fieldAddr (off := 20) lb tf37_4 tR) <| jc (op_loadS (j := 4) lb tS35 tR rfl (cT (comp_api_Event_To v_17.Event) rfl) rfl rfl) ?_
       obtain ⟨⟨v_21, v_22, x_23, x_24, x_25⟩, hv_21, hx6⟩ := bnd_inv hx6
       refine jx (op_call (js := [0, 0, 0, 0]) ld cl11 (sim_cast_Caster_Publish_pvvv_svvvoomm k v_17.Event.Topic v_17.Event.Payload v_17.Event.To t_1 (1 : Int) v_7 log_8 behind_9 x_10 gb_5 go_12 gc_13 go_14 gc_15 go_6 (v_21, v_22, x_23, x_24, x_25) hv_21) .func (.cons tR (.cons tR (.cons tR (.cons tR .nil)))) rfl) (fun q => ?_)
       obtain ⟨go_26, gc_27, go_28, gc_29⟩ := q
       refine JL.nil <| JQ.outNB ?_
       have hz := Option.some.inj hx6
       replace hz := Prod.mk.inj hz
       obtain ⟨hz_a, hz⟩ := hz
       first | subst hz_a | clear hz_a
       replace hz := Prod.mk.inj hz
       obtain ⟨hz_a, hz⟩ := hz
       first | subst hz_a | clear hz_a
       replace hz := Prod.mk.inj hz
       obtain ⟨hz_a, hz⟩ := hz
       first | subst hz_a | clear hz_a
       first | subst hz | clear hz
       exact JQ.join (go_26, gc_27, go_28, gc_29) (Imp.norm (js := [0, 0, 0, 0]) rfl (.cons rfl (.cons rfl (.cons rfl .nil))))
     refine JC.region <| jmv rfl rfl <| jc (op_loadA (j := 4) lb tA37 tR rfl (Comp.self r_api_Event v_17.Event) rfl) ?_
     obtain ⟨⟨v_30, v_31, x_32, x_33, x_34, x_35⟩, hv_30, hx6⟩ := bnd_inv hx6
     refine jx (op_call (js := [0, 0, 0, 0]) ld cl12 (sim_cast_Caster_Offer_pv_svvvoomm k v_17.Event t_1 (1 : Int) v_7 log_8 behind_9 x_10 gb_5 go_12 gc_13 go_14 gc_15 go_6 (v_30, v_31, x_32, x_33, x_34, x_35) hv_30) .func (.cons tR (.cons tR .nil)) rfl) (fun q => ?_)
     obtain ⟨go_36, gc_37, go_38, gc_39, go_40, gc_41⟩ := q
     refine JL.nrm ⟨[(1, ov (S (rL r_law13_Act) a_2)), (5, ov (PTR gb_5 0)), (7, ov (S (rI .i64) x_11))], [zq28 gb_5 go_38 x_33 gc_39 go_40 x_34 gc_41 go_6 t_1 x_32, cown go_38 r_api_Event x_33 (List.length x_33) gc_39, cown go_40 (rV 16 (rU UInt64)) x_34 0 gc_41, cmap go_6 (A r_api_Dot) (A r_api_Event) (some (x_35))], []⟩ [1, 1, 1, 1] rfl (.cons rfl (.cons rfl (.cons rfl .nil))) rfl <| JL.nil <| JQ.outNB ?_
     have hz := Option.some.inj hx6
     replace hz := Prod.mk.inj hz
     obtain ⟨hz_a, hz⟩ := hz
     first | subst hz_a | clear hz_a
     replace hz := Prod.mk.inj hz
     obtain ⟨hz_a, hz⟩ := hz
     first | subst hz_a | clear hz_a
     replace hz := Prod.mk.inj hz
     obtain ⟨hz_a, hz⟩ := hz
     first | subst hz_a | clear hz_a
     first | subst hz | clear hz
     exact JQ.join (go_38, gc_39, go_40, gc_41) (Imp.norm (js := [0, 0, 0, 0]) rfl (.cons rfl (.cons rfl (.cons rfl .nil))))
   refine JC.exit <| JQ.outX ?_
   try obtain rfl := so hx
   have ht := hr _ rfl
   have hq4 := cs ht
   clear hr ht
   refine JQ.outX <| JQ.here ?_
   have hz := Option.some.inj hq4
   replace hz := Prod.mk.inj hz
   obtain ⟨hz_a, hz⟩ := hz
   first | subst hz_a | clear hz_a
   replace hz := Prod.mk.inj hz
   obtain ⟨hz_a, hz⟩ := hz
   first | subst hz_a | clear hz_a
   replace hz := Prod.mk.inj hz
   obtain ⟨hz_a, hz⟩ := hz
   first | subst hz_a | clear hz_a
   first | subst hz | clear hz
   exact JQ.join (go_12, gc_13, go_14, gc_15) (Imp.norm (js := [0, 0, 0, 0]) rfl (.cons rfl .nil))
 obtain _ := ts2
 dsimp only at hm
 refine jx (op_call (js := []) ld cl10 (sim_cast_New_v1 k t_1 (1 : Int) () hs2) .func (.cons tR (.cons .cI .nil)) rfl) fun _ => jmv rfl rfl <| jc (op_extract (i := 0) lb tR rfl) <| jc (op_extract (i := 1) lb tR rfl) <| jc (op_assign lb tR) <| jc (op_assign lb tR) <| JL.sub ⟨[(1, ov (S (rL r_law13_Act) a_2)), (5, ov (PTO none)), (6, ov (S (rI .i64) (2 : Int)))], [], []⟩ (.cons rfl (.cons rfl (.cons rfl .nil))) rfl rfl <| jn <| JC.seq <| jr <| jmv rfl rfl <| jc (op_cmpI lb tR .cI (cs (by decide : ((2 : Int) != (0 : Int)) = true))) <| jn <| JC.condT tR rfl <| jr <| bI hm fun v_104 hv_104 hm => jx (op_call (js := []) ld cl9 (sim_law13_known k v_104 hv_104) .func .nil rfl) (fun _ => ?_)
 refine jc (op_assign lb tR) <| jn <| JC.ret <| JQ.outR ?_
 obtain rfl := so hm
 exact jd (.val (S rB v_104)) rfl rfl rfl rfl rfl rfl

end Go.Proofs.Ytbmimaabgclhjaa
