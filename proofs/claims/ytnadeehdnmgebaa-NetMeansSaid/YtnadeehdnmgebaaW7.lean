/- Walks. -/
import Derived.Test.YtnadeehdnmgebaaT
import Derived.Test.YtnadeehdnmgebaaW0
import Derived.Test.YtnadeehdnmgebaaW1
import Derived.Test.YtnadeehdnmgebaaW2
import Derived.Test.YtnadeehdnmgebaaW3
import Derived.Test.YtnadeehdnmgebaaW4
import Derived.Test.YtnadeehdnmgebaaW5
import Derived.Test.YtnadeehdnmgebaaW6
namespace Go.Proofs.Ytnadeehdnmgebaa
open Go Fw
set_option linter.unusedVariables false
set_option maxRecDepth 100000
set_option maxHeartbeats 4000000

theorem sim_law12_NetMeans'2 (k : Nat) (t_1 : (List law12_Act)) (r : Bool) (hm : law12_NetMeans'2 k t_1 = some r) : Sim Try.prog 3 [S (rL r_law12_Act) t_1] [] (γ := Unit) (fun q => []) (fun q => .one (.val (S rB r))) := by
 unfold law12_NetMeans'2 at hm
 refine Sim.of Try.func3 rfl rfl (Nat.le_of_ble_eq_true rfl) (fun e0 w0 => ?_)
 refine JC.at ⟨[(0, ov (S (rL r_law12_Act) t_1))], [], []⟩ ?_
 refine JC.seq ?_
 refine JC.region ?_
 refine jc (op_assign lb .cB) ?_
 refine JL.nil ?_
 refine JQ.then ?_
 refine JC.seq ?_
 refine JC.seq ?_
 refine JC.region ?_
 replace hm := bnd_inv hm
 obtain ⟨v_2, hv_v_2, hm⟩ := hm
 refine jx (op_call (js := []) ld cl9 (sim_law12_known'2 k v_2 hv_v_2) .func .nil rfl) (fun _ => ?_)
 replace hm := lt1_inv hm
 obtain ⟨v_3, hv_v_3, hm⟩ := hm
 refine jc (op_not lb (.tmp rfl) hv_v_3) ?_
 refine JL.nil ?_
 refine JQ.then ?_
 replace hm := iteB_inv hm
 rcases hm with ⟨hc1, hm⟩ | ⟨hc1, hm⟩
 · refine JC.condT (.tmp rfl) hc1 ?_
   refine JC.seq ?_
   refine JC.region ?_
   refine jc (op_assign lb .cB) ?_
   refine JL.nil ?_
   refine JQ.then ?_
   refine JC.ret ?_
   refine JQ.outR ?_
   replace hm := Option.some.inj hm
   subst hm
   exact JQ.done (js := []) (ss := [.val (S rB false)]) () (.inl rfl) (.nil rfl) rfl (.cons (.tmp rfl) .nil) rfl rfl rfl
 · refine JC.condF (.tmp rfl) hc1 ?_
   refine JC.skip ?_
   refine JQ.then ?_
   refine JC.seq ?_
   refine JC.seq ?_
   refine JC.region ?_
   refine jc (op_move lb (.tmp rfl)) ?_
   replace hm := bnd_inv hm
   obtain ⟨v_4, hv_v_4, hm⟩ := hm
   refine jx (op_call (js := []) ld cl10 (sim_law12_much k t_1 v_4 hv_v_4) .func (.cons (.tmp rfl) .nil) rfl) (fun _ => ?_)
   refine JL.nil ?_
   refine JQ.then ?_
   replace hm := iteB_inv hm
   rcases hm with ⟨hc2, hm⟩ | ⟨hc2, hm⟩
   · refine JC.condT (.tmp rfl) hc2 ?_
     refine JC.seq ?_
     refine JC.region ?_
     refine jc (op_assign lb .cB) ?_
     refine JL.nil ?_
     refine JQ.then ?_
     refine JC.ret ?_
     refine JQ.outR ?_
     replace hm := Option.some.inj hm
     subst hm
     exact JQ.done (js := []) (ss := [.val (S rB true)]) () (.inl rfl) (.nil rfl) rfl (.cons (.tmp rfl) .nil) rfl rfl rfl
   · refine JC.condF (.tmp rfl) hc2 ?_
     refine JC.skip ?_
     refine JQ.then ?_
     refine JC.seq ?_
     refine JC.region ?_
     replace hm := bnd_inv hm
     obtain ⟨ts3, hs3, hm⟩ := hm
     rcases ts3 with ts3 | ts3
     · obtain _ := ts3
       dsimp only at hm
       refine jx (op_call (js := []) ld cl11 (sim_net_New_v0 k (4 : Int) () hs3) .func (.cons .cI .nil) rfl) (fun q => ?_)
       obtain ⟨gb_5, go_6⟩ := q
       refine jc (op_move lb (.tmp rfl)) ?_
       refine jc (op_extract (i := 0) lb (.tmp rfl) rfl) ?_
       refine jc (op_extract (i := 1) lb (.tmp rfl) rfl) ?_
       refine jc (op_assign lb (.tmp rfl)) ?_
       refine JL.sub ⟨[(0, ov (S (rL r_law12_Act) t_1)), (3, ov (PTR gb_5 0)), (23, ov (S (rI .i64) (0 : Int)))], [cvar gb_5 (rP (rW (MPV go_6)) (rP (rI .i64) (rP (rI .i64) r0))) ((), ((4 : Int), ((0 : Int), ()))), cmap go_6 (A r_net_pair) (S (rL (rL (rU UInt8)))) (some ([] : (List (net_pair × (List (List UInt8))))))], []⟩ (.cons rfl (.cons rfl (.cons rfl .nil))) rfl rfl ?_
       refine jc (op_assign lb (.tmp rfl)) ?_
       refine JL.nil ?_
       refine JQ.then ?_
       refine JC.seq ?_
       replace hm := bnd_inv hm
       obtain ⟨_, hx4, hq4⟩ := hm
       refine JC.seqJ (γ := Unit) (stj := fun q => ⟨[(0, ov (S (rL r_law12_Act) t_1)), (3, ov (PTR gb_5 0)), (30, ov (S rB false))], [cvar gb_5 (rP (rW (MPV go_6)) (rP (rI .i64) (rP (rI .i64) r0))) ((), ((4 : Int), ((0 : Int), ()))), cmap go_6 (A r_net_pair) (S (rL (rL (rU UInt8)))) (some ([] : (List (net_pair × (List (List UInt8))))))], []⟩) (fun q => ?_) ?_
       · obtain _ := q
         refine JC.at ⟨[(0, ov (S (rL r_law12_Act) t_1)), (3, ov (PTR gb_5 0)), (30, ov (S rB false))], [cvar gb_5 (rP (rW (MPV go_6)) (rP (rI .i64) (rP (rI .i64) r0))) ((), ((4 : Int), ((0 : Int), ()))), cmap go_6 (A r_net_pair) (S (rL (rL (rU UInt8)))) (some ([] : (List (net_pair × (List (List UInt8))))))], []⟩ ?_
         refine JC.condF (.tmp rfl) rfl ?_
         refine JC.skip ?_
         refine JQ.then ?_
         refine JC.seq ?_
         refine JC.region ?_
         refine jc (op_assign lb HasO.nilH) ?_
         refine JL.nil ?_
         refine JQ.then ?_
         replace hq4 := bnd_inv hq4
         obtain ⟨tv5, hx5, hq5⟩ := hq4
         refine JC.seqK (α := (List (net_pair × (List (List UInt8)))) × Int × (List api_Flight)) (γ := Option Nat × Nat) (stj := fun v q => ⟨[(3, ov (PTR gb_5 0)), (5, ov (HDR q.1 0 (List.length v.2.2) q.2))], [cvar gb_5 (rP (rW (MPV go_6)) (rP (rI .i64) (rP (rI .i64) r0))) ((), ((4 : Int), (v.2.1, ()))), cmap go_6 (A r_net_pair) (S (rL (rL (rU UInt8)))) (some v.1), cown q.1 r_api_Flight v.2.2 0 q.2], []⟩) (p := fun v => tv5 = (.inl v)) (fun v q hv => ?_) ?_
         · subst hv
           obtain ⟨x_100, lost_101, x_102⟩ := v
           obtain ⟨go_103, gc_104⟩ := q
           dsimp only at hq5
           refine JC.at ⟨[(3, ov (PTR gb_5 0)), (5, ov (HDR go_103 0 (List.length x_102) gc_104))], [cvar gb_5 (rP (rW (MPV go_6)) (rP (rI .i64) (rP (rI .i64) r0))) ((), ((4 : Int), (lost_101, ()))), cmap go_6 (A r_net_pair) (S (rL (rL (rU UInt8)))) (some x_100), cown go_103 r_api_Flight x_102 0 gc_104], []⟩ ?_
           refine JC.seq ?_
           refine JC.region ?_
           refine jc (op_move lb (.tmp rfl)) ?_
           replace hq5 := bnd_inv hq5
           obtain ⟨v_105, hv_v_105, hq5⟩ := hq5
           refine jx (op_call (js := [0, 0]) ld cl16 (sim_net_Net_Len k (4 : Int) lost_101 x_100 gb_5 go_6 v_105 hv_v_105) .func (.cons (.tmp rfl) .nil) rfl) (fun _ => ?_)
           refine jc (op_move lb (.tmp rfl)) ?_
           refine jc (op_lenH lb tu30 (.tmp rfl)) ?_
           replace hq5 := lt1_inv hq5
           obtain ⟨v_106, hv_v_106, hq5⟩ := hq5
           refine jc (op_cmpI lb (.tmp rfl) (.tmp rfl) (congrArg some hv_v_106)) ?_
           refine jc (op_assign lb (.tmp rfl)) ?_
           refine JL.nil ?_
           refine JQ.then ?_
           refine JC.ret ?_
           replace hq5 := Option.some.inj hq5
           subst hq5
           exact JQ.done (js := []) (ss := [.val (S rB v_106)]) () (.inl rfl) (.nil rfl) rfl (.cons (.tmp rfl) .nil) rfl rfl rfl
         · refine JC.seq ?_
           refine JC.region ?_
           refine jc (op_assign lb .cI) ?_
           refine JL.nil ?_
           refine JQ.then ?_
           refine JC.block ?_
           replace hx5 := bnd_inv hx5
           obtain ⟨tv6, hL6, hq6⟩ := hx5
           refine JC.pre (Imp.nilown r_api_Flight) ?_
           refine JC.pre ?_ (JC.loop (γ := Option Nat × Nat) (stf := fun s q => ⟨[(0, ov (S (rL r_law12_Act) t_1)), (3, ov (PTR gb_5 0)), (5, ov (HDR q.1 0 (List.length s.2.2.1) q.2)), (6, ov (S (rI .i64) s.2.2.2))], [cvar gb_5 (rP (rW (MPV go_6)) (rP (rI .i64) (rP (rI .i64) r0))) ((), ((4 : Int), (s.2.1, ()))), cmap go_6 (A r_net_pair) (S (rL (rL (rU UInt8)))) (some s.1), cown q.1 r_api_Flight s.2.2.1 0 q.2], []⟩) (q := (none, 0)) hL6 ?_)
           · exact (Imp.norm (js := [0, 0, 0]) rfl (.cons rfl (.cons rfl (.cons rfl (.cons rfl .nil)))))
           · intro s q x hx hr
             obtain ⟨x_8, lost_9, x_10, x_11⟩ := s
             obtain ⟨go_12, gc_13⟩ := q
             change law12_NetMeans'2.b1 k t_1 x_8 lost_9 x_10 x_11 = some x at hx
             unfold law12_NetMeans'2.b1 at hx
             refine JC.at ⟨[(0, ov (S (rL r_law12_Act) t_1)), (3, ov (PTR gb_5 0)), (5, ov (HDR go_12 0 (List.length x_10) gc_13)), (6, ov (S (rI .i64) x_11))], [cvar gb_5 (rP (rW (MPV go_6)) (rP (rI .i64) (rP (rI .i64) r0))) ((), ((4 : Int), (lost_9, ()))), cmap go_6 (A r_net_pair) (S (rL (rL (rU UInt8)))) (some x_8), cown go_12 r_api_Flight x_10 0 gc_13], []⟩ ?_
             refine JC.seq ?_
             refine JC.seq ?_
             refine JC.region ?_
             refine jc (op_move lb (.tmp rfl)) ?_
             refine jc (op_move lb (.tmp rfl)) ?_
             refine jc (op_lenL lb tu22 (.tmp rfl)) ?_
             replace hx := lt1_inv hx
             obtain ⟨v_14, hv_v_14, hx⟩ := hx
             refine jc (op_cmpI lb (.tmp rfl) (.tmp rfl) (congrArg some hv_v_14)) ?_
             refine JL.nil ?_
             refine JQ.then ?_
             replace hx := iteB_inv hx
             rcases hx with ⟨hc7, hx⟩ | ⟨hc7, hx⟩
             · refine JC.condT (.tmp rfl) hc7 ?_
               refine JC.skip ?_
               refine JQ.then ?_
               replace hx := bnd_inv hx
               obtain ⟨tv8, hx8, hq8⟩ := hx
               refine JC.seqK (α := (List (net_pair × (List (List UInt8)))) × Int × (List api_Flight)) (γ := Option Nat × Nat) (stj := fun v q => ⟨[(0, ov (S (rL r_law12_Act) t_1)), (3, ov (PTR gb_5 0)), (5, ov (HDR q.1 0 (List.length v.2.2) q.2)), (6, ov (S (rI .i64) x_11))], [cvar gb_5 (rP (rW (MPV go_6)) (rP (rI .i64) (rP (rI .i64) r0))) ((), ((4 : Int), (v.2.1, ()))), cmap go_6 (A r_net_pair) (S (rL (rL (rU UInt8)))) (some v.1), cown q.1 r_api_Flight v.2.2 0 q.2], []⟩) (p := fun v => tv8 = (.inl v)) (fun v q hv => ?_) ?_
               · subst hv
                 obtain ⟨x_89, lost_90, x_91⟩ := v
                 obtain ⟨go_92, gc_93⟩ := q
                 dsimp only at hq8
                 refine JC.at ⟨[(0, ov (S (rL r_law12_Act) t_1)), (3, ov (PTR gb_5 0)), (5, ov (HDR go_92 0 (List.length x_91) gc_93)), (6, ov (S (rI .i64) x_11))], [cvar gb_5 (rP (rW (MPV go_6)) (rP (rI .i64) (rP (rI .i64) r0))) ((), ((4 : Int), (lost_90, ()))), cmap go_6 (A r_net_pair) (S (rL (rL (rU UInt8)))) (some x_89), cown go_92 r_api_Flight x_91 0 gc_93], []⟩ ?_
                 refine JC.region ?_
                 refine jc (op_move lb (.tmp rfl)) ?_
                 replace hq8 := lt1_inv hq8
                 obtain ⟨v_94, hv_v_94, hq8⟩ := hq8
                 refine jc (op_arI lb (.tmp rfl) .cI (congrArg some hv_v_94)) ?_
                 refine jc (op_assign lb (.tmp rfl)) ?_
                 refine JL.nil ?_
                 replace hq8 := Option.some.inj hq8
                 first | subst hq8 | clear hq8
                 exact JQ.next (go_92, gc_93) rfl (Imp.norm (js := [0, 0, 0]) rfl (.cons rfl (.cons rfl (.cons rfl (.cons rfl .nil)))))
               · refine JC.block ?_
                 refine JC.seq ?_
                 refine JC.region ?_
                 refine jc (op_move lb (.tmp rfl)) ?_
                 refine jc (op_move lb (.tmp rfl)) ?_
                 replace hx8 := bnd_inv hx8
                 obtain ⟨v_15, hv_v_15, hx8⟩ := hx8
                 refine jc (op_indexAddrLg lb tu22 tz33 (.tmp rfl) (.tmp rfl) hv_v_15) ?_
                 refine jc (op_fieldAddrP lb tf33_0 (.tmp rfl) (comp_law12_Act_Kind v_15)) ?_
                 refine jc (op_loadPSg lb tS3 rfl (.tmp rfl) rfl) ?_
                 refine JL.nil ?_
                 refine JQ.then ?_
                 refine JC.block ?_
                 refine JC.seq ?_
                 refine JC.region ?_
                 replace hx8 := lt1_inv hx8
                 obtain ⟨v_16, hv_v_16, hx8⟩ := hx8
                 refine jc (op_cmpI lb (.tmp rfl) .cI (congrArg some hv_v_16)) ?_
                 refine jc (op_assign lb (.tmp rfl)) ?_
                 refine JL.nil ?_
                 refine JQ.then ?_
                 replace hx8 := iteB_inv hx8
                 rcases hx8 with ⟨hc9, hx8⟩ | ⟨hc9, hx8⟩
                 · refine JC.condT (.tmp rfl) hc9 ?_
                   refine JC.seq ?_
                   replace hx8 := bnd_inv hx8
                   obtain ⟨v_17, hv_v_17, hx8⟩ := hx8
                   replace hx8 := bnd_inv hx8
                   obtain ⟨v_18, hv_v_18, hx8⟩ := hx8
                   replace hx8 := bnd_inv hx8
                   obtain ⟨v_19, hv_v_19, hx8⟩ := hx8
                   replace hx8 := bnd_inv hx8
                   obtain ⟨⟨v_20, x_21, x_22⟩, hv_v_20, hx8⟩ := hx8
                   replace hx8 := bnd_inv hx8
                   obtain ⟨_, hv_u_23, hx8⟩ := hx8
                   replace hx8 := lt1_inv hx8
                   obtain ⟨v_24, hv_v_24, hx8⟩ := hx8
                   refine JC.anyE (kl := []) (kk := 0) (base := [(0, ov (S (rL r_law12_Act) t_1)), (3, ov (PTR gb_5 0)), (5, ov (HDR go_12 0 (List.length x_10) gc_13)), (6, ov (S (rI .i64) x_11))])
                       (fs := fun γ => [⟨some 44, ov (PTR gb_5 0)⟩, ⟨some 45, ov (S (rL r_law12_Act) t_1)⟩, ⟨some 46, ov (S (rI .i64) x_11)⟩, ⟨some 47, ov (PT r_law12_Act v_17)⟩, ⟨some 48, ov (PT (rI .i64) v_17.A)⟩, ⟨some 49, ov (S (rI .i64) v_17.A)⟩, ⟨some 50, ov (S (rL r_law12_Act) t_1)⟩, ⟨some 51, ov (S (rI .i64) x_11)⟩, ⟨some 52, ov (PT r_law12_Act v_18)⟩, ⟨some 53, ov (PT (rI .i64) v_18.B)⟩, ⟨some 54, ov (S (rI .i64) v_18.B)⟩, ⟨some 55, ov (S (rL r_law12_Act) t_1)⟩, ⟨some 56, ov (S (rI .i64) x_11)⟩, ⟨some 57, ov (PT r_law12_Act v_19)⟩, ⟨some 58, ov (PT (rL (rU UInt8)) v_19.Bytes)⟩, ⟨some 59, ov (S (rL (rU UInt8)) v_19.Bytes)⟩, ⟨some 60, ov (S (rI .i64) v_20)⟩, ⟨some 61, ov (S (rI .i64) v_20)⟩, ⟨some 62, ov (S rB v_24)⟩])
                       (rs := fun γ => [⟨cvar gb_5 (rP (rW (MPV go_6)) (rP (rI .i64) (rP (rI .i64) r0))) ((), ((4 : Int), (lost_9, ()))), none, (some 16), []⟩, ⟨cmap go_6 (A r_net_pair) (S (rL (rL (rU UInt8)))) (some x_8), none, (some 16), []⟩, ⟨cown go_12 r_api_Flight x_10 0 gc_13, none, none, []⟩, ⟨cvar gb_5 (rP (rW (MPV go_6)) (rP (rI .i64) (rP (rI .i64) r0))) ((), ((4 : Int), (x_22, ()))), (some 16), none, []⟩, ⟨cmap go_6 (A r_net_pair) (S (rL (rL (rU UInt8)))) (some (x_21)), (some 16), none, []⟩])
                       (ds := [44, 45, 46, 47, 48, 49, 50, 51, 52, 53, 54, 55, 56, 57, 58, 59, 60, 61, 62]) (bs := [0, 3, 5, 6]) (afts := [[], [], [], [], [], [], [], [], [], [], [], [], [], [], [], [], [], [], []]) (js := [0, 0, 0]) mixed (.cons rfl (.cons rfl (.cons rfl (.cons rfl .nil)))) (fun _ => rfl)
                       (by
      refine dS 1 (fun γ ρ B hb hd => op_move lb (.tmp (hb 3 _ rfl))) ?_
      refine dS 2 (fun γ ρ B hb hd => op_move lb (.tmp (hb 0 _ rfl))) ?_
      refine dS 3 (fun γ ρ B hb hd => op_move lb (.tmp (hb 6 _ rfl))) ?_
      refine dS 4 (fun γ ρ B hb hd => op_indexAddrLg lb tu22 tz33 (.tmp (hl hd 1 45 rfl)) (.tmp (hl hd 2 46 rfl)) hv_v_17) ?_
      refine dS 5 (fun γ ρ B hb hd => op_fieldAddrP lb tf33_1 (.tmp (hl hd 3 47 rfl)) (comp_law12_Act_A v_17)) ?_
      refine dS 6 (fun γ ρ B hb hd => op_loadPSg lb tS3 rfl (.tmp (hl hd 4 48 rfl)) rfl) ?_
      refine dS 7 (fun γ ρ B hb hd => op_move lb (.tmp (hb 0 _ rfl))) ?_
      refine dS 8 (fun γ ρ B hb hd => op_move lb (.tmp (hb 6 _ rfl))) ?_
      refine dS 9 (fun γ ρ B hb hd => op_indexAddrLg lb tu22 tz33 (.tmp (hl hd 6 50 rfl)) (.tmp (hl hd 7 51 rfl)) hv_v_18) ?_
      refine dS 10 (fun γ ρ B hb hd => op_fieldAddrP lb tf33_2 (.tmp (hl hd 8 52 rfl)) (comp_law12_Act_B v_18)) ?_
      refine dS 11 (fun γ ρ B hb hd => op_loadPSg lb tS3 rfl (.tmp (hl hd 9 53 rfl)) rfl) ?_
      refine dS 12 (fun γ ρ B hb hd => op_move lb (.tmp (hb 0 _ rfl))) ?_
      refine dS 13 (fun γ ρ B hb hd => op_move lb (.tmp (hb 6 _ rfl))) ?_
      refine dS 14 (fun γ ρ B hb hd => op_indexAddrLg lb tu22 tz33 (.tmp (hl hd 11 55 rfl)) (.tmp (hl hd 12 56 rfl)) hv_v_19) ?_
      refine dS 15 (fun γ ρ B hb hd => op_fieldAddrP lb tf33_3 (.tmp (hl hd 13 57 rfl)) (comp_law12_Act_Bytes v_19)) ?_
      refine dS 16 (fun γ ρ B hb hd => op_loadPSg lb tS31 rfl (.tmp (hl hd 14 58 rfl)) rfl) ?_
      refine DSteps.cons (j := 17) rfl (fun _ => rfl) (.run (fun γ ρ B hb hd => ⟨.none, OpStep.at ⟨ρ, (cvar gb_5 (rP (rW (MPV go_6)) (rP (rI .i64) (rP (rI .i64) r0))) ((), ((4 : Int), (lost_9, ())))) :: (cmap go_6 (A r_net_pair) (S (rL (rL (rU UInt8)))) (some x_8)) :: B, _⟩ (setO ⟨ρ, (cvar gb_5 (rP (rW (MPV go_6)) (rP (rI .i64) (rP (rI .i64) r0))) ((), ((4 : Int), (x_22, ())))) :: (cmap go_6 (A r_net_pair) (S (rL (rL (rU UInt8)))) (some (x_21))) :: B, _⟩ _ _) ((op_call (js := [0, 0]) ld cl13 (sim_net_Net_Send k v_17.A v_18.B v_19.Bytes (4 : Int) lost_9 x_8 gb_5 go_6 (v_20, x_21, x_22) hv_v_20) .func (.cons (.tmp (hl hd 0 44 rfl)) (.cons (.tmp (hl hd 5 49 rfl)) (.cons (.tmp (hl hd 10 54 rfl)) (.cons (.tmp (hl hd 15 59 rfl)) .nil)))) rfl).post (fun _ => Imp.refl))⟩)) ?_
      refine dS 18 (fun γ ρ B hb hd => (op_call (js := []) ld cl12 (sim_law12_num k v_20 () hv_u_23) .func (.cons (.tmp (hl hd 16 60 rfl)) .nil) rfl).post (fun _ => Imp.refl)) ?_
      refine dS 19 (fun γ ρ B hb hd => op_cmpI lb (.tmp (hl hd 17 61 rfl)) .cI (congrArg some hv_v_24)) ?_
      exact DSteps.nil)
                       (by decide +kernel) (fun _ => rfl) rfl (fun _ => rfl) (fun _ => rfl) rfl (by decide) (by decide) (by decide +kernel) (fun _ d h => by cases h)
                       (ρ' := fun γ => [(0, ov (S (rL r_law12_Act) t_1)), (3, ov (PTR gb_5 0)), (5, ov (HDR go_12 0 (List.length x_10) gc_13)), (6, ov (S (rI .i64) x_11)), (62, ov (S rB v_24))])
                       (X' := fun γ => [cown go_12 r_api_Flight x_10 0 gc_13, cvar gb_5 (rP (rW (MPV go_6)) (rP (rI .i64) (rP (rI .i64) r0))) ((), ((4 : Int), (x_22, ()))), cmap go_6 (A r_net_pair) (S (rL (rL (rU UInt8)))) (some (x_21))])
                       (fun γ ρ hb hd => (.cons (hb 0 _ rfl (by decide)) (.cons (hb 3 _ rfl (by decide)) (.cons (hb 5 _ rfl (by decide)) (.cons (hb 6 _ rfl (by decide)) (.cons (hdq hd 18 62 rfl) .nil)))))) (fun _ => rfl) (fun γ => ?_)
                   refine JQ.at ⟨[(0, ov (S (rL r_law12_Act) t_1)), (3, ov (PTR gb_5 0)), (5, ov (HDR go_12 0 (List.length x_10) gc_13)), (6, ov (S (rI .i64) x_11)), (62, ov (S rB v_24))], [cown go_12 r_api_Flight x_10 0 gc_13, cvar gb_5 (rP (rW (MPV go_6)) (rP (rI .i64) (rP (rI .i64) r0))) ((), ((4 : Int), (x_22, ()))), cmap go_6 (A r_net_pair) (S (rL (rL (rU UInt8)))) (some (x_21))], []⟩ ?_
                   refine JQ.then ?_
                   replace hx8 := iteB_inv hx8
                   rcases hx8 with ⟨hc10, hx8⟩ | ⟨hc10, hx8⟩
                   · refine JC.condT (.tmp rfl) hc10 ?_
                     replace hx8 := bnd_inv hx8
                     obtain ⟨v_25, hv_v_25, hx8⟩ := hx8
                     replace hx8 := bnd_inv hx8
                     obtain ⟨v_26, hv_v_26, hx8⟩ := hx8
                     replace hx8 := bnd_inv hx8
                     obtain ⟨v_27, hv_v_27, hx8⟩ := hx8
                     replace hx8 := bnd_inv hx8
                     obtain ⟨x_28, hv_x_28, hx8⟩ := hx8
                     refine JC.anyE (kl := [5]) (kk := 19) (base := [(0, ov (S (rL r_law12_Act) t_1)), (3, ov (PTR gb_5 0)), (5, ov (HDR go_12 0 (List.length x_10) gc_13)), (6, ov (S (rI .i64) x_11))])
                         (fs := fun γ => [⟨some 63, ov (HDR go_12 0 (List.length x_10) gc_13)⟩, ⟨some 64, ov (S (rL r_law12_Act) t_1)⟩, ⟨some 65, ov (S (rI .i64) x_11)⟩, ⟨some 66, ov (PT r_law12_Act v_25)⟩, ⟨some 67, ov (PT (rI .i64) v_25.A)⟩, ⟨some 68, ov (S (rI .i64) v_25.A)⟩, ⟨some 69, ov (S (rL r_law12_Act) t_1)⟩, ⟨some 70, ov (S (rI .i64) x_11)⟩, ⟨some 71, ov (PT r_law12_Act v_26)⟩, ⟨some 72, ov (PT (rI .i64) v_26.B)⟩, ⟨some 73, ov (S (rI .i64) v_26.B)⟩, ⟨some 74, ov (S (rL r_law12_Act) t_1)⟩, ⟨some 75, ov (S (rI .i64) x_11)⟩, ⟨some 76, ov (PT r_law12_Act v_27)⟩, ⟨some 77, ov (PT (rL (rU UInt8)) v_27.Bytes)⟩, ⟨some 78, ov (S (rL (rU UInt8)) v_27.Bytes)⟩, ⟨some 79, ov (A (rP (rI .i64) (rP (rI .i64) (rP (rL (rU UInt8)) r0))) (v_25.A, (v_26.B, (v_27.Bytes, ()))))⟩, ⟨some 80, ov (S (rL r_api_Flight) ([(api_Flight.mk v_25.A v_26.B v_27.Bytes)] : (List api_Flight)))⟩, ⟨some 81, ov (HDR (deo (γ 18 0)) 0 (List.length x_28) (γ 18 1))⟩, ⟨some 5, ov (HDR (deo (γ 18 0)) 0 (List.length x_28) (γ 18 1))⟩])
                         (rs := fun γ => [⟨cown go_12 r_api_Flight x_10 0 gc_13, none, (some 18), []⟩, ⟨cvar gb_5 (rP (rW (MPV go_6)) (rP (rI .i64) (rP (rI .i64) r0))) ((), ((4 : Int), (x_22, ()))), none, none, []⟩, ⟨cmap go_6 (A r_net_pair) (S (rL (rL (rU UInt8)))) (some (x_21)), none, none, []⟩, ⟨cown (deo (γ 18 0)) r_api_Flight x_28 0 (γ 18 1), (some 18), none, []⟩])
                         (ds := [63, 64, 65, 66, 67, 68, 69, 70, 71, 72, 73, 74, 75, 76, 77, 78, 79, 80, 81, 5]) (bs := [0, 3, 5, 6]) (afts := [[], [], [], [], [], [], [], [], [], [], [], [], [], [], [], [], [], [], [18, 19], []]) (js := [0, 0, 0]) mixed (.cons rfl (.cons rfl (.cons rfl (.cons rfl .nil)))) (fun _ => rfl)
                         (by
      refine dS 1 (fun γ ρ B hb hd => op_move lb (.tmp (hb 5 _ rfl))) ?_
      refine dS 2 (fun γ ρ B hb hd => op_move lb (.tmp (hb 0 _ rfl))) ?_
      refine dS 3 (fun γ ρ B hb hd => op_move lb (.tmp (hb 6 _ rfl))) ?_
      refine dS 4 (fun γ ρ B hb hd => op_indexAddrLg lb tu22 tz33 (.tmp (hl hd 1 64 rfl)) (.tmp (hl hd 2 65 rfl)) hv_v_25) ?_
      refine dS 5 (fun γ ρ B hb hd => op_fieldAddrP lb tf33_1 (.tmp (hl hd 3 66 rfl)) (comp_law12_Act_A v_25)) ?_
      refine dS 6 (fun γ ρ B hb hd => op_loadPSg lb tS3 rfl (.tmp (hl hd 4 67 rfl)) rfl) ?_
      refine dS 7 (fun γ ρ B hb hd => op_move lb (.tmp (hb 0 _ rfl))) ?_
      refine dS 8 (fun γ ρ B hb hd => op_move lb (.tmp (hb 6 _ rfl))) ?_
      refine dS 9 (fun γ ρ B hb hd => op_indexAddrLg lb tu22 tz33 (.tmp (hl hd 6 69 rfl)) (.tmp (hl hd 7 70 rfl)) hv_v_26) ?_
      refine dS 10 (fun γ ρ B hb hd => op_fieldAddrP lb tf33_2 (.tmp (hl hd 8 71 rfl)) (comp_law12_Act_B v_26)) ?_
      refine dS 11 (fun γ ρ B hb hd => op_loadPSg lb tS3 rfl (.tmp (hl hd 9 72 rfl)) rfl) ?_
      refine dS 12 (fun γ ρ B hb hd => op_move lb (.tmp (hb 0 _ rfl))) ?_
      refine dS 13 (fun γ ρ B hb hd => op_move lb (.tmp (hb 6 _ rfl))) ?_
      refine dS 14 (fun γ ρ B hb hd => op_indexAddrLg lb tu22 tz33 (.tmp (hl hd 11 74 rfl)) (.tmp (hl hd 12 75 rfl)) hv_v_27) ?_
      refine dS 15 (fun γ ρ B hb hd => op_fieldAddrP lb tf33_3 (.tmp (hl hd 13 76 rfl)) (comp_law12_Act_Bytes v_27)) ?_
      refine dS 16 (fun γ ρ B hb hd => op_loadPSg lb tS31 rfl (.tmp (hl hd 14 77 rfl)) rfl) ?_
      refine dS 17 (fun γ ρ B hb hd => op_build lb tZ36 zr36 tp36 (.S (off := 0) rfl (.tmp (hl hd 5 68 rfl)) rfl ((UpdR.fst (UpdR.self (by rfl))).at (by rfl)) (.S (off := 1) rfl (.tmp (hl hd 10 73 rfl)) rfl ((UpdR.snd (UpdR.fst (UpdR.self (by rfl)))).at (by rfl)) (.S (off := 2) rfl (.tmp (hl hd 15 78 rfl)) rfl ((UpdR.snd (UpdR.snd (UpdR.fst (UpdR.self (by rfl))))).at (by rfl)) .nil))) rfl) ?_
      refine dS 18 (fun γ ρ B hb hd => op_buildF (r := r_api_Flight) lb tu30 tz36 tZ36 rfl (Nat.le_of_ble_eq_true rfl) (.A (HasO.wk (q := A r_api_Flight (api_Flight.mk v_25.A v_26.B v_27.Bytes)) (.tmp (hl hd 16 79 rfl)) (wkAK (Wk.st Wk.refl))) .nil) rfl) ?_
      refine DSteps.cons (j := 19) rfl (fun _ => rfl) (.runX (fun _ _ => rfl) (fun γ ρ B hb hd => ⟨.none, OpX.ghost (γ := Option Nat × Nat) (st' := fun q => setO ⟨ρ, (cown q.1 r_api_Flight x_28 0 q.2) :: B, _⟩ (some 81) (ov (HDR q.1 0 (List.length x_28) q.2))) (fun q c => bif Nat.beq c 0 then eno q.1 else q.2) (op_appendL (j := 0) lb tu30 tu30 rfl tB36 rfl (Nat.lt_of_lt_of_le Nat.zero_lt_one (Nat.le_of_ble_eq_true rfl)) (Nat.lt_of_lt_of_le Nat.zero_lt_one (Nat.le_of_ble_eq_true rfl))  rfl (.tmp (hl hd 0 63 rfl)) (.tmp (hl hd 17 80 rfl)) hv_x_28) (fun q => by obtain ⟨q0, q1⟩ := q; cases q0 <;> exact Imp.refl)⟩) (fun _ _ => rfl) (fun _ _ => rfl)) ?_
      refine dS 20 (fun γ ρ B hb hd => op_assign lb (.tmp (hl hd 18 81 rfl))) ?_
      exact DSteps.nil)
                         (by decide +kernel) (fun _ => rfl) rfl (fun _ => rfl) (fun _ => rfl) rfl (by decide) (by decide) (by decide +kernel) (fun _ d h => by simp at h; subst h; exact ⟨_, rfl, rfl⟩)
                         (ρ' := fun γ => [(0, ov (S (rL r_law12_Act) t_1)), (3, ov (PTR gb_5 0)), (5, ov (HDR (deo (γ 18 0)) 0 (List.length x_28) (γ 18 1))), (6, ov (S (rI .i64) x_11))])
                         (X' := fun γ => [cvar gb_5 (rP (rW (MPV go_6)) (rP (rI .i64) (rP (rI .i64) r0))) ((), ((4 : Int), (x_22, ()))), cmap go_6 (A r_net_pair) (S (rL (rL (rU UInt8)))) (some (x_21)), cown (deo (γ 18 0)) r_api_Flight x_28 0 (γ 18 1)])
                         (fun γ ρ hb hd => (.cons (hb 0 _ rfl (by decide)) (.cons (hb 3 _ rfl (by decide)) (.cons (hdq hd 19 5 rfl) (.cons (hb 6 _ rfl (by decide)) .nil))))) (fun _ => rfl) (fun γ => ?_)
                     generalize (deo (γ 18 0)) = go_29
                     generalize (γ 18 1) = gc_30
                     clear γ
                     refine JQ.at ⟨[(0, ov (S (rL r_law12_Act) t_1)), (3, ov (PTR gb_5 0)), (5, ov (HDR go_29 0 (List.length x_28) gc_30)), (6, ov (S (rI .i64) x_11))], [cvar gb_5 (rP (rW (MPV go_6)) (rP (rI .i64) (rP (rI .i64) r0))) ((), ((4 : Int), (x_22, ()))), cmap go_6 (A r_net_pair) (S (rL (rL (rU UInt8)))) (some (x_21)), cown go_29 r_api_Flight x_28 0 gc_30], []⟩ ?_
                     refine JQ.outNB ?_
                     refine JQ.outNB ?_
                     replace hx8 := Option.some.inj hx8
                     first | subst hx8 | clear hx8
                     exact JQ.joinK ((x_21), x_22, x_28) (go_29, gc_30) rfl (Imp.norm (js := [0, 0, 0]) rfl (.cons rfl (.cons rfl (.cons rfl (.cons rfl .nil)))))
                   · refine JC.condF (.tmp rfl) hc10 ?_
                     refine JC.skip ?_
                     refine JQ.outNB ?_
                     refine JQ.outNB ?_
                     replace hx8 := Option.some.inj hx8
                     first | subst hx8 | clear hx8
                     exact JQ.joinK ((x_21), x_22, x_10) (go_12, gc_13) rfl (Imp.norm (js := [1, 1, 0]) rfl (.cons rfl (.cons rfl (.cons rfl (.cons rfl .nil)))))
                 · refine JC.condF (.tmp rfl) hc9 ?_
                   replace hx8 := bnd_inv hx8
                   obtain ⟨x_34, hx11, hq11⟩ := hx8
                   refine JC.seqJ (γ := Unit) (stj := fun q => ⟨[(0, ov (S (rL r_law12_Act) t_1)), (3, ov (PTR gb_5 0)), (5, ov (HDR go_12 0 (List.length x_10) gc_13)), (6, ov (S (rI .i64) x_11)), (82, ov (S rB x_34))], [cvar gb_5 (rP (rW (MPV go_6)) (rP (rI .i64) (rP (rI .i64) r0))) ((), ((4 : Int), (lost_9, ()))), cmap go_6 (A r_net_pair) (S (rL (rL (rU UInt8)))) (some x_8), cown go_12 r_api_Flight x_10 0 gc_13], []⟩) (fun q => ?_) ?_
                   · obtain _ := q
                     refine JC.at ⟨[(0, ov (S (rL r_law12_Act) t_1)), (3, ov (PTR gb_5 0)), (5, ov (HDR go_12 0 (List.length x_10) gc_13)), (6, ov (S (rI .i64) x_11)), (82, ov (S rB x_34))], [cvar gb_5 (rP (rW (MPV go_6)) (rP (rI .i64) (rP (rI .i64) r0))) ((), ((4 : Int), (lost_9, ()))), cmap go_6 (A r_net_pair) (S (rL (rL (rU UInt8)))) (some x_8), cown go_12 r_api_Flight x_10 0 gc_13], []⟩ ?_
                     replace hq11 := iteB_inv hq11
                     rcases hq11 with ⟨hc14, hq11⟩ | ⟨hc14, hq11⟩
                     · refine JC.condT (.tmp rfl) hc14 ?_
                       refine JC.seq ?_
                       refine JC.region ?_
                       refine jc (op_move lb (.tmp rfl)) ?_
                       refine jc (op_move lb (.tmp rfl)) ?_
                       refine jc (op_move lb (.tmp rfl)) ?_
                       replace hq11 := bnd_inv hq11
                       obtain ⟨v_35, hv_v_35, hq11⟩ := hq11
                       refine jc (op_indexAddrLg lb tu22 tz33 (.tmp rfl) (.tmp rfl) hv_v_35) ?_
                       refine jc (op_fieldAddrP lb tf33_1 (.tmp rfl) (comp_law12_Act_A v_35)) ?_
                       refine jc (op_loadPSg lb tS3 rfl (.tmp rfl) rfl) ?_
                       replace hq11 := bnd_inv hq11
                       obtain ⟨⟨v_36, v_37⟩, hv_v_36, hq11⟩ := hq11
                       refine jx (op_call (js := [0, 0]) ld cl14 (sim_net_Net_At k v_35.A (4 : Int) lost_9 x_8 gb_5 go_6 (v_36, v_37) hv_v_36) .func (.cons (.tmp rfl) (.cons (.tmp rfl) .nil)) rfl) (fun _ => ?_)
                       refine jc (op_move lb (.tmp rfl)) ?_
                       refine jc (op_extract (i := 0) lb (.tmp rfl) rfl) ?_
                       refine jc (op_extract (i := 1) lb (.tmp rfl) rfl) ?_
                       refine jx (op_alloc lb tZ36 zr36) (fun q => ?_)
                       obtain ⟨gb_38, hqq⟩ : ∃ z, z = q := ⟨_, rfl⟩
                       subst hqq
                       refine JL.sub ⟨[(0, ov (S (rL r_law12_Act) t_1)), (3, ov (PTR gb_5 0)), (5, ov (HDR go_12 0 (List.length x_10) gc_13)), (6, ov (S (rI .i64) x_11)), (7, ov (PTR gb_38 0)), (94, ov (A r_api_Flight v_36)), (95, ov (S (rI .i64) v_37))], [cvar gb_5 (rP (rW (MPV go_6)) (rP (rI .i64) (rP (rI .i64) r0))) ((), ((4 : Int), (lost_9, ()))), cmap go_6 (A r_net_pair) (S (rL (rL (rU UInt8)))) (some x_8), cown go_12 r_api_Flight x_10 0 gc_13, cvar gb_38 (rP (rI .i64) (rP (rI .i64) (rP (rW (HDR none 0 0 0)) r0))) ((0 : Int), ((0 : Int), ((), ())))], []⟩ (.cons rfl (.cons rfl (.cons rfl (.cons rfl (.cons rfl (.cons rfl (.cons rfl .nil))))))) rfl rfl ?_
                       refine jc (op_storeA (j := 3) tA36 (.tmp rfl) (.tmp rfl) rfl (UpdR.self (by rfl)) rfl) ?_
                       refine jc (op_assign lb (.tmp rfl)) ?_
                       refine JL.nil ?_
                       refine JQ.then ?_
                       refine JC.seq ?_
                       refine JC.seq ?_
                       refine JC.region ?_
                       refine jc (op_move lb (.tmp rfl)) ?_
                       replace hq11 := bnd_inv hq11
                       obtain ⟨_, hv_u_39, hq11⟩ := hq11
                       refine jx (op_call (js := []) ld cl12 (sim_law12_num k v_37 () hv_u_39) .func (.cons (.tmp rfl) .nil) rfl) (fun _ => ?_)
                       replace hq11 := lt1_inv hq11
                       obtain ⟨v_40, hv_v_40, hq11⟩ := hq11
                       refine jc (op_cmpI lb (.tmp rfl) .cI (congrArg some hv_v_40)) ?_
                       refine JL.nil ?_
                       refine JQ.then ?_
                       replace hq11 := iteB_inv hq11
                       rcases hq11 with ⟨hc15, hq11⟩ | ⟨hc15, hq11⟩
                       · refine JC.condT (.tmp rfl) hc15 ?_
                         refine JC.exit ?_
                         refine JQ.outX ?_
                         refine JQ.outE (by decide) ?_
                         refine JQ.here ?_
                         replace hq11 := Option.some.inj hq11
                         first | subst hq11 | clear hq11
                         exact JQ.joinK (x_8, lost_9, x_10) (go_12, gc_13) rfl (Imp.norm (js := [0, 0, 0]) rfl (.cons rfl (.cons rfl (.cons rfl (.cons rfl .nil)))))
                       · refine JC.condF (.tmp rfl) hc15 ?_
                         refine JC.skip ?_
                         refine JQ.then ?_
                         refine JC.seq ?_
                         refine JC.region ?_
                         refine jc (op_assign lb .cI) ?_
                         refine JL.nil ?_
                         refine JQ.then ?_
                         replace hq11 := bnd_inv hq11
                         obtain ⟨x_55, hx16, hq16⟩ := hq11
                         refine JC.seqJ (γ := Unit) (stj := fun q => ⟨[(0, ov (S (rL r_law12_Act) t_1)), (3, ov (PTR gb_5 0)), (5, ov (HDR go_12 0 (List.length x_10) gc_13)), (6, ov (S (rI .i64) x_11)), (7, ov (PTR gb_38 0)), (9, ov (S (rI .i64) x_55))], [cvar gb_5 (rP (rW (MPV go_6)) (rP (rI .i64) (rP (rI .i64) r0))) ((), ((4 : Int), (lost_9, ()))), cmap go_6 (A r_net_pair) (S (rL (rL (rU UInt8)))) (some x_8), cown go_12 r_api_Flight x_10 0 gc_13, cvar gb_38 r_api_Flight v_36], []⟩) (fun q => ?_) ?_
                         · obtain _ := q
                           refine JC.at ⟨[(0, ov (S (rL r_law12_Act) t_1)), (3, ov (PTR gb_5 0)), (5, ov (HDR go_12 0 (List.length x_10) gc_13)), (6, ov (S (rI .i64) x_11)), (7, ov (PTR gb_38 0)), (9, ov (S (rI .i64) x_55))], [cvar gb_5 (rP (rW (MPV go_6)) (rP (rI .i64) (rP (rI .i64) r0))) ((), ((4 : Int), (lost_9, ()))), cmap go_6 (A r_net_pair) (S (rL (rL (rU UInt8)))) (some x_8), cown go_12 r_api_Flight x_10 0 gc_13, cvar gb_38 r_api_Flight v_36], []⟩ ?_
                           refine JC.seq ?_
                           refine JC.region ?_
                           refine jc (op_move lb (.tmp rfl)) ?_
                           refine jc (op_move lb (.tmp rfl)) ?_
                           replace hq16 := bnd_inv hq16
                           obtain ⟨⟨v_56, v_57, x_58⟩, hv_v_56, hq16⟩ := hq16
                           refine jx (op_call (js := [0, 0]) ld cl15 (sim_net_Net_Take'2 k x_55 (4 : Int) lost_9 x_8 gb_5 go_6 (v_56, v_57, x_58) hv_v_56) .func (.cons (.tmp rfl) (.cons (.tmp rfl) .nil)) rfl) (fun _ => ?_)
                           refine jc (op_move lb (.tmp rfl)) ?_
                           refine jc (op_extract (i := 0) lb (.tmp rfl) rfl) ?_
                           refine jc (op_extract (i := 1) lb (.tmp rfl) rfl) ?_
                           refine jx (op_alloc lb tZ36 zr36) (fun q => ?_)
                           obtain ⟨gb_59, hqq⟩ : ∃ z, z = q := ⟨_, rfl⟩
                           subst hqq
                           refine jc (op_storeA (j := 4) tA36 (.tmp rfl) (.tmp rfl) rfl (UpdR.self (by rfl)) rfl) ?_
                           refine JL.sub ⟨[(0, ov (S (rL r_law12_Act) t_1)), (3, ov (PTR gb_5 0)), (5, ov (HDR go_12 0 (List.length x_10) gc_13)), (6, ov (S (rI .i64) x_11)), (7, ov (PTR gb_38 0)), (13, ov (PTR gb_59 0)), (140, ov (S (rI .i64) v_57))], [cvar gb_5 (rP (rW (MPV go_6)) (rP (rI .i64) (rP (rI .i64) r0))) ((), ((4 : Int), (lost_9, ()))), cmap go_6 (A r_net_pair) (S (rL (rL (rU UInt8)))) (some (x_58)), cown go_12 r_api_Flight x_10 0 gc_13, cvar gb_38 r_api_Flight v_36, cvar gb_59 r_api_Flight v_56], []⟩ (.cons rfl (.cons rfl (.cons rfl (.cons rfl (.cons rfl (.cons rfl (.cons rfl .nil))))))) rfl rfl ?_
                           refine jc (op_assign lb (.tmp rfl)) ?_
                           refine JL.nil ?_
                           refine JQ.then ?_
                           refine JC.seq ?_
                           refine JC.region ?_
                           refine jc (op_assign lb .cI) ?_
                           refine JL.nil ?_
                           refine JQ.then ?_
                           replace hq16 := bnd_inv hq16
                           obtain ⟨x_70, hx26, hq26⟩ := hq16
                           refine JC.seqJ (γ := Unit) (stj := fun q => ⟨[(0, ov (S (rL r_law12_Act) t_1)), (3, ov (PTR gb_5 0)), (5, ov (HDR go_12 0 (List.length x_10) gc_13)), (6, ov (S (rI .i64) x_11)), (7, ov (PTR gb_38 0)), (13, ov (PTR gb_59 0)), (14, ov (S (rI .i64) v_57)), (15, ov (S (rI .i64) x_70))], [cvar gb_5 (rP (rW (MPV go_6)) (rP (rI .i64) (rP (rI .i64) r0))) ((), ((4 : Int), (lost_9, ()))), cmap go_6 (A r_net_pair) (S (rL (rL (rU UInt8)))) (some (x_58)), cown go_12 r_api_Flight x_10 0 gc_13, cvar gb_38 r_api_Flight v_36, cvar gb_59 r_api_Flight v_56], []⟩) (fun q => ?_) ?_
                           · obtain _ := q
                             refine JC.at ⟨[(0, ov (S (rL r_law12_Act) t_1)), (3, ov (PTR gb_5 0)), (5, ov (HDR go_12 0 (List.length x_10) gc_13)), (6, ov (S (rI .i64) x_11)), (7, ov (PTR gb_38 0)), (13, ov (PTR gb_59 0)), (14, ov (S (rI .i64) v_57)), (15, ov (S (rI .i64) x_70))], [cvar gb_5 (rP (rW (MPV go_6)) (rP (rI .i64) (rP (rI .i64) r0))) ((), ((4 : Int), (lost_9, ()))), cmap go_6 (A r_net_pair) (S (rL (rL (rU UInt8)))) (some (x_58)), cown go_12 r_api_Flight x_10 0 gc_13, cvar gb_38 r_api_Flight v_36, cvar gb_59 r_api_Flight v_56], []⟩ ?_
                             refine JC.seq ?_
                             replace hq26 := bnd_inv hq26
                             obtain ⟨x_79, hx34, hq34⟩ := hq26
                             refine JC.seqJ (γ := Unit) (stj := fun q => ⟨[(0, ov (S (rL r_law12_Act) t_1)), (3, ov (PTR gb_5 0)), (5, ov (HDR go_12 0 (List.length x_10) gc_13)), (6, ov (S (rI .i64) x_11)), (15, ov (S (rI .i64) x_70)), (201, ov (S rB x_79))], [cvar gb_5 (rP (rW (MPV go_6)) (rP (rI .i64) (rP (rI .i64) r0))) ((), ((4 : Int), (lost_9, ()))), cmap go_6 (A r_net_pair) (S (rL (rL (rU UInt8)))) (some (x_58)), cown go_12 r_api_Flight x_10 0 gc_13], []⟩) (fun q => ?_) ?_
                             · obtain _ := q
                               refine JC.at ⟨[(0, ov (S (rL r_law12_Act) t_1)), (3, ov (PTR gb_5 0)), (5, ov (HDR go_12 0 (List.length x_10) gc_13)), (6, ov (S (rI .i64) x_11)), (15, ov (S (rI .i64) x_70)), (201, ov (S rB x_79))], [cvar gb_5 (rP (rW (MPV go_6)) (rP (rI .i64) (rP (rI .i64) r0))) ((), ((4 : Int), (lost_9, ()))), cmap go_6 (A r_net_pair) (S (rL (rL (rU UInt8)))) (some (x_58)), cown go_12 r_api_Flight x_10 0 gc_13], []⟩ ?_
                               replace hq34 := iteB_inv hq34
                               rcases hq34 with ⟨hc44, hq34⟩ | ⟨hc44, hq34⟩
                               · refine JC.condT (.tmp rfl) hc44 ?_
                                 refine JC.seq ?_
                                 refine JC.region ?_
                                 refine jc (op_assign lb .cB) ?_
                                 refine JL.nil ?_
                                 refine JQ.then ?_
                                 refine JC.ret ?_
                                 refine JQ.outR ?_
                                 refine JQ.outRB ?_
                                 refine JQ.outRB ?_
                                 replace hq34 := Option.some.inj hq34
                                 first | subst hq34 | clear hq34
                                 dsimp only at hq8
                                 refine JQ.outR ?_
                                 replace hq8 := Option.some.inj hq8
                                 first | subst hq8 | clear hq8
                                 have ht := hr _ rfl
                                 clear hr
                                 first | subst ht | clear ht
                                 dsimp only at hq6
                                 refine JQ.outR ?_
                                 refine JQ.outRB ?_
                                 replace hq6 := Option.some.inj hq6
                                 first | subst hq6 | clear hq6
                                 dsimp only at hq5
                                 refine JQ.outR ?_
                                 replace hq5 := Option.some.inj hq5
                                 subst hq5
                                 exact JQ.done (js := []) (ss := [.val (S rB false)]) () (.inl rfl) (.nil rfl) rfl (.cons (.tmp rfl) .nil) rfl rfl rfl
                               · refine JC.condF (.tmp rfl) hc44 ?_
                                 refine JC.skip ?_
                                 refine JQ.then ?_
                                 refine JC.pre (Imp.frz (j := 2) rfl (ImpK.slotH (s := 5) rfl ImpK.refl)) ?_
                                 replace hq34 := bnd_inv hq34
                                 obtain ⟨v_80, hv_v_80, hq34⟩ := hq34
                                 replace hq34 := bnd_inv hq34
                                 obtain ⟨v_81, hv_v_81, hq34⟩ := hq34
                                 replace hq34 := lt1_inv hq34
                                 obtain ⟨v_84, hv_v_84, hq34⟩ := hq34
                                 replace hq34 := bnd_inv hq34
                                 obtain ⟨v_85, hv_v_85, hq34⟩ := hq34
                                 replace hq34 := bnd_inv hq34
                                 obtain ⟨x_86, hv_x_86, hq34⟩ := hq34
                                 refine JC.anyE (kl := [5]) (kk := 9) (base := [(0, ov (S (rL r_law12_Act) t_1)), (3, ov (PTR gb_5 0)), (5, ov (HL go_12 r_api_Flight x_10 gc_13)), (6, ov (S (rI .i64) x_11)), (15, ov (S (rI .i64) x_70))])
                                     (fs := fun γ => [⟨some 202, ov (HL go_12 r_api_Flight x_10 gc_13)⟩, ⟨some 203, ov (S (rI .i64) x_70)⟩, ⟨some 204, ov (S (rL r_api_Flight) v_80)⟩, ⟨some 205, ov (HDR (deo (γ 3 0)) 0 (List.length v_81) (γ 3 1))⟩, ⟨some 206, ov (HL go_12 r_api_Flight x_10 gc_13)⟩, ⟨some 207, ov (S (rI .i64) x_70)⟩, ⟨some 208, ov (S (rI .i64) v_84)⟩, ⟨some 209, ov (S (rL r_api_Flight) v_85)⟩, ⟨some 210, ov (HDR (deo (γ 8 0)) 0 (List.length x_86) (γ 8 1))⟩, ⟨some 5, ov (HDR (deo (γ 8 0)) 0 (List.length x_86) (γ 8 1))⟩])
                                     (rs := fun γ => [⟨cvar gb_5 (rP (rW (MPV go_6)) (rP (rI .i64) (rP (rI .i64) r0))) ((), ((4 : Int), (lost_9, ()))), none, none, []⟩, ⟨cmap go_6 (A r_net_pair) (S (rL (rL (rU UInt8)))) (some (x_58)), none, none, []⟩, ⟨cown go_12 r_api_Flight x_10 (List.length x_10) gc_13, none, none, []⟩, ⟨cown (deo (γ 3 0)) r_api_Flight v_81 0 (γ 3 1), (some 3), (some 8), []⟩, ⟨cown (deo (γ 8 0)) r_api_Flight x_86 0 (γ 8 1), (some 8), none, []⟩])
                                     (ds := [202, 203, 204, 205, 206, 207, 208, 209, 210, 5]) (bs := [0, 3, 5, 6, 15]) (afts := [[], [], [], [3, 8, 9], [], [], [], [], [8, 9], []]) (js := [0, 0, 0]) mixed (.cons rfl (.cons rfl (.cons rfl (.cons rfl (.cons rfl .nil))))) (fun _ => rfl)
                                     (by
      refine dS 1 (fun γ ρ B hb hd => op_move lb (.tmp (hb 5 _ rfl))) ?_
      refine dS 2 (fun γ ρ B hb hd => op_move lb (.tmp (hb 15 _ rfl))) ?_
      refine dS 3 (fun γ ρ B hb hd => op_sliceLg lb tu30 tz36 (HasO.wk (.tmp (hl hd 0 202 rfl)) wkHL) .none (.some (.tmp (hl hd 1 203 rfl))) hv_v_80) ?_
      refine DSteps.cons (j := 4) rfl (fun _ => rfl) (.runX (fun _ _ => rfl) (fun γ ρ B hb hd => ⟨.none, OpX.ghost (γ := Option Nat × Nat) (st' := fun q => setO ⟨ρ, (cown q.1 r_api_Flight v_81 0 q.2) :: B, _⟩ (some 205) (ov (HDR q.1 0 (List.length v_81) q.2))) (fun q c => bif Nat.beq c 0 then eno q.1 else q.2) (OpX.front (op_appendN (r := r_api_Flight) lb tu30 tu30 rfl tB36 rfl (Nat.lt_of_lt_of_le Nat.zero_lt_one (Nat.le_of_ble_eq_true rfl)) (Nat.lt_of_lt_of_le Nat.zero_lt_one (Nat.le_of_ble_eq_true rfl)) HasO.nilH (fun _ _ _ h => Src.list h (.tmp (hl hd 2 204 rfl))) (apL_some hv_v_81))) (fun q => by obtain ⟨q0, q1⟩ := q; cases q0 <;> exact Imp.refl)⟩) (fun _ _ => rfl) (fun _ _ => rfl)) ?_
      refine dS 5 (fun γ ρ B hb hd => op_move lb (.tmp (hb 5 _ rfl))) ?_
      refine dS 6 (fun γ ρ B hb hd => op_move lb (.tmp (hb 15 _ rfl))) ?_
      refine dS 7 (fun γ ρ B hb hd => op_arI lb (.tmp (hl hd 5 207 rfl)) .cI (congrArg some hv_v_84)) ?_
      refine dS 8 (fun γ ρ B hb hd => op_sliceLg lb tu30 tz36 (HasO.wk (.tmp (hl hd 4 206 rfl)) wkHL) (.some (.tmp (hl hd 6 208 rfl))) .none hv_v_85) ?_
      refine DSteps.cons (j := 9) rfl (fun _ => rfl) (.runX (fun _ _ => rfl) (fun γ ρ B hb hd => ⟨.none, OpX.ghost (γ := Option Nat × Nat) (st' := fun q => setO ⟨ρ, (cown q.1 r_api_Flight x_86 0 q.2) :: B, _⟩ (some 210) (ov (HDR q.1 0 (List.length x_86) q.2))) (fun q c => bif Nat.beq c 0 then eno q.1 else q.2) (op_appendL (j := 0) lb tu30 tu30 rfl tB36 rfl (Nat.lt_of_lt_of_le Nat.zero_lt_one (Nat.le_of_ble_eq_true rfl)) (Nat.lt_of_lt_of_le Nat.zero_lt_one (Nat.le_of_ble_eq_true rfl))  rfl (.tmp (hl hd 3 205 rfl)) (.tmp (hl hd 7 209 rfl)) hv_x_86) (fun q => by obtain ⟨q0, q1⟩ := q; cases q0 <;> exact Imp.refl)⟩) (fun _ _ => rfl) (fun _ _ => rfl)) ?_
      refine dS 10 (fun γ ρ B hb hd => op_assign lb (.tmp (hl hd 8 210 rfl))) ?_
      exact DSteps.nil)
                                     (by decide +kernel) (fun _ => rfl) rfl (fun _ => rfl) (fun _ => rfl) rfl (by decide) (by decide) (by decide +kernel) (fun _ d h => by simp at h; subst h; exact ⟨_, rfl, rfl⟩)
                                     (ρ' := fun γ => [(0, ov (S (rL r_law12_Act) t_1)), (3, ov (PTR gb_5 0)), (5, ov (HDR (deo (γ 8 0)) 0 (List.length x_86) (γ 8 1))), (6, ov (S (rI .i64) x_11))])
                                     (X' := fun γ => [cvar gb_5 (rP (rW (MPV go_6)) (rP (rI .i64) (rP (rI .i64) r0))) ((), ((4 : Int), (lost_9, ()))), cmap go_6 (A r_net_pair) (S (rL (rL (rU UInt8)))) (some (x_58)), cown go_12 r_api_Flight x_10 (List.length x_10) gc_13, cown (deo (γ 8 0)) r_api_Flight x_86 0 (γ 8 1)])
                                     (fun γ ρ hb hd => (.cons (hb 0 _ rfl (by decide)) (.cons (hb 3 _ rfl (by decide)) (.cons (hdq hd 9 5 rfl) (.cons (hb 6 _ rfl (by decide)) .nil))))) (fun _ => rfl) (fun γ => ?_)
                                 generalize (deo (γ 3 0)) = go_82
                                 generalize (γ 3 1) = gc_83
                                 generalize (deo (γ 8 0)) = go_87
                                 generalize (γ 8 1) = gc_88
                                 clear γ
                                 refine JQ.at ⟨[(0, ov (S (rL r_law12_Act) t_1)), (3, ov (PTR gb_5 0)), (5, ov (HDR go_87 0 (List.length x_86) gc_88)), (6, ov (S (rI .i64) x_11))], [cvar gb_5 (rP (rW (MPV go_6)) (rP (rI .i64) (rP (rI .i64) r0))) ((), ((4 : Int), (lost_9, ()))), cmap go_6 (A r_net_pair) (S (rL (rL (rU UInt8)))) (some (x_58)), cown go_12 r_api_Flight x_10 (List.length x_10) gc_13, cown go_87 r_api_Flight x_86 0 gc_88], []⟩ ?_
                                 refine JQ.outNB ?_
                                 refine JQ.outNB ?_
                                 replace hq34 := Option.some.inj hq34
                                 first | subst hq34 | clear hq34
                                 exact JQ.joinK ((x_58), lost_9, x_86) (go_87, gc_88) rfl (Imp.norm (js := [0, 0, 1]) rfl (.cons rfl (.cons rfl (.cons rfl (.cons rfl .nil)))))
                             · replace hx34 := bnd_inv hx34
                               obtain ⟨_, hv_u_71, hx34⟩ := hx34
                               replace hx34 := lt1_inv hx34
                               obtain ⟨v_72, hv_v_72, hx34⟩ := hx34
                               replace hx34 := iteB_inv hx34
                               rcases hx34 with ⟨hc36, hx34⟩ | ⟨hc36, hx34⟩
                               · refine JC.anyE (kl := []) (kk := 0) (base := [(0, ov (S (rL r_law12_Act) t_1)), (3, ov (PTR gb_5 0)), (5, ov (HDR go_12 0 (List.length x_10) gc_13)), (6, ov (S (rI .i64) x_11)), (14, ov (S (rI .i64) v_57)), (15, ov (S (rI .i64) x_70))])
                                     (fs := fun γ => [⟨some 167, ov (S (rI .i64) v_57)⟩, ⟨some 168, ov (S (rI .i64) v_57)⟩, ⟨some 169, ov (S rB v_72)⟩, ⟨some 170, ov (S rB v_72)⟩, ⟨some 171, .one .und⟩, ⟨some 172, .one .und⟩, ⟨some 173, .one .und⟩, ⟨some 174, .one .und⟩, ⟨some 175, .one .und⟩, ⟨some 176, ov (S rB true)⟩, ⟨some 177, ov (S rB true)⟩, ⟨some 178, .one .und⟩, ⟨some 179, .one .und⟩, ⟨some 180, .one .und⟩, ⟨some 181, .one .und⟩, ⟨some 182, .one .und⟩, ⟨some 183, ov (S rB true)⟩, ⟨some 184, ov (S rB true)⟩, ⟨some 185, .one .und⟩, ⟨some 186, .one .und⟩, ⟨some 187, .one .und⟩, ⟨some 188, .one .und⟩, ⟨some 189, ov (S rB true)⟩, ⟨some 190, ov (S rB true)⟩, ⟨some 191, .one .und⟩, ⟨some 192, .one .und⟩, ⟨some 193, .one .und⟩, ⟨some 194, .one .und⟩, ⟨some 195, .one .und⟩, ⟨some 196, .one .und⟩, ⟨some 197, .one .und⟩, ⟨some 198, .one .und⟩, ⟨some 199, .one .und⟩, ⟨some 200, .one .und⟩, ⟨some 201, ov (S rB true)⟩])
                                     (rs := fun γ => [⟨cvar gb_5 (rP (rW (MPV go_6)) (rP (rI .i64) (rP (rI .i64) r0))) ((), ((4 : Int), (lost_9, ()))), none, none, []⟩, ⟨cmap go_6 (A r_net_pair) (S (rL (rL (rU UInt8)))) (some (x_58)), none, none, []⟩, ⟨cown go_12 r_api_Flight x_10 0 gc_13, none, none, []⟩, ⟨cvar gb_38 r_api_Flight v_36, none, none, []⟩, ⟨cvar gb_59 r_api_Flight v_56, none, none, []⟩])
                                     (ds := [167, 168, 169, 170, 171, 172, 173, 174, 175, 176, 177, 178, 179, 180, 181, 182, 183, 184, 185, 186, 187, 188, 189, 190, 191, 192, 193, 194, 195, 196, 197, 198, 199, 200, 201]) (bs := [0, 3, 5, 6, 14, 15]) (afts := [[], [], [], [], [], [], [], [], [], [], [], [], [], [], [], [], [], [], [], [], [], [], [], [], [], [], [], [], [], [], [], [], [], [], []]) (js := [0, 0, 0, 0, 0]) mixed (.cons rfl (.cons rfl (.cons rfl (.cons rfl (.cons rfl (.cons rfl .nil)))))) (fun _ => rfl)
                                     (by
      refine dS 1 (fun γ ρ B hb hd => op_move lb (.tmp (hb 14 _ rfl))) ?_
      refine dS 2 (fun γ ρ B hb hd => (op_call (js := []) ld cl12 (sim_law12_num k v_57 () hv_u_71) .func (.cons (.tmp (hl hd 0 167 rfl)) .nil) rfl).post (fun _ => Imp.refl)) ?_
      refine dS 3 (fun γ ρ B hb hd => op_cmpI lb (.tmp (hl hd 1 168 rfl)) .cI (congrArg some hv_v_72)) ?_
      refine dS 4 (fun γ ρ B hb hd => op_move lb (.tmp (hl hd 2 169 rfl))) ?_
      refine DSteps.cons (j := 5) rfl (fun _ => rfl) (.skip (fun γ ρ B hb hd => ⟨.no rfl (ltB rfl) (hl hd 3 170 rfl) hc36, rfl, rfl, rfl, fun d h => by cases h; exact ltB rfl⟩)) ?_
      refine DSteps.cons (j := 6) rfl (fun _ => rfl) (.skip (fun γ ρ B hb hd => ⟨.no rfl (ltB rfl) (hl hd 3 170 rfl) hc36, rfl, rfl, rfl, fun d h => by cases h; exact ltB rfl⟩)) ?_
      refine DSteps.cons (j := 7) rfl (fun _ => rfl) (.skip (fun γ ρ B hb hd => ⟨.no rfl (ltB rfl) (hl hd 3 170 rfl) hc36, rfl, rfl, rfl, fun d h => by cases h; exact ltB rfl⟩)) ?_
      refine DSteps.cons (j := 8) rfl (fun _ => rfl) (.skip (fun γ ρ B hb hd => ⟨.no rfl (ltB rfl) (hl hd 3 170 rfl) hc36, rfl, rfl, rfl, fun d h => by cases h; exact ltB rfl⟩)) ?_
      refine DSteps.cons (j := 9) rfl (fun _ => rfl) (.skip (fun γ ρ B hb hd => ⟨.no rfl (ltB rfl) (hl hd 3 170 rfl) hc36, rfl, rfl, rfl, fun d h => by cases h; exact ltB rfl⟩)) ?_
      refine dS 10 (fun γ ρ B hb hd => op_pickT lb (.tmp (hl hd 3 170 rfl)) hc36 .cB) ?_
      refine dS 11 (fun γ ρ B hb hd => op_move lb (.tmp (hl hd 9 176 rfl))) ?_
      refine DSteps.cons (j := 12) rfl (fun _ => rfl) (.skip (fun γ ρ B hb hd => ⟨.no rfl (ltB rfl) (hl hd 10 177 rfl) rfl, rfl, rfl, rfl, fun d h => by cases h; exact ltB rfl⟩)) ?_
      refine DSteps.cons (j := 13) rfl (fun _ => rfl) (.skip (fun γ ρ B hb hd => ⟨.no rfl (ltB rfl) (hl hd 10 177 rfl) rfl, rfl, rfl, rfl, fun d h => by cases h; exact ltB rfl⟩)) ?_
      refine DSteps.cons (j := 14) rfl (fun _ => rfl) (.skip (fun γ ρ B hb hd => ⟨.no rfl (ltB rfl) (hl hd 10 177 rfl) rfl, rfl, rfl, rfl, fun d h => by cases h; exact ltB rfl⟩)) ?_
      refine DSteps.cons (j := 15) rfl (fun _ => rfl) (.skip (fun γ ρ B hb hd => ⟨.no rfl (ltB rfl) (hl hd 10 177 rfl) rfl, rfl, rfl, rfl, fun d h => by cases h; exact ltB rfl⟩)) ?_
      refine DSteps.cons (j := 16) rfl (fun _ => rfl) (.skip (fun γ ρ B hb hd => ⟨.no rfl (ltB rfl) (hl hd 10 177 rfl) rfl, rfl, rfl, rfl, fun d h => by cases h; exact ltB rfl⟩)) ?_
      refine dS 17 (fun γ ρ B hb hd => op_pickT lb (.tmp (hl hd 10 177 rfl)) rfl .cB) ?_
      refine dS 18 (fun γ ρ B hb hd => op_move lb (.tmp (hl hd 16 183 rfl))) ?_
      refine DSteps.cons (j := 19) rfl (fun _ => rfl) (.skip (fun γ ρ B hb hd => ⟨.no rfl (ltB rfl) (hl hd 17 184 rfl) rfl, rfl, rfl, rfl, fun d h => by cases h; exact ltB rfl⟩)) ?_
      refine DSteps.cons (j := 20) rfl (fun _ => rfl) (.skip (fun γ ρ B hb hd => ⟨.no rfl (ltB rfl) (hl hd 17 184 rfl) rfl, rfl, rfl, rfl, fun d h => by cases h; exact ltB rfl⟩)) ?_
      refine DSteps.cons (j := 21) rfl (fun _ => rfl) (.skip (fun γ ρ B hb hd => ⟨.no rfl (ltB rfl) (hl hd 17 184 rfl) rfl, rfl, rfl, rfl, fun d h => by cases h; exact ltB rfl⟩)) ?_
      refine DSteps.cons (j := 22) rfl (fun _ => rfl) (.skip (fun γ ρ B hb hd => ⟨.no rfl (ltB rfl) (hl hd 17 184 rfl) rfl, rfl, rfl, rfl, fun d h => by cases h; exact ltB rfl⟩)) ?_
      refine dS 23 (fun γ ρ B hb hd => op_pickT lb (.tmp (hl hd 17 184 rfl)) rfl .cB) ?_
      refine dS 24 (fun γ ρ B hb hd => op_move lb (.tmp (hl hd 22 189 rfl))) ?_
      refine DSteps.cons (j := 25) rfl (fun _ => rfl) (.skip (fun γ ρ B hb hd => ⟨.no rfl (ltB rfl) (hl hd 23 190 rfl) rfl, rfl, rfl, rfl, fun d h => by cases h; exact ltB rfl⟩)) ?_
      refine DSteps.cons (j := 26) rfl (fun _ => rfl) (.skip (fun γ ρ B hb hd => ⟨.no rfl (ltB rfl) (hl hd 23 190 rfl) rfl, rfl, rfl, rfl, fun d h => by cases h; exact ltB rfl⟩)) ?_
      refine DSteps.cons (j := 27) rfl (fun _ => rfl) (.skip (fun γ ρ B hb hd => ⟨.no rfl (ltB rfl) (hl hd 23 190 rfl) rfl, rfl, rfl, rfl, fun d h => by cases h; exact ltB rfl⟩)) ?_
      refine DSteps.cons (j := 28) rfl (fun _ => rfl) (.skip (fun γ ρ B hb hd => ⟨.no rfl (ltB rfl) (hl hd 23 190 rfl) rfl, rfl, rfl, rfl, fun d h => by cases h; exact ltB rfl⟩)) ?_
      refine DSteps.cons (j := 29) rfl (fun _ => rfl) (.skip (fun γ ρ B hb hd => ⟨.no rfl (ltB rfl) (hl hd 23 190 rfl) rfl, rfl, rfl, rfl, fun d h => by cases h; exact ltB rfl⟩)) ?_
      refine DSteps.cons (j := 30) rfl (fun _ => rfl) (.skip (fun γ ρ B hb hd => ⟨.no rfl (ltB rfl) (hl hd 23 190 rfl) rfl, rfl, rfl, rfl, fun d h => by cases h; exact ltB rfl⟩)) ?_
      refine DSteps.cons (j := 31) rfl (fun _ => rfl) (.skip (fun γ ρ B hb hd => ⟨.no rfl (ltB rfl) (hl hd 23 190 rfl) rfl, rfl, rfl, rfl, fun d h => by cases h; exact ltB rfl⟩)) ?_
      refine DSteps.cons (j := 32) rfl (fun _ => rfl) (.skip (fun γ ρ B hb hd => ⟨.no rfl (ltB rfl) (hl hd 23 190 rfl) rfl, rfl, rfl, rfl, fun d h => by cases h; exact ltB rfl⟩)) ?_
      refine DSteps.cons (j := 33) rfl (fun _ => rfl) (.skip (fun γ ρ B hb hd => ⟨.no rfl (ltB rfl) (hl hd 23 190 rfl) rfl, rfl, rfl, rfl, fun d h => by cases h; exact ltB rfl⟩)) ?_
      refine DSteps.cons (j := 34) rfl (fun _ => rfl) (.skip (fun γ ρ B hb hd => ⟨.no rfl (ltB rfl) (hl hd 23 190 rfl) rfl, rfl, rfl, rfl, fun d h => by cases h; exact ltB rfl⟩)) ?_
      refine dS 35 (fun γ ρ B hb hd => op_pickT lb (.tmp (hl hd 23 190 rfl)) rfl .cB) ?_
      exact DSteps.nil)
                                     (by decide +kernel) (fun _ => rfl) rfl (fun _ => rfl) (fun _ => rfl) rfl (by decide) (by decide) (by decide +kernel) (fun _ d h => by cases h)
                                     (ρ' := fun γ => [(0, ov (S (rL r_law12_Act) t_1)), (3, ov (PTR gb_5 0)), (5, ov (HDR go_12 0 (List.length x_10) gc_13)), (6, ov (S (rI .i64) x_11)), (15, ov (S (rI .i64) x_70)), (201, ov (S rB true))])
                                     (X' := fun γ => [cvar gb_5 (rP (rW (MPV go_6)) (rP (rI .i64) (rP (rI .i64) r0))) ((), ((4 : Int), (lost_9, ()))), cmap go_6 (A r_net_pair) (S (rL (rL (rU UInt8)))) (some (x_58)), cown go_12 r_api_Flight x_10 0 gc_13, cvar gb_38 r_api_Flight v_36, cvar gb_59 r_api_Flight v_56])
                                     (fun γ ρ hb hd => (.cons (hb 0 _ rfl (by decide)) (.cons (hb 3 _ rfl (by decide)) (.cons (hb 5 _ rfl (by decide)) (.cons (hb 6 _ rfl (by decide)) (.cons (hb 15 _ rfl (by decide)) (.cons (hdq hd 34 201 rfl) .nil))))))) (fun _ => rfl) (fun γ => ?_)
                                 refine JQ.at ⟨[(0, ov (S (rL r_law12_Act) t_1)), (3, ov (PTR gb_5 0)), (5, ov (HDR go_12 0 (List.length x_10) gc_13)), (6, ov (S (rI .i64) x_11)), (15, ov (S (rI .i64) x_70)), (201, ov (S rB true))], [cvar gb_5 (rP (rW (MPV go_6)) (rP (rI .i64) (rP (rI .i64) r0))) ((), ((4 : Int), (lost_9, ()))), cmap go_6 (A r_net_pair) (S (rL (rL (rU UInt8)))) (some (x_58)), cown go_12 r_api_Flight x_10 0 gc_13, cvar gb_38 r_api_Flight v_36, cvar gb_59 r_api_Flight v_56], []⟩ ?_
                                 replace hx34 := Option.some.inj hx34
                                 first | subst hx34 | clear hx34
                                 exact JQ.join () (Imp.norm (js := [0, 0, 0]) rfl (.cons rfl (.cons rfl (.cons rfl (.cons rfl (.cons rfl (.cons rfl .nil)))))))
                               · replace hx34 := lt1_inv hx34
                                 obtain ⟨v_73, hv_v_73, hx34⟩ := hx34
                                 replace hx34 := iteB_inv hx34
                                 rcases hx34 with ⟨hc38, hx34⟩ | ⟨hc38, hx34⟩
                                 · refine JC.anyE (kl := []) (kk := 0) (base := [(0, ov (S (rL r_law12_Act) t_1)), (3, ov (PTR gb_5 0)), (5, ov (HDR go_12 0 (List.length x_10) gc_13)), (6, ov (S (rI .i64) x_11)), (7, ov (PTR gb_38 0)), (13, ov (PTR gb_59 0)), (14, ov (S (rI .i64) v_57)), (15, ov (S (rI .i64) x_70))])
                                       (fs := fun γ => [⟨some 167, ov (S (rI .i64) v_57)⟩, ⟨some 168, ov (S (rI .i64) v_57)⟩, ⟨some 169, ov (S rB v_72)⟩, ⟨some 170, ov (S rB v_72)⟩, ⟨some 171, ov (PTR gb_59 (0 + 0))⟩, ⟨some 172, ov (S (rI .i64) v_56.From)⟩, ⟨some 173, ov (PTR gb_38 (0 + 0))⟩, ⟨some 174, ov (S (rI .i64) v_36.From)⟩, ⟨some 175, ov (S rB v_73)⟩, ⟨some 176, ov (S rB v_73)⟩, ⟨some 177, ov (S rB v_73)⟩, ⟨some 178, .one .und⟩, ⟨some 179, .one .und⟩, ⟨some 180, .one .und⟩, ⟨some 181, .one .und⟩, ⟨some 182, .one .und⟩, ⟨some 183, ov (S rB true)⟩, ⟨some 184, ov (S rB true)⟩, ⟨some 185, .one .und⟩, ⟨some 186, .one .und⟩, ⟨some 187, .one .und⟩, ⟨some 188, .one .und⟩, ⟨some 189, ov (S rB true)⟩, ⟨some 190, ov (S rB true)⟩, ⟨some 191, .one .und⟩, ⟨some 192, .one .und⟩, ⟨some 193, .one .und⟩, ⟨some 194, .one .und⟩, ⟨some 195, .one .und⟩, ⟨some 196, .one .und⟩, ⟨some 197, .one .und⟩, ⟨some 198, .one .und⟩, ⟨some 199, .one .und⟩, ⟨some 200, .one .und⟩, ⟨some 201, ov (S rB true)⟩])
                                       (rs := fun γ => [⟨cvar gb_5 (rP (rW (MPV go_6)) (rP (rI .i64) (rP (rI .i64) r0))) ((), ((4 : Int), (lost_9, ()))), none, none, []⟩, ⟨cmap go_6 (A r_net_pair) (S (rL (rL (rU UInt8)))) (some (x_58)), none, none, []⟩, ⟨cown go_12 r_api_Flight x_10 0 gc_13, none, none, []⟩, ⟨cvar gb_38 r_api_Flight v_36, none, none, [7]⟩, ⟨cvar gb_59 r_api_Flight v_56, none, none, [5]⟩])
                                       (ds := [167, 168, 169, 170, 171, 172, 173, 174, 175, 176, 177, 178, 179, 180, 181, 182, 183, 184, 185, 186, 187, 188, 189, 190, 191, 192, 193, 194, 195, 196, 197, 198, 199, 200, 201]) (bs := [0, 3, 5, 6, 7, 13, 14, 15]) (afts := [[], [], [], [], [], [], [], [], [], [], [], [], [], [], [], [], [], [], [], [], [], [], [], [], [], [], [], [], [], [], [], [], [], [], []]) (js := [0, 0, 0, 0, 0]) mixed (.cons rfl (.cons rfl (.cons rfl (.cons rfl (.cons rfl (.cons rfl (.cons rfl (.cons rfl .nil)))))))) (fun _ => rfl)
                                       (by
      refine dS 1 (fun γ ρ B hb hd => op_move lb (.tmp (hb 14 _ rfl))) ?_
      refine dS 2 (fun γ ρ B hb hd => (op_call (js := []) ld cl12 (sim_law12_num k v_57 () hv_u_71) .func (.cons (.tmp (hl hd 0 167 rfl)) .nil) rfl).post (fun _ => Imp.refl)) ?_
      refine dS 3 (fun γ ρ B hb hd => op_cmpI lb (.tmp (hl hd 1 168 rfl)) .cI (congrArg some hv_v_72)) ?_
      refine dS 4 (fun γ ρ B hb hd => op_move lb (.tmp (hl hd 2 169 rfl))) ?_
      refine DSteps.cons (j := 5) rfl (fun _ => rfl) (.run (fun γ ρ B hb hd => ⟨.yes rfl (ltB rfl) (hl hd 3 170 rfl) hc36, OpStep.at ⟨ρ, B, _⟩ (setO ⟨ρ, B, _⟩ _ _) (op_fieldAddr (off := 0) lb tf36_0 (.tmp (hb 13 _ rfl)))⟩)) ?_
      refine DSteps.cons (j := 6) rfl (fun _ => rfl) (.run (fun γ ρ B hb hd => ⟨.yes rfl (ltB rfl) (hl hd 3 170 rfl) hc36, OpStep.at ⟨ρ, (cvar gb_59 r_api_Flight v_56) :: B, _⟩ (setO ⟨ρ, (cvar gb_59 r_api_Flight v_56) :: B, _⟩ _ _) (op_loadS (j := 0) lb tS3 (.tmp (hl hd 4 171 rfl)) rfl (Comp.trans (Comp.self r_api_Flight v_56) (comp_api_Flight_From v_56) (Nat.le_of_ble_eq_true rfl)) rfl rfl)⟩)) ?_
      refine DSteps.cons (j := 7) rfl (fun _ => rfl) (.run (fun γ ρ B hb hd => ⟨.yes rfl (ltB rfl) (hl hd 3 170 rfl) hc36, OpStep.at ⟨ρ, B, _⟩ (setO ⟨ρ, B, _⟩ _ _) (op_fieldAddr (off := 0) lb tf36_0 (.tmp (hb 7 _ rfl)))⟩)) ?_
      refine DSteps.cons (j := 8) rfl (fun _ => rfl) (.run (fun γ ρ B hb hd => ⟨.yes rfl (ltB rfl) (hl hd 3 170 rfl) hc36, OpStep.at ⟨ρ, (cvar gb_38 r_api_Flight v_36) :: B, _⟩ (setO ⟨ρ, (cvar gb_38 r_api_Flight v_36) :: B, _⟩ _ _) (op_loadS (j := 0) lb tS3 (.tmp (hl hd 6 173 rfl)) rfl (Comp.trans (Comp.self r_api_Flight v_36) (comp_api_Flight_From v_36) (Nat.le_of_ble_eq_true rfl)) rfl rfl)⟩)) ?_
      refine DSteps.cons (j := 9) rfl (fun _ => rfl) (.run (fun γ ρ B hb hd => ⟨.yes rfl (ltB rfl) (hl hd 3 170 rfl) hc36, OpStep.at ⟨ρ, B, _⟩ (setO ⟨ρ, B, _⟩ _ _) (op_cmpI lb (.tmp (hl hd 5 172 rfl)) (.tmp (hl hd 7 174 rfl)) (congrArg some hv_v_73))⟩)) ?_
      refine dS 10 (fun γ ρ B hb hd => op_pickF lb (.tmp (hl hd 3 170 rfl)) hc36 (.tmp (hl hd 8 175 rfl))) ?_
      refine dS 11 (fun γ ρ B hb hd => op_move lb (.tmp (hl hd 9 176 rfl))) ?_
      refine DSteps.cons (j := 12) rfl (fun _ => rfl) (.skip (fun γ ρ B hb hd => ⟨.no rfl (ltB rfl) (hl hd 10 177 rfl) hc38, rfl, rfl, rfl, fun d h => by cases h; exact ltB rfl⟩)) ?_
      refine DSteps.cons (j := 13) rfl (fun _ => rfl) (.skip (fun γ ρ B hb hd => ⟨.no rfl (ltB rfl) (hl hd 10 177 rfl) hc38, rfl, rfl, rfl, fun d h => by cases h; exact ltB rfl⟩)) ?_
      refine DSteps.cons (j := 14) rfl (fun _ => rfl) (.skip (fun γ ρ B hb hd => ⟨.no rfl (ltB rfl) (hl hd 10 177 rfl) hc38, rfl, rfl, rfl, fun d h => by cases h; exact ltB rfl⟩)) ?_
      refine DSteps.cons (j := 15) rfl (fun _ => rfl) (.skip (fun γ ρ B hb hd => ⟨.no rfl (ltB rfl) (hl hd 10 177 rfl) hc38, rfl, rfl, rfl, fun d h => by cases h; exact ltB rfl⟩)) ?_
      refine DSteps.cons (j := 16) rfl (fun _ => rfl) (.skip (fun γ ρ B hb hd => ⟨.no rfl (ltB rfl) (hl hd 10 177 rfl) hc38, rfl, rfl, rfl, fun d h => by cases h; exact ltB rfl⟩)) ?_
      refine dS 17 (fun γ ρ B hb hd => op_pickT lb (.tmp (hl hd 10 177 rfl)) hc38 .cB) ?_
      refine dS 18 (fun γ ρ B hb hd => op_move lb (.tmp (hl hd 16 183 rfl))) ?_
      refine DSteps.cons (j := 19) rfl (fun _ => rfl) (.skip (fun γ ρ B hb hd => ⟨.no rfl (ltB rfl) (hl hd 17 184 rfl) rfl, rfl, rfl, rfl, fun d h => by cases h; exact ltB rfl⟩)) ?_
      refine DSteps.cons (j := 20) rfl (fun _ => rfl) (.skip (fun γ ρ B hb hd => ⟨.no rfl (ltB rfl) (hl hd 17 184 rfl) rfl, rfl, rfl, rfl, fun d h => by cases h; exact ltB rfl⟩)) ?_
      refine DSteps.cons (j := 21) rfl (fun _ => rfl) (.skip (fun γ ρ B hb hd => ⟨.no rfl (ltB rfl) (hl hd 17 184 rfl) rfl, rfl, rfl, rfl, fun d h => by cases h; exact ltB rfl⟩)) ?_
      refine DSteps.cons (j := 22) rfl (fun _ => rfl) (.skip (fun γ ρ B hb hd => ⟨.no rfl (ltB rfl) (hl hd 17 184 rfl) rfl, rfl, rfl, rfl, fun d h => by cases h; exact ltB rfl⟩)) ?_
      refine dS 23 (fun γ ρ B hb hd => op_pickT lb (.tmp (hl hd 17 184 rfl)) rfl .cB) ?_
      refine dS 24 (fun γ ρ B hb hd => op_move lb (.tmp (hl hd 22 189 rfl))) ?_
      refine DSteps.cons (j := 25) rfl (fun _ => rfl) (.skip (fun γ ρ B hb hd => ⟨.no rfl (ltB rfl) (hl hd 23 190 rfl) rfl, rfl, rfl, rfl, fun d h => by cases h; exact ltB rfl⟩)) ?_
      refine DSteps.cons (j := 26) rfl (fun _ => rfl) (.skip (fun γ ρ B hb hd => ⟨.no rfl (ltB rfl) (hl hd 23 190 rfl) rfl, rfl, rfl, rfl, fun d h => by cases h; exact ltB rfl⟩)) ?_
      refine DSteps.cons (j := 27) rfl (fun _ => rfl) (.skip (fun γ ρ B hb hd => ⟨.no rfl (ltB rfl) (hl hd 23 190 rfl) rfl, rfl, rfl, rfl, fun d h => by cases h; exact ltB rfl⟩)) ?_
      refine DSteps.cons (j := 28) rfl (fun _ => rfl) (.skip (fun γ ρ B hb hd => ⟨.no rfl (ltB rfl) (hl hd 23 190 rfl) rfl, rfl, rfl, rfl, fun d h => by cases h; exact ltB rfl⟩)) ?_
      refine DSteps.cons (j := 29) rfl (fun _ => rfl) (.skip (fun γ ρ B hb hd => ⟨.no rfl (ltB rfl) (hl hd 23 190 rfl) rfl, rfl, rfl, rfl, fun d h => by cases h; exact ltB rfl⟩)) ?_
      refine DSteps.cons (j := 30) rfl (fun _ => rfl) (.skip (fun γ ρ B hb hd => ⟨.no rfl (ltB rfl) (hl hd 23 190 rfl) rfl, rfl, rfl, rfl, fun d h => by cases h; exact ltB rfl⟩)) ?_
      refine DSteps.cons (j := 31) rfl (fun _ => rfl) (.skip (fun γ ρ B hb hd => ⟨.no rfl (ltB rfl) (hl hd 23 190 rfl) rfl, rfl, rfl, rfl, fun d h => by cases h; exact ltB rfl⟩)) ?_
      refine DSteps.cons (j := 32) rfl (fun _ => rfl) (.skip (fun γ ρ B hb hd => ⟨.no rfl (ltB rfl) (hl hd 23 190 rfl) rfl, rfl, rfl, rfl, fun d h => by cases h; exact ltB rfl⟩)) ?_
      refine DSteps.cons (j := 33) rfl (fun _ => rfl) (.skip (fun γ ρ B hb hd => ⟨.no rfl (ltB rfl) (hl hd 23 190 rfl) rfl, rfl, rfl, rfl, fun d h => by cases h; exact ltB rfl⟩)) ?_
      refine DSteps.cons (j := 34) rfl (fun _ => rfl) (.skip (fun γ ρ B hb hd => ⟨.no rfl (ltB rfl) (hl hd 23 190 rfl) rfl, rfl, rfl, rfl, fun d h => by cases h; exact ltB rfl⟩)) ?_
      refine dS 35 (fun γ ρ B hb hd => op_pickT lb (.tmp (hl hd 23 190 rfl)) rfl .cB) ?_
      exact DSteps.nil)
                                       (by decide +kernel) (fun _ => rfl) rfl (fun _ => rfl) (fun _ => rfl) rfl (by decide) (by decide) (by decide +kernel) (fun _ d h => by cases h)
                                       (ρ' := fun γ => [(0, ov (S (rL r_law12_Act) t_1)), (3, ov (PTR gb_5 0)), (5, ov (HDR go_12 0 (List.length x_10) gc_13)), (6, ov (S (rI .i64) x_11)), (15, ov (S (rI .i64) x_70)), (201, ov (S rB true))])
                                       (X' := fun γ => [cvar gb_5 (rP (rW (MPV go_6)) (rP (rI .i64) (rP (rI .i64) r0))) ((), ((4 : Int), (lost_9, ()))), cmap go_6 (A r_net_pair) (S (rL (rL (rU UInt8)))) (some (x_58)), cown go_12 r_api_Flight x_10 0 gc_13, cvar gb_38 r_api_Flight v_36, cvar gb_59 r_api_Flight v_56])
                                       (fun γ ρ hb hd => (.cons (hb 0 _ rfl (by decide)) (.cons (hb 3 _ rfl (by decide)) (.cons (hb 5 _ rfl (by decide)) (.cons (hb 6 _ rfl (by decide)) (.cons (hb 15 _ rfl (by decide)) (.cons (hdq hd 34 201 rfl) .nil))))))) (fun _ => rfl) (fun γ => ?_)
                                   refine JQ.at ⟨[(0, ov (S (rL r_law12_Act) t_1)), (3, ov (PTR gb_5 0)), (5, ov (HDR go_12 0 (List.length x_10) gc_13)), (6, ov (S (rI .i64) x_11)), (15, ov (S (rI .i64) x_70)), (201, ov (S rB true))], [cvar gb_5 (rP (rW (MPV go_6)) (rP (rI .i64) (rP (rI .i64) r0))) ((), ((4 : Int), (lost_9, ()))), cmap go_6 (A r_net_pair) (S (rL (rL (rU UInt8)))) (some (x_58)), cown go_12 r_api_Flight x_10 0 gc_13, cvar gb_38 r_api_Flight v_36, cvar gb_59 r_api_Flight v_56], []⟩ ?_
                                   replace hx34 := Option.some.inj hx34
                                   first | subst hx34 | clear hx34
                                   exact JQ.join () (Imp.norm (js := [0, 0, 0]) rfl (.cons rfl (.cons rfl (.cons rfl (.cons rfl (.cons rfl (.cons rfl .nil)))))))
                                 · replace hx34 := lt1_inv hx34
                                   obtain ⟨v_74, hv_v_74, hx34⟩ := hx34
                                   replace hx34 := iteB_inv hx34
                                   rcases hx34 with ⟨hc41, hx34⟩ | ⟨hc41, hx34⟩
                                   · refine JC.anyE (kl := []) (kk := 0) (base := [(0, ov (S (rL r_law12_Act) t_1)), (3, ov (PTR gb_5 0)), (5, ov (HDR go_12 0 (List.length x_10) gc_13)), (6, ov (S (rI .i64) x_11)), (7, ov (PTR gb_38 0)), (13, ov (PTR gb_59 0)), (14, ov (S (rI .i64) v_57)), (15, ov (S (rI .i64) x_70))])
                                         (fs := fun γ => [⟨some 167, ov (S (rI .i64) v_57)⟩, ⟨some 168, ov (S (rI .i64) v_57)⟩, ⟨some 169, ov (S rB v_72)⟩, ⟨some 170, ov (S rB v_72)⟩, ⟨some 171, ov (PTR gb_59 (0 + 0))⟩, ⟨some 172, ov (S (rI .i64) v_56.From)⟩, ⟨some 173, ov (PTR gb_38 (0 + 0))⟩, ⟨some 174, ov (S (rI .i64) v_36.From)⟩, ⟨some 175, ov (S rB v_73)⟩, ⟨some 176, ov (S rB v_73)⟩, ⟨some 177, ov (S rB v_73)⟩, ⟨some 178, ov (PTR gb_59 (0 + 1))⟩, ⟨some 179, ov (S (rI .i64) v_56.To)⟩, ⟨some 180, ov (PTR gb_38 (0 + 1))⟩, ⟨some 181, ov (S (rI .i64) v_36.To)⟩, ⟨some 182, ov (S rB v_74)⟩, ⟨some 183, ov (S rB v_74)⟩, ⟨some 184, ov (S rB v_74)⟩, ⟨some 185, bif (!v_74) then ov (S (rI .i64) x_70) else .one .und⟩, ⟨some 186, .one .und⟩, ⟨some 187, .one .und⟩, ⟨some 188, .one .und⟩, ⟨some 189, ov (S rB true)⟩, ⟨some 190, ov (S rB true)⟩, ⟨some 191, .one .und⟩, ⟨some 192, .one .und⟩, ⟨some 193, .one .und⟩, ⟨some 194, .one .und⟩, ⟨some 195, .one .und⟩, ⟨some 196, .one .und⟩, ⟨some 197, .one .und⟩, ⟨some 198, .one .und⟩, ⟨some 199, .one .und⟩, ⟨some 200, .one .und⟩, ⟨some 201, ov (S rB true)⟩])
                                         (rs := fun γ => [⟨cvar gb_5 (rP (rW (MPV go_6)) (rP (rI .i64) (rP (rI .i64) r0))) ((), ((4 : Int), (lost_9, ()))), none, none, []⟩, ⟨cmap go_6 (A r_net_pair) (S (rL (rL (rU UInt8)))) (some (x_58)), none, none, []⟩, ⟨cown go_12 r_api_Flight x_10 0 gc_13, none, none, []⟩, ⟨cvar gb_38 r_api_Flight v_36, none, none, [7, 14]⟩, ⟨cvar gb_59 r_api_Flight v_56, none, none, [5, 12]⟩])
                                         (ds := [167, 168, 169, 170, 171, 172, 173, 174, 175, 176, 177, 178, 179, 180, 181, 182, 183, 184, 185, 186, 187, 188, 189, 190, 191, 192, 193, 194, 195, 196, 197, 198, 199, 200, 201]) (bs := [0, 3, 5, 6, 7, 13, 14, 15]) (afts := [[], [], [], [], [], [], [], [], [], [], [], [], [], [], [], [], [], [], [], [], [], [], [], [], [], [], [], [], [], [], [], [], [], [], []]) (js := [0, 0, 0, 0, 0]) mixed (.cons rfl (.cons rfl (.cons rfl (.cons rfl (.cons rfl (.cons rfl (.cons rfl (.cons rfl .nil)))))))) (fun _ => rfl)
                                         (by
      refine dS 1 (fun γ ρ B hb hd => op_move lb (.tmp (hb 14 _ rfl))) ?_
      refine dS 2 (fun γ ρ B hb hd => (op_call (js := []) ld cl12 (sim_law12_num k v_57 () hv_u_71) .func (.cons (.tmp (hl hd 0 167 rfl)) .nil) rfl).post (fun _ => Imp.refl)) ?_
      refine dS 3 (fun γ ρ B hb hd => op_cmpI lb (.tmp (hl hd 1 168 rfl)) .cI (congrArg some hv_v_72)) ?_
      refine dS 4 (fun γ ρ B hb hd => op_move lb (.tmp (hl hd 2 169 rfl))) ?_
      refine DSteps.cons (j := 5) rfl (fun _ => rfl) (.run (fun γ ρ B hb hd => ⟨.yes rfl (ltB rfl) (hl hd 3 170 rfl) hc36, OpStep.at ⟨ρ, B, _⟩ (setO ⟨ρ, B, _⟩ _ _) (op_fieldAddr (off := 0) lb tf36_0 (.tmp (hb 13 _ rfl)))⟩)) ?_
      refine DSteps.cons (j := 6) rfl (fun _ => rfl) (.run (fun γ ρ B hb hd => ⟨.yes rfl (ltB rfl) (hl hd 3 170 rfl) hc36, OpStep.at ⟨ρ, (cvar gb_59 r_api_Flight v_56) :: B, _⟩ (setO ⟨ρ, (cvar gb_59 r_api_Flight v_56) :: B, _⟩ _ _) (op_loadS (j := 0) lb tS3 (.tmp (hl hd 4 171 rfl)) rfl (Comp.trans (Comp.self r_api_Flight v_56) (comp_api_Flight_From v_56) (Nat.le_of_ble_eq_true rfl)) rfl rfl)⟩)) ?_
      refine DSteps.cons (j := 7) rfl (fun _ => rfl) (.run (fun γ ρ B hb hd => ⟨.yes rfl (ltB rfl) (hl hd 3 170 rfl) hc36, OpStep.at ⟨ρ, B, _⟩ (setO ⟨ρ, B, _⟩ _ _) (op_fieldAddr (off := 0) lb tf36_0 (.tmp (hb 7 _ rfl)))⟩)) ?_
      refine DSteps.cons (j := 8) rfl (fun _ => rfl) (.run (fun γ ρ B hb hd => ⟨.yes rfl (ltB rfl) (hl hd 3 170 rfl) hc36, OpStep.at ⟨ρ, (cvar gb_38 r_api_Flight v_36) :: B, _⟩ (setO ⟨ρ, (cvar gb_38 r_api_Flight v_36) :: B, _⟩ _ _) (op_loadS (j := 0) lb tS3 (.tmp (hl hd 6 173 rfl)) rfl (Comp.trans (Comp.self r_api_Flight v_36) (comp_api_Flight_From v_36) (Nat.le_of_ble_eq_true rfl)) rfl rfl)⟩)) ?_
      refine DSteps.cons (j := 9) rfl (fun _ => rfl) (.run (fun γ ρ B hb hd => ⟨.yes rfl (ltB rfl) (hl hd 3 170 rfl) hc36, OpStep.at ⟨ρ, B, _⟩ (setO ⟨ρ, B, _⟩ _ _) (op_cmpI lb (.tmp (hl hd 5 172 rfl)) (.tmp (hl hd 7 174 rfl)) (congrArg some hv_v_73))⟩)) ?_
      refine dS 10 (fun γ ρ B hb hd => op_pickF lb (.tmp (hl hd 3 170 rfl)) hc36 (.tmp (hl hd 8 175 rfl))) ?_
      refine dS 11 (fun γ ρ B hb hd => op_move lb (.tmp (hl hd 9 176 rfl))) ?_
      refine DSteps.cons (j := 12) rfl (fun _ => rfl) (.run (fun γ ρ B hb hd => ⟨.yes rfl (ltB rfl) (hl hd 10 177 rfl) hc38, OpStep.at ⟨ρ, B, _⟩ (setO ⟨ρ, B, _⟩ _ _) (op_fieldAddr (off := 1) lb tf36_1 (.tmp (hb 13 _ rfl)))⟩)) ?_
      refine DSteps.cons (j := 13) rfl (fun _ => rfl) (.run (fun γ ρ B hb hd => ⟨.yes rfl (ltB rfl) (hl hd 10 177 rfl) hc38, OpStep.at ⟨ρ, (cvar gb_59 r_api_Flight v_56) :: B, _⟩ (setO ⟨ρ, (cvar gb_59 r_api_Flight v_56) :: B, _⟩ _ _) (op_loadS (j := 0) lb tS3 (.tmp (hl hd 11 178 rfl)) rfl (Comp.trans (Comp.self r_api_Flight v_56) (comp_api_Flight_To v_56) (Nat.le_of_ble_eq_true rfl)) rfl rfl)⟩)) ?_
      refine DSteps.cons (j := 14) rfl (fun _ => rfl) (.run (fun γ ρ B hb hd => ⟨.yes rfl (ltB rfl) (hl hd 10 177 rfl) hc38, OpStep.at ⟨ρ, B, _⟩ (setO ⟨ρ, B, _⟩ _ _) (op_fieldAddr (off := 1) lb tf36_1 (.tmp (hb 7 _ rfl)))⟩)) ?_
      refine DSteps.cons (j := 15) rfl (fun _ => rfl) (.run (fun γ ρ B hb hd => ⟨.yes rfl (ltB rfl) (hl hd 10 177 rfl) hc38, OpStep.at ⟨ρ, (cvar gb_38 r_api_Flight v_36) :: B, _⟩ (setO ⟨ρ, (cvar gb_38 r_api_Flight v_36) :: B, _⟩ _ _) (op_loadS (j := 0) lb tS3 (.tmp (hl hd 13 180 rfl)) rfl (Comp.trans (Comp.self r_api_Flight v_36) (comp_api_Flight_To v_36) (Nat.le_of_ble_eq_true rfl)) rfl rfl)⟩)) ?_
      refine DSteps.cons (j := 16) rfl (fun _ => rfl) (.run (fun γ ρ B hb hd => ⟨.yes rfl (ltB rfl) (hl hd 10 177 rfl) hc38, OpStep.at ⟨ρ, B, _⟩ (setO ⟨ρ, B, _⟩ _ _) (op_cmpI lb (.tmp (hl hd 12 179 rfl)) (.tmp (hl hd 14 181 rfl)) (congrArg some hv_v_74))⟩)) ?_
      refine dS 17 (fun γ ρ B hb hd => op_pickF lb (.tmp (hl hd 10 177 rfl)) hc38 (.tmp (hl hd 15 182 rfl))) ?_
      refine dS 18 (fun γ ρ B hb hd => op_move lb (.tmp (hl hd 16 183 rfl))) ?_
      refine dC 19 (!v_74) (fun γ => ov (S (rI .i64) x_70)) (fun γ ρ B hb hd => ⟨(Guard.isF (ltB rfl) rfl (hl hd 17 184 rfl)), fun hq_39 => op_move lb (.tmp (hb 15 _ rfl))⟩) ?_
      refine DSteps.cons (j := 20) rfl (fun _ => rfl) (.skip (fun γ ρ B hb hd => ⟨.no rfl (ltB rfl) (hl hd 17 184 rfl) hc41, rfl, rfl, rfl, fun d h => by cases h; exact ltB rfl⟩)) ?_
      refine DSteps.cons (j := 21) rfl (fun _ => rfl) (.skip (fun γ ρ B hb hd => ⟨.no rfl (ltB rfl) (hl hd 17 184 rfl) hc41, rfl, rfl, rfl, fun d h => by cases h; exact ltB rfl⟩)) ?_
      refine DSteps.cons (j := 22) rfl (fun _ => rfl) (.skip (fun γ ρ B hb hd => ⟨.no rfl (ltB rfl) (hl hd 17 184 rfl) hc41, rfl, rfl, rfl, fun d h => by cases h; exact ltB rfl⟩)) ?_
      refine dS 23 (fun γ ρ B hb hd => op_pickT lb (.tmp (hl hd 17 184 rfl)) hc41 .cB) ?_
      refine dS 24 (fun γ ρ B hb hd => op_move lb (.tmp (hl hd 22 189 rfl))) ?_
      refine DSteps.cons (j := 25) rfl (fun _ => rfl) (.skip (fun γ ρ B hb hd => ⟨.no rfl (ltB rfl) (hl hd 23 190 rfl) rfl, rfl, rfl, rfl, fun d h => by cases h; exact ltB rfl⟩)) ?_
      refine DSteps.cons (j := 26) rfl (fun _ => rfl) (.skip (fun γ ρ B hb hd => ⟨.no rfl (ltB rfl) (hl hd 23 190 rfl) rfl, rfl, rfl, rfl, fun d h => by cases h; exact ltB rfl⟩)) ?_
      refine DSteps.cons (j := 27) rfl (fun _ => rfl) (.skip (fun γ ρ B hb hd => ⟨.no rfl (ltB rfl) (hl hd 23 190 rfl) rfl, rfl, rfl, rfl, fun d h => by cases h; exact ltB rfl⟩)) ?_
      refine DSteps.cons (j := 28) rfl (fun _ => rfl) (.skip (fun γ ρ B hb hd => ⟨.no rfl (ltB rfl) (hl hd 23 190 rfl) rfl, rfl, rfl, rfl, fun d h => by cases h; exact ltB rfl⟩)) ?_
      refine DSteps.cons (j := 29) rfl (fun _ => rfl) (.skip (fun γ ρ B hb hd => ⟨.no rfl (ltB rfl) (hl hd 23 190 rfl) rfl, rfl, rfl, rfl, fun d h => by cases h; exact ltB rfl⟩)) ?_
      refine DSteps.cons (j := 30) rfl (fun _ => rfl) (.skip (fun γ ρ B hb hd => ⟨.no rfl (ltB rfl) (hl hd 23 190 rfl) rfl, rfl, rfl, rfl, fun d h => by cases h; exact ltB rfl⟩)) ?_
      refine DSteps.cons (j := 31) rfl (fun _ => rfl) (.skip (fun γ ρ B hb hd => ⟨.no rfl (ltB rfl) (hl hd 23 190 rfl) rfl, rfl, rfl, rfl, fun d h => by cases h; exact ltB rfl⟩)) ?_
      refine DSteps.cons (j := 32) rfl (fun _ => rfl) (.skip (fun γ ρ B hb hd => ⟨.no rfl (ltB rfl) (hl hd 23 190 rfl) rfl, rfl, rfl, rfl, fun d h => by cases h; exact ltB rfl⟩)) ?_
      refine DSteps.cons (j := 33) rfl (fun _ => rfl) (.skip (fun γ ρ B hb hd => ⟨.no rfl (ltB rfl) (hl hd 23 190 rfl) rfl, rfl, rfl, rfl, fun d h => by cases h; exact ltB rfl⟩)) ?_
      refine DSteps.cons (j := 34) rfl (fun _ => rfl) (.skip (fun γ ρ B hb hd => ⟨.no rfl (ltB rfl) (hl hd 23 190 rfl) rfl, rfl, rfl, rfl, fun d h => by cases h; exact ltB rfl⟩)) ?_
      refine dS 35 (fun γ ρ B hb hd => op_pickT lb (.tmp (hl hd 23 190 rfl)) rfl .cB) ?_
      exact DSteps.nil)
                                         (by decide +kernel) (fun _ => rfl) rfl (fun _ => rfl) (fun _ => rfl) rfl (by decide) (by decide) (by decide +kernel) (fun _ d h => by cases h)
                                         (ρ' := fun γ => [(0, ov (S (rL r_law12_Act) t_1)), (3, ov (PTR gb_5 0)), (5, ov (HDR go_12 0 (List.length x_10) gc_13)), (6, ov (S (rI .i64) x_11)), (15, ov (S (rI .i64) x_70)), (201, ov (S rB true))])
                                         (X' := fun γ => [cvar gb_5 (rP (rW (MPV go_6)) (rP (rI .i64) (rP (rI .i64) r0))) ((), ((4 : Int), (lost_9, ()))), cmap go_6 (A r_net_pair) (S (rL (rL (rU UInt8)))) (some (x_58)), cown go_12 r_api_Flight x_10 0 gc_13, cvar gb_38 r_api_Flight v_36, cvar gb_59 r_api_Flight v_56])
                                         (fun γ ρ hb hd => (.cons (hb 0 _ rfl (by decide)) (.cons (hb 3 _ rfl (by decide)) (.cons (hb 5 _ rfl (by decide)) (.cons (hb 6 _ rfl (by decide)) (.cons (hb 15 _ rfl (by decide)) (.cons (hdq hd 34 201 rfl) .nil))))))) (fun _ => rfl) (fun γ => ?_)
                                     refine JQ.at ⟨[(0, ov (S (rL r_law12_Act) t_1)), (3, ov (PTR gb_5 0)), (5, ov (HDR go_12 0 (List.length x_10) gc_13)), (6, ov (S (rI .i64) x_11)), (15, ov (S (rI .i64) x_70)), (201, ov (S rB true))], [cvar gb_5 (rP (rW (MPV go_6)) (rP (rI .i64) (rP (rI .i64) r0))) ((), ((4 : Int), (lost_9, ()))), cmap go_6 (A r_net_pair) (S (rL (rL (rU UInt8)))) (some (x_58)), cown go_12 r_api_Flight x_10 0 gc_13, cvar gb_38 r_api_Flight v_36, cvar gb_59 r_api_Flight v_56], []⟩ ?_
                                     replace hx34 := Option.some.inj hx34
                                     first | subst hx34 | clear hx34
                                     exact JQ.join () (Imp.norm (js := [0, 0, 0]) rfl (.cons rfl (.cons rfl (.cons rfl (.cons rfl (.cons rfl (.cons rfl .nil)))))))
                                   · replace hx34 := lt1_inv hx34
                                     obtain ⟨v_75, hv_v_75, hx34⟩ := hx34
                                     replace hx34 := iteB_inv hx34
                                     rcases hx34 with ⟨hc43, hx34⟩ | ⟨hc43, hx34⟩
                                     · refine JC.anyE (kl := []) (kk := 0) (base := [(0, ov (S (rL r_law12_Act) t_1)), (3, ov (PTR gb_5 0)), (5, ov (HDR go_12 0 (List.length x_10) gc_13)), (6, ov (S (rI .i64) x_11)), (7, ov (PTR gb_38 0)), (13, ov (PTR gb_59 0)), (14, ov (S (rI .i64) v_57)), (15, ov (S (rI .i64) x_70))])
                                           (fs := fun γ => [⟨some 167, ov (S (rI .i64) v_57)⟩, ⟨some 168, ov (S (rI .i64) v_57)⟩, ⟨some 169, ov (S rB v_72)⟩, ⟨some 170, ov (S rB v_72)⟩, ⟨some 171, ov (PTR gb_59 (0 + 0))⟩, ⟨some 172, ov (S (rI .i64) v_56.From)⟩, ⟨some 173, ov (PTR gb_38 (0 + 0))⟩, ⟨some 174, ov (S (rI .i64) v_36.From)⟩, ⟨some 175, ov (S rB v_73)⟩, ⟨some 176, ov (S rB v_73)⟩, ⟨some 177, ov (S rB v_73)⟩, ⟨some 178, ov (PTR gb_59 (0 + 1))⟩, ⟨some 179, ov (S (rI .i64) v_56.To)⟩, ⟨some 180, ov (PTR gb_38 (0 + 1))⟩, ⟨some 181, ov (S (rI .i64) v_36.To)⟩, ⟨some 182, ov (S rB v_74)⟩, ⟨some 183, ov (S rB v_74)⟩, ⟨some 184, ov (S rB v_74)⟩, ⟨some 185, bif (!v_74) then ov (S (rI .i64) x_70) else .one .und⟩, ⟨some 186, ov (HDR go_12 0 (List.length x_10) gc_13)⟩, ⟨some 187, ov (S (rI .i64) (List.length x_10 : Int))⟩, ⟨some 188, ov (S rB v_75)⟩, ⟨some 189, ov (S rB v_75)⟩, ⟨some 190, ov (S rB v_75)⟩, ⟨some 191, .one .und⟩, ⟨some 192, .one .und⟩, ⟨some 193, .one .und⟩, ⟨some 194, .one .und⟩, ⟨some 195, .one .und⟩, ⟨some 196, .one .und⟩, ⟨some 197, .one .und⟩, ⟨some 198, .one .und⟩, ⟨some 199, .one .und⟩, ⟨some 200, .one .und⟩, ⟨some 201, ov (S rB true)⟩])
                                           (rs := fun γ => [⟨cvar gb_5 (rP (rW (MPV go_6)) (rP (rI .i64) (rP (rI .i64) r0))) ((), ((4 : Int), (lost_9, ()))), none, none, []⟩, ⟨cmap go_6 (A r_net_pair) (S (rL (rL (rU UInt8)))) (some (x_58)), none, none, []⟩, ⟨cown go_12 r_api_Flight x_10 0 gc_13, none, none, []⟩, ⟨cvar gb_38 r_api_Flight v_36, none, none, [7, 14]⟩, ⟨cvar gb_59 r_api_Flight v_56, none, none, [5, 12]⟩])
                                           (ds := [167, 168, 169, 170, 171, 172, 173, 174, 175, 176, 177, 178, 179, 180, 181, 182, 183, 184, 185, 186, 187, 188, 189, 190, 191, 192, 193, 194, 195, 196, 197, 198, 199, 200, 201]) (bs := [0, 3, 5, 6, 7, 13, 14, 15]) (afts := [[], [], [], [], [], [], [], [], [], [], [], [], [], [], [], [], [], [], [], [], [], [], [], [], [], [], [], [], [], [], [], [], [], [], []]) (js := [0, 0, 0, 0, 0]) mixed (.cons rfl (.cons rfl (.cons rfl (.cons rfl (.cons rfl (.cons rfl (.cons rfl (.cons rfl .nil)))))))) (fun _ => rfl)
                                           (by
      refine dS 1 (fun γ ρ B hb hd => op_move lb (.tmp (hb 14 _ rfl))) ?_
      refine dS 2 (fun γ ρ B hb hd => (op_call (js := []) ld cl12 (sim_law12_num k v_57 () hv_u_71) .func (.cons (.tmp (hl hd 0 167 rfl)) .nil) rfl).post (fun _ => Imp.refl)) ?_
      refine dS 3 (fun γ ρ B hb hd => op_cmpI lb (.tmp (hl hd 1 168 rfl)) .cI (congrArg some hv_v_72)) ?_
      refine dS 4 (fun γ ρ B hb hd => op_move lb (.tmp (hl hd 2 169 rfl))) ?_
      refine DSteps.cons (j := 5) rfl (fun _ => rfl) (.run (fun γ ρ B hb hd => ⟨.yes rfl (ltB rfl) (hl hd 3 170 rfl) hc36, OpStep.at ⟨ρ, B, _⟩ (setO ⟨ρ, B, _⟩ _ _) (op_fieldAddr (off := 0) lb tf36_0 (.tmp (hb 13 _ rfl)))⟩)) ?_
      refine DSteps.cons (j := 6) rfl (fun _ => rfl) (.run (fun γ ρ B hb hd => ⟨.yes rfl (ltB rfl) (hl hd 3 170 rfl) hc36, OpStep.at ⟨ρ, (cvar gb_59 r_api_Flight v_56) :: B, _⟩ (setO ⟨ρ, (cvar gb_59 r_api_Flight v_56) :: B, _⟩ _ _) (op_loadS (j := 0) lb tS3 (.tmp (hl hd 4 171 rfl)) rfl (Comp.trans (Comp.self r_api_Flight v_56) (comp_api_Flight_From v_56) (Nat.le_of_ble_eq_true rfl)) rfl rfl)⟩)) ?_
      refine DSteps.cons (j := 7) rfl (fun _ => rfl) (.run (fun γ ρ B hb hd => ⟨.yes rfl (ltB rfl) (hl hd 3 170 rfl) hc36, OpStep.at ⟨ρ, B, _⟩ (setO ⟨ρ, B, _⟩ _ _) (op_fieldAddr (off := 0) lb tf36_0 (.tmp (hb 7 _ rfl)))⟩)) ?_
      refine DSteps.cons (j := 8) rfl (fun _ => rfl) (.run (fun γ ρ B hb hd => ⟨.yes rfl (ltB rfl) (hl hd 3 170 rfl) hc36, OpStep.at ⟨ρ, (cvar gb_38 r_api_Flight v_36) :: B, _⟩ (setO ⟨ρ, (cvar gb_38 r_api_Flight v_36) :: B, _⟩ _ _) (op_loadS (j := 0) lb tS3 (.tmp (hl hd 6 173 rfl)) rfl (Comp.trans (Comp.self r_api_Flight v_36) (comp_api_Flight_From v_36) (Nat.le_of_ble_eq_true rfl)) rfl rfl)⟩)) ?_
      refine DSteps.cons (j := 9) rfl (fun _ => rfl) (.run (fun γ ρ B hb hd => ⟨.yes rfl (ltB rfl) (hl hd 3 170 rfl) hc36, OpStep.at ⟨ρ, B, _⟩ (setO ⟨ρ, B, _⟩ _ _) (op_cmpI lb (.tmp (hl hd 5 172 rfl)) (.tmp (hl hd 7 174 rfl)) (congrArg some hv_v_73))⟩)) ?_
      refine dS 10 (fun γ ρ B hb hd => op_pickF lb (.tmp (hl hd 3 170 rfl)) hc36 (.tmp (hl hd 8 175 rfl))) ?_
      refine dS 11 (fun γ ρ B hb hd => op_move lb (.tmp (hl hd 9 176 rfl))) ?_
      refine DSteps.cons (j := 12) rfl (fun _ => rfl) (.run (fun γ ρ B hb hd => ⟨.yes rfl (ltB rfl) (hl hd 10 177 rfl) hc38, OpStep.at ⟨ρ, B, _⟩ (setO ⟨ρ, B, _⟩ _ _) (op_fieldAddr (off := 1) lb tf36_1 (.tmp (hb 13 _ rfl)))⟩)) ?_
      refine DSteps.cons (j := 13) rfl (fun _ => rfl) (.run (fun γ ρ B hb hd => ⟨.yes rfl (ltB rfl) (hl hd 10 177 rfl) hc38, OpStep.at ⟨ρ, (cvar gb_59 r_api_Flight v_56) :: B, _⟩ (setO ⟨ρ, (cvar gb_59 r_api_Flight v_56) :: B, _⟩ _ _) (op_loadS (j := 0) lb tS3 (.tmp (hl hd 11 178 rfl)) rfl (Comp.trans (Comp.self r_api_Flight v_56) (comp_api_Flight_To v_56) (Nat.le_of_ble_eq_true rfl)) rfl rfl)⟩)) ?_
      refine DSteps.cons (j := 14) rfl (fun _ => rfl) (.run (fun γ ρ B hb hd => ⟨.yes rfl (ltB rfl) (hl hd 10 177 rfl) hc38, OpStep.at ⟨ρ, B, _⟩ (setO ⟨ρ, B, _⟩ _ _) (op_fieldAddr (off := 1) lb tf36_1 (.tmp (hb 7 _ rfl)))⟩)) ?_
      refine DSteps.cons (j := 15) rfl (fun _ => rfl) (.run (fun γ ρ B hb hd => ⟨.yes rfl (ltB rfl) (hl hd 10 177 rfl) hc38, OpStep.at ⟨ρ, (cvar gb_38 r_api_Flight v_36) :: B, _⟩ (setO ⟨ρ, (cvar gb_38 r_api_Flight v_36) :: B, _⟩ _ _) (op_loadS (j := 0) lb tS3 (.tmp (hl hd 13 180 rfl)) rfl (Comp.trans (Comp.self r_api_Flight v_36) (comp_api_Flight_To v_36) (Nat.le_of_ble_eq_true rfl)) rfl rfl)⟩)) ?_
      refine DSteps.cons (j := 16) rfl (fun _ => rfl) (.run (fun γ ρ B hb hd => ⟨.yes rfl (ltB rfl) (hl hd 10 177 rfl) hc38, OpStep.at ⟨ρ, B, _⟩ (setO ⟨ρ, B, _⟩ _ _) (op_cmpI lb (.tmp (hl hd 12 179 rfl)) (.tmp (hl hd 14 181 rfl)) (congrArg some hv_v_74))⟩)) ?_
      refine dS 17 (fun γ ρ B hb hd => op_pickF lb (.tmp (hl hd 10 177 rfl)) hc38 (.tmp (hl hd 15 182 rfl))) ?_
      refine dS 18 (fun γ ρ B hb hd => op_move lb (.tmp (hl hd 16 183 rfl))) ?_
      refine dC 19 (!v_74) (fun γ => ov (S (rI .i64) x_70)) (fun γ ρ B hb hd => ⟨(Guard.isF (ltB rfl) rfl (hl hd 17 184 rfl)), fun hq_39 => op_move lb (.tmp (hb 15 _ rfl))⟩) ?_
      refine DSteps.cons (j := 20) rfl (fun _ => rfl) (.run (fun γ ρ B hb hd => ⟨.yes rfl (ltB rfl) (hl hd 17 184 rfl) hc41, OpStep.at ⟨ρ, B, _⟩ (setO ⟨ρ, B, _⟩ _ _) (op_move lb (.tmp (hb 5 _ rfl)))⟩)) ?_
      refine DSteps.cons (j := 21) rfl (fun _ => rfl) (.run (fun γ ρ B hb hd => ⟨.yes rfl (ltB rfl) (hl hd 17 184 rfl) hc41, OpStep.at ⟨ρ, B, _⟩ (setO ⟨ρ, B, _⟩ _ _) (op_lenH lb tu30 (.tmp (hl hd 19 186 rfl)))⟩)) ?_
      refine DSteps.cons (j := 22) rfl (fun _ => rfl) (.run (fun γ ρ B hb hd => ⟨.yes rfl (ltB rfl) (hl hd 17 184 rfl) hc41, OpStep.at ⟨ρ, B, _⟩ (setO ⟨ρ, B, _⟩ _ _) (op_cmpI lb (HasO.cnd (.tmp (hl hd 18 185 rfl)) (notT hc41)) (.tmp (hl hd 20 187 rfl)) (congrArg some hv_v_75))⟩)) ?_
      refine dS 23 (fun γ ρ B hb hd => op_pickF lb (.tmp (hl hd 17 184 rfl)) hc41 (.tmp (hl hd 21 188 rfl))) ?_
      refine dS 24 (fun γ ρ B hb hd => op_move lb (.tmp (hl hd 22 189 rfl))) ?_
      refine DSteps.cons (j := 25) rfl (fun _ => rfl) (.skip (fun γ ρ B hb hd => ⟨.no rfl (ltB rfl) (hl hd 23 190 rfl) hc43, rfl, rfl, rfl, fun d h => by cases h; exact ltB rfl⟩)) ?_
      refine DSteps.cons (j := 26) rfl (fun _ => rfl) (.skip (fun γ ρ B hb hd => ⟨.no rfl (ltB rfl) (hl hd 23 190 rfl) hc43, rfl, rfl, rfl, fun d h => by cases h; exact ltB rfl⟩)) ?_
      refine DSteps.cons (j := 27) rfl (fun _ => rfl) (.skip (fun γ ρ B hb hd => ⟨.no rfl (ltB rfl) (hl hd 23 190 rfl) hc43, rfl, rfl, rfl, fun d h => by cases h; exact ltB rfl⟩)) ?_
      refine DSteps.cons (j := 28) rfl (fun _ => rfl) (.skip (fun γ ρ B hb hd => ⟨.no rfl (ltB rfl) (hl hd 23 190 rfl) hc43, rfl, rfl, rfl, fun d h => by cases h; exact ltB rfl⟩)) ?_
      refine DSteps.cons (j := 29) rfl (fun _ => rfl) (.skip (fun γ ρ B hb hd => ⟨.no rfl (ltB rfl) (hl hd 23 190 rfl) hc43, rfl, rfl, rfl, fun d h => by cases h; exact ltB rfl⟩)) ?_
      refine DSteps.cons (j := 30) rfl (fun _ => rfl) (.skip (fun γ ρ B hb hd => ⟨.no rfl (ltB rfl) (hl hd 23 190 rfl) hc43, rfl, rfl, rfl, fun d h => by cases h; exact ltB rfl⟩)) ?_
      refine DSteps.cons (j := 31) rfl (fun _ => rfl) (.skip (fun γ ρ B hb hd => ⟨.no rfl (ltB rfl) (hl hd 23 190 rfl) hc43, rfl, rfl, rfl, fun d h => by cases h; exact ltB rfl⟩)) ?_
      refine DSteps.cons (j := 32) rfl (fun _ => rfl) (.skip (fun γ ρ B hb hd => ⟨.no rfl (ltB rfl) (hl hd 23 190 rfl) hc43, rfl, rfl, rfl, fun d h => by cases h; exact ltB rfl⟩)) ?_
      refine DSteps.cons (j := 33) rfl (fun _ => rfl) (.skip (fun γ ρ B hb hd => ⟨.no rfl (ltB rfl) (hl hd 23 190 rfl) hc43, rfl, rfl, rfl, fun d h => by cases h; exact ltB rfl⟩)) ?_
      refine DSteps.cons (j := 34) rfl (fun _ => rfl) (.skip (fun γ ρ B hb hd => ⟨.no rfl (ltB rfl) (hl hd 23 190 rfl) hc43, rfl, rfl, rfl, fun d h => by cases h; exact ltB rfl⟩)) ?_
      refine dS 35 (fun γ ρ B hb hd => op_pickT lb (.tmp (hl hd 23 190 rfl)) hc43 .cB) ?_
      exact DSteps.nil)
                                           (by decide +kernel) (fun _ => rfl) rfl (fun _ => rfl) (fun _ => rfl) rfl (by decide) (by decide) (by decide +kernel) (fun _ d h => by cases h)
                                           (ρ' := fun γ => [(0, ov (S (rL r_law12_Act) t_1)), (3, ov (PTR gb_5 0)), (5, ov (HDR go_12 0 (List.length x_10) gc_13)), (6, ov (S (rI .i64) x_11)), (15, ov (S (rI .i64) x_70)), (201, ov (S rB true))])
                                           (X' := fun γ => [cvar gb_5 (rP (rW (MPV go_6)) (rP (rI .i64) (rP (rI .i64) r0))) ((), ((4 : Int), (lost_9, ()))), cmap go_6 (A r_net_pair) (S (rL (rL (rU UInt8)))) (some (x_58)), cown go_12 r_api_Flight x_10 0 gc_13, cvar gb_38 r_api_Flight v_36, cvar gb_59 r_api_Flight v_56])
                                           (fun γ ρ hb hd => (.cons (hb 0 _ rfl (by decide)) (.cons (hb 3 _ rfl (by decide)) (.cons (hb 5 _ rfl (by decide)) (.cons (hb 6 _ rfl (by decide)) (.cons (hb 15 _ rfl (by decide)) (.cons (hdq hd 34 201 rfl) .nil))))))) (fun _ => rfl) (fun γ => ?_)
                                       refine JQ.at ⟨[(0, ov (S (rL r_law12_Act) t_1)), (3, ov (PTR gb_5 0)), (5, ov (HDR go_12 0 (List.length x_10) gc_13)), (6, ov (S (rI .i64) x_11)), (15, ov (S (rI .i64) x_70)), (201, ov (S rB true))], [cvar gb_5 (rP (rW (MPV go_6)) (rP (rI .i64) (rP (rI .i64) r0))) ((), ((4 : Int), (lost_9, ()))), cmap go_6 (A r_net_pair) (S (rL (rL (rU UInt8)))) (some (x_58)), cown go_12 r_api_Flight x_10 0 gc_13, cvar gb_38 r_api_Flight v_36, cvar gb_59 r_api_Flight v_56], []⟩ ?_
                                       replace hx34 := Option.some.inj hx34
                                       first | subst hx34 | clear hx34
                                       exact JQ.join () (Imp.norm (js := [0, 0, 0]) rfl (.cons rfl (.cons rfl (.cons rfl (.cons rfl (.cons rfl (.cons rfl .nil)))))))
                                     · replace hx34 := bnd_inv hx34
                                       obtain ⟨i_76, hv_i_76, hx34⟩ := hx34
                                       replace hx34 := bnd_inv hx34
                                       obtain ⟨u_77, hv_u_77, hx34⟩ := hx34
                                       replace hx34 := lt1_inv hx34
                                       obtain ⟨v_78, hv_v_78, hx34⟩ := hx34
                                       refine JC.anyE (kl := []) (kk := 0) (base := [(0, ov (S (rL r_law12_Act) t_1)), (3, ov (PTR gb_5 0)), (5, ov (HDR go_12 0 (List.length x_10) gc_13)), (6, ov (S (rI .i64) x_11)), (7, ov (PTR gb_38 0)), (13, ov (PTR gb_59 0)), (14, ov (S (rI .i64) v_57)), (15, ov (S (rI .i64) x_70))])
                                           (fs := fun γ => [⟨some 167, ov (S (rI .i64) v_57)⟩, ⟨some 168, ov (S (rI .i64) v_57)⟩, ⟨some 169, ov (S rB v_72)⟩, ⟨some 170, ov (S rB v_72)⟩, ⟨some 171, ov (PTR gb_59 (0 + 0))⟩, ⟨some 172, ov (S (rI .i64) v_56.From)⟩, ⟨some 173, ov (PTR gb_38 (0 + 0))⟩, ⟨some 174, ov (S (rI .i64) v_36.From)⟩, ⟨some 175, ov (S rB v_73)⟩, ⟨some 176, ov (S rB v_73)⟩, ⟨some 177, ov (S rB v_73)⟩, ⟨some 178, ov (PTR gb_59 (0 + 1))⟩, ⟨some 179, ov (S (rI .i64) v_56.To)⟩, ⟨some 180, ov (PTR gb_38 (0 + 1))⟩, ⟨some 181, ov (S (rI .i64) v_36.To)⟩, ⟨some 182, ov (S rB v_74)⟩, ⟨some 183, ov (S rB v_74)⟩, ⟨some 184, ov (S rB v_74)⟩, ⟨some 185, bif (!v_74) then ov (S (rI .i64) x_70) else .one .und⟩, ⟨some 186, ov (HDR go_12 0 (List.length x_10) gc_13)⟩, ⟨some 187, ov (S (rI .i64) (List.length x_10 : Int))⟩, ⟨some 188, ov (S rB v_75)⟩, ⟨some 189, ov (S rB v_75)⟩, ⟨some 190, ov (S rB v_75)⟩, ⟨some 191, ov (HDR go_12 0 (List.length x_10) gc_13)⟩, ⟨some 192, ov (S (rI .i64) x_70)⟩, ⟨some 193, ov (EPT go_12 (i_76 * 3))⟩, ⟨some 194, ov (EPT go_12 ((i_76 * 3) + 2))⟩, ⟨some 195, ov (S (rL (rU UInt8)) u_77.Bytes)⟩, ⟨some 196, ov (S rS u_77.Bytes)⟩, ⟨some 197, ov (PTR gb_59 (0 + 2))⟩, ⟨some 198, ov (S (rL (rU UInt8)) v_56.Bytes)⟩, ⟨some 199, ov (S rS v_56.Bytes)⟩, ⟨some 200, ov (S rB v_78)⟩, ⟨some 201, ov (S rB v_78)⟩])
                                           (rs := fun γ => [⟨cvar gb_5 (rP (rW (MPV go_6)) (rP (rI .i64) (rP (rI .i64) r0))) ((), ((4 : Int), (lost_9, ()))), none, none, []⟩, ⟨cmap go_6 (A r_net_pair) (S (rL (rL (rU UInt8)))) (some (x_58)), none, none, []⟩, ⟨cown go_12 r_api_Flight x_10 0 gc_13, none, none, [26, 28]⟩, ⟨cvar gb_38 r_api_Flight v_36, none, none, [7, 14]⟩, ⟨cvar gb_59 r_api_Flight v_56, none, none, [5, 12, 31]⟩])
                                           (ds := [167, 168, 169, 170, 171, 172, 173, 174, 175, 176, 177, 178, 179, 180, 181, 182, 183, 184, 185, 186, 187, 188, 189, 190, 191, 192, 193, 194, 195, 196, 197, 198, 199, 200, 201]) (bs := [0, 3, 5, 6, 7, 13, 14, 15]) (afts := [[], [], [], [], [], [], [], [], [], [], [], [], [], [], [], [], [], [], [], [], [], [], [], [], [], [], [], [], [], [], [], [], [], [], []]) (js := [0, 0, 0, 0, 0]) mixed (.cons rfl (.cons rfl (.cons rfl (.cons rfl (.cons rfl (.cons rfl (.cons rfl (.cons rfl .nil)))))))) (fun _ => rfl)
                                           (by
      refine dS 1 (fun γ ρ B hb hd => op_move lb (.tmp (hb 14 _ rfl))) ?_
      refine dS 2 (fun γ ρ B hb hd => (op_call (js := []) ld cl12 (sim_law12_num k v_57 () hv_u_71) .func (.cons (.tmp (hl hd 0 167 rfl)) .nil) rfl).post (fun _ => Imp.refl)) ?_
      refine dS 3 (fun γ ρ B hb hd => op_cmpI lb (.tmp (hl hd 1 168 rfl)) .cI (congrArg some hv_v_72)) ?_
      refine dS 4 (fun γ ρ B hb hd => op_move lb (.tmp (hl hd 2 169 rfl))) ?_
      refine DSteps.cons (j := 5) rfl (fun _ => rfl) (.run (fun γ ρ B hb hd => ⟨.yes rfl (ltB rfl) (hl hd 3 170 rfl) hc36, OpStep.at ⟨ρ, B, _⟩ (setO ⟨ρ, B, _⟩ _ _) (op_fieldAddr (off := 0) lb tf36_0 (.tmp (hb 13 _ rfl)))⟩)) ?_
      refine DSteps.cons (j := 6) rfl (fun _ => rfl) (.run (fun γ ρ B hb hd => ⟨.yes rfl (ltB rfl) (hl hd 3 170 rfl) hc36, OpStep.at ⟨ρ, (cvar gb_59 r_api_Flight v_56) :: B, _⟩ (setO ⟨ρ, (cvar gb_59 r_api_Flight v_56) :: B, _⟩ _ _) (op_loadS (j := 0) lb tS3 (.tmp (hl hd 4 171 rfl)) rfl (Comp.trans (Comp.self r_api_Flight v_56) (comp_api_Flight_From v_56) (Nat.le_of_ble_eq_true rfl)) rfl rfl)⟩)) ?_
      refine DSteps.cons (j := 7) rfl (fun _ => rfl) (.run (fun γ ρ B hb hd => ⟨.yes rfl (ltB rfl) (hl hd 3 170 rfl) hc36, OpStep.at ⟨ρ, B, _⟩ (setO ⟨ρ, B, _⟩ _ _) (op_fieldAddr (off := 0) lb tf36_0 (.tmp (hb 7 _ rfl)))⟩)) ?_
      refine DSteps.cons (j := 8) rfl (fun _ => rfl) (.run (fun γ ρ B hb hd => ⟨.yes rfl (ltB rfl) (hl hd 3 170 rfl) hc36, OpStep.at ⟨ρ, (cvar gb_38 r_api_Flight v_36) :: B, _⟩ (setO ⟨ρ, (cvar gb_38 r_api_Flight v_36) :: B, _⟩ _ _) (op_loadS (j := 0) lb tS3 (.tmp (hl hd 6 173 rfl)) rfl (Comp.trans (Comp.self r_api_Flight v_36) (comp_api_Flight_From v_36) (Nat.le_of_ble_eq_true rfl)) rfl rfl)⟩)) ?_
      refine DSteps.cons (j := 9) rfl (fun _ => rfl) (.run (fun γ ρ B hb hd => ⟨.yes rfl (ltB rfl) (hl hd 3 170 rfl) hc36, OpStep.at ⟨ρ, B, _⟩ (setO ⟨ρ, B, _⟩ _ _) (op_cmpI lb (.tmp (hl hd 5 172 rfl)) (.tmp (hl hd 7 174 rfl)) (congrArg some hv_v_73))⟩)) ?_
      refine dS 10 (fun γ ρ B hb hd => op_pickF lb (.tmp (hl hd 3 170 rfl)) hc36 (.tmp (hl hd 8 175 rfl))) ?_
      refine dS 11 (fun γ ρ B hb hd => op_move lb (.tmp (hl hd 9 176 rfl))) ?_
      refine DSteps.cons (j := 12) rfl (fun _ => rfl) (.run (fun γ ρ B hb hd => ⟨.yes rfl (ltB rfl) (hl hd 10 177 rfl) hc38, OpStep.at ⟨ρ, B, _⟩ (setO ⟨ρ, B, _⟩ _ _) (op_fieldAddr (off := 1) lb tf36_1 (.tmp (hb 13 _ rfl)))⟩)) ?_
      refine DSteps.cons (j := 13) rfl (fun _ => rfl) (.run (fun γ ρ B hb hd => ⟨.yes rfl (ltB rfl) (hl hd 10 177 rfl) hc38, OpStep.at ⟨ρ, (cvar gb_59 r_api_Flight v_56) :: B, _⟩ (setO ⟨ρ, (cvar gb_59 r_api_Flight v_56) :: B, _⟩ _ _) (op_loadS (j := 0) lb tS3 (.tmp (hl hd 11 178 rfl)) rfl (Comp.trans (Comp.self r_api_Flight v_56) (comp_api_Flight_To v_56) (Nat.le_of_ble_eq_true rfl)) rfl rfl)⟩)) ?_
      refine DSteps.cons (j := 14) rfl (fun _ => rfl) (.run (fun γ ρ B hb hd => ⟨.yes rfl (ltB rfl) (hl hd 10 177 rfl) hc38, OpStep.at ⟨ρ, B, _⟩ (setO ⟨ρ, B, _⟩ _ _) (op_fieldAddr (off := 1) lb tf36_1 (.tmp (hb 7 _ rfl)))⟩)) ?_
      refine DSteps.cons (j := 15) rfl (fun _ => rfl) (.run (fun γ ρ B hb hd => ⟨.yes rfl (ltB rfl) (hl hd 10 177 rfl) hc38, OpStep.at ⟨ρ, (cvar gb_38 r_api_Flight v_36) :: B, _⟩ (setO ⟨ρ, (cvar gb_38 r_api_Flight v_36) :: B, _⟩ _ _) (op_loadS (j := 0) lb tS3 (.tmp (hl hd 13 180 rfl)) rfl (Comp.trans (Comp.self r_api_Flight v_36) (comp_api_Flight_To v_36) (Nat.le_of_ble_eq_true rfl)) rfl rfl)⟩)) ?_
      refine DSteps.cons (j := 16) rfl (fun _ => rfl) (.run (fun γ ρ B hb hd => ⟨.yes rfl (ltB rfl) (hl hd 10 177 rfl) hc38, OpStep.at ⟨ρ, B, _⟩ (setO ⟨ρ, B, _⟩ _ _) (op_cmpI lb (.tmp (hl hd 12 179 rfl)) (.tmp (hl hd 14 181 rfl)) (congrArg some hv_v_74))⟩)) ?_
      refine dS 17 (fun γ ρ B hb hd => op_pickF lb (.tmp (hl hd 10 177 rfl)) hc38 (.tmp (hl hd 15 182 rfl))) ?_
      refine dS 18 (fun γ ρ B hb hd => op_move lb (.tmp (hl hd 16 183 rfl))) ?_
      refine dC 19 (!v_74) (fun γ => ov (S (rI .i64) x_70)) (fun γ ρ B hb hd => ⟨(Guard.isF (ltB rfl) rfl (hl hd 17 184 rfl)), fun hq_39 => op_move lb (.tmp (hb 15 _ rfl))⟩) ?_
      refine DSteps.cons (j := 20) rfl (fun _ => rfl) (.run (fun γ ρ B hb hd => ⟨.yes rfl (ltB rfl) (hl hd 17 184 rfl) hc41, OpStep.at ⟨ρ, B, _⟩ (setO ⟨ρ, B, _⟩ _ _) (op_move lb (.tmp (hb 5 _ rfl)))⟩)) ?_
      refine DSteps.cons (j := 21) rfl (fun _ => rfl) (.run (fun γ ρ B hb hd => ⟨.yes rfl (ltB rfl) (hl hd 17 184 rfl) hc41, OpStep.at ⟨ρ, B, _⟩ (setO ⟨ρ, B, _⟩ _ _) (op_lenH lb tu30 (.tmp (hl hd 19 186 rfl)))⟩)) ?_
      refine DSteps.cons (j := 22) rfl (fun _ => rfl) (.run (fun γ ρ B hb hd => ⟨.yes rfl (ltB rfl) (hl hd 17 184 rfl) hc41, OpStep.at ⟨ρ, B, _⟩ (setO ⟨ρ, B, _⟩ _ _) (op_cmpI lb (HasO.cnd (.tmp (hl hd 18 185 rfl)) (notT hc41)) (.tmp (hl hd 20 187 rfl)) (congrArg some hv_v_75))⟩)) ?_
      refine dS 23 (fun γ ρ B hb hd => op_pickF lb (.tmp (hl hd 17 184 rfl)) hc41 (.tmp (hl hd 21 188 rfl))) ?_
      refine dS 24 (fun γ ρ B hb hd => op_move lb (.tmp (hl hd 22 189 rfl))) ?_
      refine DSteps.cons (j := 25) rfl (fun _ => rfl) (.run (fun γ ρ B hb hd => ⟨.yes rfl (ltB rfl) (hl hd 23 190 rfl) hc43, OpStep.at ⟨ρ, B, _⟩ (setO ⟨ρ, B, _⟩ _ _) (op_move lb (.tmp (hb 5 _ rfl)))⟩)) ?_
      refine DSteps.cons (j := 26) rfl (fun _ => rfl) (.run (fun γ ρ B hb hd => ⟨.yes rfl (ltB rfl) (hl hd 23 190 rfl) hc43, OpStep.at ⟨ρ, B, _⟩ (setO ⟨ρ, B, _⟩ _ _) (op_move lb (.tmp (hb 15 _ rfl)))⟩)) ?_
      refine DSteps.cons (j := 27) rfl (fun _ => rfl) (.run (fun γ ρ B hb hd => ⟨.yes rfl (ltB rfl) (hl hd 23 190 rfl) hc43, OpStep.at ⟨ρ, (cown go_12 r_api_Flight x_10 0 gc_13) :: B, _⟩ (setO ⟨ρ, (cown go_12 r_api_Flight x_10 0 gc_13) :: B, _⟩ _ _) (op_indexAddrOF (r := r_api_Flight) (j := 0) lb tu30 tz36 rfl (.tmp (hl hd 24 191 rfl)) (.tmp (hl hd 25 192 rfl)) hv_i_76)⟩)) ?_
      refine DSteps.cons (j := 28) rfl (fun _ => rfl) (.run (fun γ ρ B hb hd => ⟨.yes rfl (ltB rfl) (hl hd 23 190 rfl) hc43, OpStep.at ⟨ρ, B, _⟩ (setO ⟨ρ, B, _⟩ _ _) (op_fieldAddrE (off := 2) lb tf36_2 (.tmp (hl hd 26 193 rfl)))⟩)) ?_
      refine DSteps.cons (j := 29) rfl (fun _ => rfl) (.run (fun γ ρ B hb hd => ⟨.yes rfl (ltB rfl) (hl hd 23 190 rfl) hc43, OpStep.at ⟨ρ, (cown go_12 r_api_Flight x_10 0 gc_13) :: B, _⟩ (setO ⟨ρ, (cown go_12 r_api_Flight x_10 0 gc_13) :: B, _⟩ _ _) (op_loadOS (r := r_api_Flight) (i := i_76) (off := 2) (j := 0) lb tS31 rfl rfl (.tmp (hl hd 27 194 rfl)) hv_u_77 (Comp.at' (Comp.trans (Comp.self r_api_Flight u_77) (comp_api_Flight_Bytes u_77) (Nat.le_of_ble_eq_true rfl)) rfl) (by decide))⟩)) ?_
      refine DSteps.cons (j := 30) rfl (fun _ => rfl) (.run (fun γ ρ B hb hd => ⟨.yes rfl (ltB rfl) (hl hd 23 190 rfl) hc43, OpStep.at ⟨ρ, B, _⟩ (setO ⟨ρ, B, _⟩ _ _) (op_convBS lb tu31 tu5 tu9 (.tmp (hl hd 28 195 rfl)))⟩)) ?_
      refine DSteps.cons (j := 31) rfl (fun _ => rfl) (.run (fun γ ρ B hb hd => ⟨.yes rfl (ltB rfl) (hl hd 23 190 rfl) hc43, OpStep.at ⟨ρ, B, _⟩ (setO ⟨ρ, B, _⟩ _ _) (op_fieldAddr (off := 2) lb tf36_2 (.tmp (hb 13 _ rfl)))⟩)) ?_
      refine DSteps.cons (j := 32) rfl (fun _ => rfl) (.run (fun γ ρ B hb hd => ⟨.yes rfl (ltB rfl) (hl hd 23 190 rfl) hc43, OpStep.at ⟨ρ, (cvar gb_59 r_api_Flight v_56) :: B, _⟩ (setO ⟨ρ, (cvar gb_59 r_api_Flight v_56) :: B, _⟩ _ _) (op_loadS (j := 0) lb tS31 (.tmp (hl hd 30 197 rfl)) rfl (Comp.trans (Comp.self r_api_Flight v_56) (comp_api_Flight_Bytes v_56) (Nat.le_of_ble_eq_true rfl)) rfl rfl)⟩)) ?_
      refine DSteps.cons (j := 33) rfl (fun _ => rfl) (.run (fun γ ρ B hb hd => ⟨.yes rfl (ltB rfl) (hl hd 23 190 rfl) hc43, OpStep.at ⟨ρ, B, _⟩ (setO ⟨ρ, B, _⟩ _ _) (op_convBS lb tu31 tu5 tu9 (.tmp (hl hd 31 198 rfl)))⟩)) ?_
      refine DSteps.cons (j := 34) rfl (fun _ => rfl) (.run (fun γ ρ B hb hd => ⟨.yes rfl (ltB rfl) (hl hd 23 190 rfl) hc43, OpStep.at ⟨ρ, B, _⟩ (setO ⟨ρ, B, _⟩ _ _) (op_cmpS lb (.tmp (hl hd 29 196 rfl)) (.tmp (hl hd 32 199 rfl)) (congrArg some hv_v_78))⟩)) ?_
      refine dS 35 (fun γ ρ B hb hd => op_pickF lb (.tmp (hl hd 23 190 rfl)) hc43 (.tmp (hl hd 33 200 rfl))) ?_
      exact DSteps.nil)
                                           (by decide +kernel) (fun _ => rfl) rfl (fun _ => rfl) (fun _ => rfl) rfl (by decide) (by decide) (by decide +kernel) (fun _ d h => by cases h)
                                           (ρ' := fun γ => [(0, ov (S (rL r_law12_Act) t_1)), (3, ov (PTR gb_5 0)), (5, ov (HDR go_12 0 (List.length x_10) gc_13)), (6, ov (S (rI .i64) x_11)), (15, ov (S (rI .i64) x_70)), (201, ov (S rB v_78))])
                                           (X' := fun γ => [cvar gb_5 (rP (rW (MPV go_6)) (rP (rI .i64) (rP (rI .i64) r0))) ((), ((4 : Int), (lost_9, ()))), cmap go_6 (A r_net_pair) (S (rL (rL (rU UInt8)))) (some (x_58)), cown go_12 r_api_Flight x_10 0 gc_13, cvar gb_38 r_api_Flight v_36, cvar gb_59 r_api_Flight v_56])
                                           (fun γ ρ hb hd => (.cons (hb 0 _ rfl (by decide)) (.cons (hb 3 _ rfl (by decide)) (.cons (hb 5 _ rfl (by decide)) (.cons (hb 6 _ rfl (by decide)) (.cons (hb 15 _ rfl (by decide)) (.cons (hdq hd 34 201 rfl) .nil))))))) (fun _ => rfl) (fun γ => ?_)
                                       refine JQ.at ⟨[(0, ov (S (rL r_law12_Act) t_1)), (3, ov (PTR gb_5 0)), (5, ov (HDR go_12 0 (List.length x_10) gc_13)), (6, ov (S (rI .i64) x_11)), (15, ov (S (rI .i64) x_70)), (201, ov (S rB v_78))], [cvar gb_5 (rP (rW (MPV go_6)) (rP (rI .i64) (rP (rI .i64) r0))) ((), ((4 : Int), (lost_9, ()))), cmap go_6 (A r_net_pair) (S (rL (rL (rU UInt8)))) (some (x_58)), cown go_12 r_api_Flight x_10 0 gc_13, cvar gb_38 r_api_Flight v_36, cvar gb_59 r_api_Flight v_56], []⟩ ?_
                                       replace hx34 := Option.some.inj hx34
                                       first | subst hx34 | clear hx34
                                       exact JQ.join () (Imp.norm (js := [0, 0, 0]) rfl (.cons rfl (.cons rfl (.cons rfl (.cons rfl (.cons rfl (.cons rfl .nil)))))))
                           · refine JC.block ?_
                             refine JC.pre ?_ (JC.loop (γ := Unit) (stf := fun s q => ⟨[(0, ov (S (rL r_law12_Act) t_1)), (3, ov (PTR gb_5 0)), (5, ov (HDR go_12 0 (List.length x_10) gc_13)), (6, ov (S (rI .i64) x_11)), (7, ov (PTR gb_38 0)), (13, ov (PTR gb_59 0)), (14, ov (S (rI .i64) v_57)), (15, ov (S (rI .i64) s))], [cvar gb_5 (rP (rW (MPV go_6)) (rP (rI .i64) (rP (rI .i64) r0))) ((), ((4 : Int), (lost_9, ()))), cmap go_6 (A r_net_pair) (S (rL (rL (rU UInt8)))) (some (x_58)), cown go_12 r_api_Flight x_10 0 gc_13, cvar gb_38 r_api_Flight v_36, cvar gb_59 r_api_Flight v_56], []⟩) (q := ()) hx26 ?_)
                             · exact (Imp.norm (js := [0, 0, 0, 0, 0]) rfl (.cons rfl (.cons rfl (.cons rfl (.cons rfl (.cons rfl (.cons rfl (.cons rfl (.cons rfl .nil)))))))))
                             · intro x_60 q x hx hr
                               obtain _ := q
                               change law12_NetMeans'2.b3 k x_10 v_56 x_60 = some x at hx
                               unfold law12_NetMeans'2.b3 at hx
                               refine JC.at ⟨[(0, ov (S (rL r_law12_Act) t_1)), (3, ov (PTR gb_5 0)), (5, ov (HDR go_12 0 (List.length x_10) gc_13)), (6, ov (S (rI .i64) x_11)), (7, ov (PTR gb_38 0)), (13, ov (PTR gb_59 0)), (14, ov (S (rI .i64) v_57)), (15, ov (S (rI .i64) x_60))], [cvar gb_5 (rP (rW (MPV go_6)) (rP (rI .i64) (rP (rI .i64) r0))) ((), ((4 : Int), (lost_9, ()))), cmap go_6 (A r_net_pair) (S (rL (rL (rU UInt8)))) (some (x_58)), cown go_12 r_api_Flight x_10 0 gc_13, cvar gb_38 r_api_Flight v_36, cvar gb_59 r_api_Flight v_56], []⟩ ?_
                               refine JC.seq ?_
                               replace hx := bnd_inv hx
                               obtain ⟨x_68, hx28, hq28⟩ := hx
                               refine JC.seqJ (γ := Unit) (stj := fun q => ⟨[(0, ov (S (rL r_law12_Act) t_1)), (3, ov (PTR gb_5 0)), (5, ov (HDR go_12 0 (List.length x_10) gc_13)), (6, ov (S (rI .i64) x_11)), (7, ov (PTR gb_38 0)), (13, ov (PTR gb_59 0)), (14, ov (S (rI .i64) v_57)), (15, ov (S (rI .i64) x_60)), (164, ov (S rB x_68))], [cvar gb_5 (rP (rW (MPV go_6)) (rP (rI .i64) (rP (rI .i64) r0))) ((), ((4 : Int), (lost_9, ()))), cmap go_6 (A r_net_pair) (S (rL (rL (rU UInt8)))) (some (x_58)), cown go_12 r_api_Flight x_10 0 gc_13, cvar gb_38 r_api_Flight v_36, cvar gb_59 r_api_Flight v_56], []⟩) (fun q => ?_) ?_
                               · obtain _ := q
                                 refine JC.at ⟨[(0, ov (S (rL r_law12_Act) t_1)), (3, ov (PTR gb_5 0)), (5, ov (HDR go_12 0 (List.length x_10) gc_13)), (6, ov (S (rI .i64) x_11)), (7, ov (PTR gb_38 0)), (13, ov (PTR gb_59 0)), (14, ov (S (rI .i64) v_57)), (15, ov (S (rI .i64) x_60)), (164, ov (S rB x_68))], [cvar gb_5 (rP (rW (MPV go_6)) (rP (rI .i64) (rP (rI .i64) r0))) ((), ((4 : Int), (lost_9, ()))), cmap go_6 (A r_net_pair) (S (rL (rL (rU UInt8)))) (some (x_58)), cown go_12 r_api_Flight x_10 0 gc_13, cvar gb_38 r_api_Flight v_36, cvar gb_59 r_api_Flight v_56], []⟩ ?_
                                 replace hq28 := iteB_inv hq28
                                 rcases hq28 with ⟨hc33, hq28⟩ | ⟨hc33, hq28⟩
                                 · refine JC.condT (.tmp rfl) hc33 ?_
                                   refine JC.skip ?_
                                   refine JQ.then ?_
                                   refine JC.block ?_
                                   refine JC.region ?_
                                   refine jc (op_move lb (.tmp rfl)) ?_
                                   replace hq28 := lt1_inv hq28
                                   obtain ⟨v_69, hv_v_69, hq28⟩ := hq28
                                   refine jc (op_arI lb (.tmp rfl) .cI (congrArg some hv_v_69)) ?_
                                   refine jc (op_assign lb (.tmp rfl)) ?_
                                   refine JL.nil ?_
                                   refine JQ.outNB ?_
                                   replace hq28 := Option.some.inj hq28
                                   first | subst hq28 | clear hq28
                                   exact JQ.next () rfl (Imp.norm (js := [0, 0, 0, 0, 0]) rfl (.cons rfl (.cons rfl (.cons rfl (.cons rfl (.cons rfl (.cons rfl (.cons rfl (.cons rfl .nil)))))))))
                                 · refine JC.condF (.tmp rfl) hc33 ?_
                                   refine JC.exit ?_
                                   refine JQ.outX ?_
                                   replace hq28 := Option.some.inj hq28
                                   first | subst hq28 | clear hq28
                                   have ht := hr _ rfl
                                   have hq27 := congrArg some ht
                                   clear hr ht
                                   refine JQ.outX ?_
                                   refine JQ.here ?_
                                   replace hq27 := Option.some.inj hq27
                                   first | subst hq27 | clear hq27
                                   exact JQ.join () (Imp.norm (js := [0, 0, 0, 0, 0]) rfl (.cons rfl (.cons rfl (.cons rfl (.cons rfl (.cons rfl (.cons rfl (.cons rfl (.cons rfl .nil)))))))))
                               · replace hx28 := lt1_inv hx28
                                 obtain ⟨v_61, hv_v_61, hx28⟩ := hx28
                                 replace hx28 := iteB_inv hx28
                                 rcases hx28 with ⟨hc30, hx28⟩ | ⟨hc30, hx28⟩
                                 · replace hx28 := bnd_inv hx28
                                   obtain ⟨i_62, hv_i_62, hx28⟩ := hx28
                                   replace hx28 := bnd_inv hx28
                                   obtain ⟨u_63, hv_u_63, hx28⟩ := hx28
                                   replace hx28 := lt1_inv hx28
                                   obtain ⟨v_64, hv_v_64, hx28⟩ := hx28
                                   replace hx28 := iteB_inv hx28
                                   rcases hx28 with ⟨hc32, hx28⟩ | ⟨hc32, hx28⟩
                                   · refine JC.anyE (kl := []) (kk := 0) (base := [(0, ov (S (rL r_law12_Act) t_1)), (3, ov (PTR gb_5 0)), (5, ov (HDR go_12 0 (List.length x_10) gc_13)), (6, ov (S (rI .i64) x_11)), (7, ov (PTR gb_38 0)), (13, ov (PTR gb_59 0)), (14, ov (S (rI .i64) v_57)), (15, ov (S (rI .i64) x_60))])
                                         (fs := fun γ => [⟨some 141, ov (S (rI .i64) x_60)⟩, ⟨some 142, ov (HDR go_12 0 (List.length x_10) gc_13)⟩, ⟨some 143, ov (S (rI .i64) (List.length x_10 : Int))⟩, ⟨some 144, ov (S rB v_61)⟩, ⟨some 145, ov (S rB v_61)⟩, ⟨some 146, ov (HDR go_12 0 (List.length x_10) gc_13)⟩, ⟨some 147, ov (S (rI .i64) x_60)⟩, ⟨some 148, ov (EPT go_12 (i_62 * 3))⟩, ⟨some 149, ov (EPT go_12 ((i_62 * 3) + 0))⟩, ⟨some 150, ov (S (rI .i64) u_63.From)⟩, ⟨some 151, ov (PTR gb_59 (0 + 0))⟩, ⟨some 152, ov (S (rI .i64) v_56.From)⟩, ⟨some 153, ov (S rB v_64)⟩, ⟨some 154, ov (S rB v_64)⟩, ⟨some 155, .one .und⟩, ⟨some 156, .one .und⟩, ⟨some 157, .one .und⟩, ⟨some 158, .one .und⟩, ⟨some 159, .one .und⟩, ⟨some 160, .one .und⟩, ⟨some 161, .one .und⟩, ⟨some 162, .one .und⟩, ⟨some 163, ov (S rB true)⟩, ⟨some 164, ov (S rB true)⟩])
                                         (rs := fun γ => [⟨cvar gb_5 (rP (rW (MPV go_6)) (rP (rI .i64) (rP (rI .i64) r0))) ((), ((4 : Int), (lost_9, ()))), none, none, []⟩, ⟨cmap go_6 (A r_net_pair) (S (rL (rL (rU UInt8)))) (some (x_58)), none, none, []⟩, ⟨cown go_12 r_api_Flight x_10 0 gc_13, none, none, [7, 9]⟩, ⟨cvar gb_38 r_api_Flight v_36, none, none, []⟩, ⟨cvar gb_59 r_api_Flight v_56, none, none, [11]⟩])
                                         (ds := [141, 142, 143, 144, 145, 146, 147, 148, 149, 150, 151, 152, 153, 154, 155, 156, 157, 158, 159, 160, 161, 162, 163, 164]) (bs := [0, 3, 5, 6, 7, 13, 14, 15]) (afts := [[], [], [], [], [], [], [], [], [], [], [], [], [], [], [], [], [], [], [], [], [], [], [], []]) (js := [0, 0, 0, 0, 0]) mixed (.cons rfl (.cons rfl (.cons rfl (.cons rfl (.cons rfl (.cons rfl (.cons rfl (.cons rfl .nil)))))))) (fun _ => rfl)
                                         (by
      refine dS 1 (fun γ ρ B hb hd => op_move lb (.tmp (hb 15 _ rfl))) ?_
      refine dS 2 (fun γ ρ B hb hd => op_move lb (.tmp (hb 5 _ rfl))) ?_
      refine dS 3 (fun γ ρ B hb hd => op_lenH lb tu30 (.tmp (hl hd 1 142 rfl))) ?_
      refine dS 4 (fun γ ρ B hb hd => op_cmpI lb (.tmp (hl hd 0 141 rfl)) (.tmp (hl hd 2 143 rfl)) (congrArg some hv_v_61)) ?_
      refine dS 5 (fun γ ρ B hb hd => op_move lb (.tmp (hl hd 3 144 rfl))) ?_
      refine DSteps.cons (j := 6) rfl (fun _ => rfl) (.run (fun γ ρ B hb hd => ⟨.yes rfl (ltB rfl) (hl hd 4 145 rfl) hc30, OpStep.at ⟨ρ, B, _⟩ (setO ⟨ρ, B, _⟩ _ _) (op_move lb (.tmp (hb 5 _ rfl)))⟩)) ?_
      refine DSteps.cons (j := 7) rfl (fun _ => rfl) (.run (fun γ ρ B hb hd => ⟨.yes rfl (ltB rfl) (hl hd 4 145 rfl) hc30, OpStep.at ⟨ρ, B, _⟩ (setO ⟨ρ, B, _⟩ _ _) (op_move lb (.tmp (hb 15 _ rfl)))⟩)) ?_
      refine DSteps.cons (j := 8) rfl (fun _ => rfl) (.run (fun γ ρ B hb hd => ⟨.yes rfl (ltB rfl) (hl hd 4 145 rfl) hc30, OpStep.at ⟨ρ, (cown go_12 r_api_Flight x_10 0 gc_13) :: B, _⟩ (setO ⟨ρ, (cown go_12 r_api_Flight x_10 0 gc_13) :: B, _⟩ _ _) (op_indexAddrOF (r := r_api_Flight) (j := 0) lb tu30 tz36 rfl (.tmp (hl hd 5 146 rfl)) (.tmp (hl hd 6 147 rfl)) hv_i_62)⟩)) ?_
      refine DSteps.cons (j := 9) rfl (fun _ => rfl) (.run (fun γ ρ B hb hd => ⟨.yes rfl (ltB rfl) (hl hd 4 145 rfl) hc30, OpStep.at ⟨ρ, B, _⟩ (setO ⟨ρ, B, _⟩ _ _) (op_fieldAddrE (off := 0) lb tf36_0 (.tmp (hl hd 7 148 rfl)))⟩)) ?_
      refine DSteps.cons (j := 10) rfl (fun _ => rfl) (.run (fun γ ρ B hb hd => ⟨.yes rfl (ltB rfl) (hl hd 4 145 rfl) hc30, OpStep.at ⟨ρ, (cown go_12 r_api_Flight x_10 0 gc_13) :: B, _⟩ (setO ⟨ρ, (cown go_12 r_api_Flight x_10 0 gc_13) :: B, _⟩ _ _) (op_loadOS (r := r_api_Flight) (i := i_62) (off := 0) (j := 0) lb tS3 rfl rfl (.tmp (hl hd 8 149 rfl)) hv_u_63 (Comp.at' (Comp.trans (Comp.self r_api_Flight u_63) (comp_api_Flight_From u_63) (Nat.le_of_ble_eq_true rfl)) rfl) (by decide))⟩)) ?_
      refine DSteps.cons (j := 11) rfl (fun _ => rfl) (.run (fun γ ρ B hb hd => ⟨.yes rfl (ltB rfl) (hl hd 4 145 rfl) hc30, OpStep.at ⟨ρ, B, _⟩ (setO ⟨ρ, B, _⟩ _ _) (op_fieldAddr (off := 0) lb tf36_0 (.tmp (hb 13 _ rfl)))⟩)) ?_
      refine DSteps.cons (j := 12) rfl (fun _ => rfl) (.run (fun γ ρ B hb hd => ⟨.yes rfl (ltB rfl) (hl hd 4 145 rfl) hc30, OpStep.at ⟨ρ, (cvar gb_59 r_api_Flight v_56) :: B, _⟩ (setO ⟨ρ, (cvar gb_59 r_api_Flight v_56) :: B, _⟩ _ _) (op_loadS (j := 0) lb tS3 (.tmp (hl hd 10 151 rfl)) rfl (Comp.trans (Comp.self r_api_Flight v_56) (comp_api_Flight_From v_56) (Nat.le_of_ble_eq_true rfl)) rfl rfl)⟩)) ?_
      refine DSteps.cons (j := 13) rfl (fun _ => rfl) (.run (fun γ ρ B hb hd => ⟨.yes rfl (ltB rfl) (hl hd 4 145 rfl) hc30, OpStep.at ⟨ρ, B, _⟩ (setO ⟨ρ, B, _⟩ _ _) (op_cmpI lb (.tmp (hl hd 9 150 rfl)) (.tmp (hl hd 11 152 rfl)) (congrArg some hv_v_64))⟩)) ?_
      refine DSteps.cons (j := 14) rfl (fun _ => rfl) (.run (fun γ ρ B hb hd => ⟨.yes rfl (ltB rfl) (hl hd 4 145 rfl) hc30, OpStep.at ⟨ρ, B, _⟩ (setO ⟨ρ, B, _⟩ _ _) (op_move lb (.tmp (hl hd 12 153 rfl)))⟩)) ?_
      refine DSteps.cons (j := 15) rfl (fun _ => rfl) (.skip (fun γ ρ B hb hd => ⟨.no rfl (ltB rfl) (hl hd 13 154 rfl) hc32, rfl, rfl, rfl, fun d h => by cases h; exact ltB rfl⟩)) ?_
      refine DSteps.cons (j := 16) rfl (fun _ => rfl) (.skip (fun γ ρ B hb hd => ⟨.no rfl (ltB rfl) (hl hd 13 154 rfl) hc32, rfl, rfl, rfl, fun d h => by cases h; exact ltB rfl⟩)) ?_
      refine DSteps.cons (j := 17) rfl (fun _ => rfl) (.skip (fun γ ρ B hb hd => ⟨.no rfl (ltB rfl) (hl hd 13 154 rfl) hc32, rfl, rfl, rfl, fun d h => by cases h; exact ltB rfl⟩)) ?_
      refine DSteps.cons (j := 18) rfl (fun _ => rfl) (.skip (fun γ ρ B hb hd => ⟨.no rfl (ltB rfl) (hl hd 13 154 rfl) hc32, rfl, rfl, rfl, fun d h => by cases h; exact ltB rfl⟩)) ?_
      refine DSteps.cons (j := 19) rfl (fun _ => rfl) (.skip (fun γ ρ B hb hd => ⟨.no rfl (ltB rfl) (hl hd 13 154 rfl) hc32, rfl, rfl, rfl, fun d h => by cases h; exact ltB rfl⟩)) ?_
      refine DSteps.cons (j := 20) rfl (fun _ => rfl) (.skip (fun γ ρ B hb hd => ⟨.no rfl (ltB rfl) (hl hd 13 154 rfl) hc32, rfl, rfl, rfl, fun d h => by cases h; exact ltB rfl⟩)) ?_
      refine DSteps.cons (j := 21) rfl (fun _ => rfl) (.skip (fun γ ρ B hb hd => ⟨.no rfl (ltB rfl) (hl hd 13 154 rfl) hc32, rfl, rfl, rfl, fun d h => by cases h; exact ltB rfl⟩)) ?_
      refine DSteps.cons (j := 22) rfl (fun _ => rfl) (.skip (fun γ ρ B hb hd => ⟨.no rfl (ltB rfl) (hl hd 13 154 rfl) hc32, rfl, rfl, rfl, fun d h => by cases h; exact ltB rfl⟩)) ?_
      refine DSteps.cons (j := 23) rfl (fun _ => rfl) (.run (fun γ ρ B hb hd => ⟨.yes rfl (ltB rfl) (hl hd 4 145 rfl) hc30, OpStep.at ⟨ρ, B, _⟩ (setO ⟨ρ, B, _⟩ _ _) (op_pickT lb (.tmp (hl hd 13 154 rfl)) hc32 .cB)⟩)) ?_
      refine dS 24 (fun γ ρ B hb hd => op_pickT lb (.tmp (hl hd 4 145 rfl)) hc30 (.tmp (hl hd 22 163 rfl))) ?_
      exact DSteps.nil)
                                         (by decide +kernel) (fun _ => rfl) rfl (fun _ => rfl) (fun _ => rfl) rfl (by decide) (by decide) (by decide +kernel) (fun _ d h => by cases h)
                                         (ρ' := fun γ => [(0, ov (S (rL r_law12_Act) t_1)), (3, ov (PTR gb_5 0)), (5, ov (HDR go_12 0 (List.length x_10) gc_13)), (6, ov (S (rI .i64) x_11)), (7, ov (PTR gb_38 0)), (13, ov (PTR gb_59 0)), (14, ov (S (rI .i64) v_57)), (15, ov (S (rI .i64) x_60)), (164, ov (S rB true))])
                                         (X' := fun γ => [cvar gb_5 (rP (rW (MPV go_6)) (rP (rI .i64) (rP (rI .i64) r0))) ((), ((4 : Int), (lost_9, ()))), cmap go_6 (A r_net_pair) (S (rL (rL (rU UInt8)))) (some (x_58)), cown go_12 r_api_Flight x_10 0 gc_13, cvar gb_38 r_api_Flight v_36, cvar gb_59 r_api_Flight v_56])
                                         (fun γ ρ hb hd => (.cons (hb 0 _ rfl (by decide)) (.cons (hb 3 _ rfl (by decide)) (.cons (hb 5 _ rfl (by decide)) (.cons (hb 6 _ rfl (by decide)) (.cons (hb 7 _ rfl (by decide)) (.cons (hb 13 _ rfl (by decide)) (.cons (hb 14 _ rfl (by decide)) (.cons (hb 15 _ rfl (by decide)) (.cons (hdq hd 23 164 rfl) .nil)))))))))) (fun _ => rfl) (fun γ => ?_)
                                     refine JQ.at ⟨[(0, ov (S (rL r_law12_Act) t_1)), (3, ov (PTR gb_5 0)), (5, ov (HDR go_12 0 (List.length x_10) gc_13)), (6, ov (S (rI .i64) x_11)), (7, ov (PTR gb_38 0)), (13, ov (PTR gb_59 0)), (14, ov (S (rI .i64) v_57)), (15, ov (S (rI .i64) x_60)), (164, ov (S rB true))], [cvar gb_5 (rP (rW (MPV go_6)) (rP (rI .i64) (rP (rI .i64) r0))) ((), ((4 : Int), (lost_9, ()))), cmap go_6 (A r_net_pair) (S (rL (rL (rU UInt8)))) (some (x_58)), cown go_12 r_api_Flight x_10 0 gc_13, cvar gb_38 r_api_Flight v_36, cvar gb_59 r_api_Flight v_56], []⟩ ?_
                                     replace hx28 := Option.some.inj hx28
                                     first | subst hx28 | clear hx28
                                     exact JQ.join () (Imp.norm (js := [0, 0, 0, 0, 0]) rfl (.cons rfl (.cons rfl (.cons rfl (.cons rfl (.cons rfl (.cons rfl (.cons rfl (.cons rfl (.cons rfl .nil))))))))))
                                   · replace hx28 := bnd_inv hx28
                                     obtain ⟨i_65, hv_i_65, hx28⟩ := hx28
                                     replace hx28 := bnd_inv hx28
                                     obtain ⟨u_66, hv_u_66, hx28⟩ := hx28
                                     replace hx28 := lt1_inv hx28
                                     obtain ⟨v_67, hv_v_67, hx28⟩ := hx28
                                     refine JC.anyE (kl := []) (kk := 0) (base := [(0, ov (S (rL r_law12_Act) t_1)), (3, ov (PTR gb_5 0)), (5, ov (HDR go_12 0 (List.length x_10) gc_13)), (6, ov (S (rI .i64) x_11)), (7, ov (PTR gb_38 0)), (13, ov (PTR gb_59 0)), (14, ov (S (rI .i64) v_57)), (15, ov (S (rI .i64) x_60))])
                                         (fs := fun γ => [⟨some 141, ov (S (rI .i64) x_60)⟩, ⟨some 142, ov (HDR go_12 0 (List.length x_10) gc_13)⟩, ⟨some 143, ov (S (rI .i64) (List.length x_10 : Int))⟩, ⟨some 144, ov (S rB v_61)⟩, ⟨some 145, ov (S rB v_61)⟩, ⟨some 146, ov (HDR go_12 0 (List.length x_10) gc_13)⟩, ⟨some 147, ov (S (rI .i64) x_60)⟩, ⟨some 148, ov (EPT go_12 (i_62 * 3))⟩, ⟨some 149, ov (EPT go_12 ((i_62 * 3) + 0))⟩, ⟨some 150, ov (S (rI .i64) u_63.From)⟩, ⟨some 151, ov (PTR gb_59 (0 + 0))⟩, ⟨some 152, ov (S (rI .i64) v_56.From)⟩, ⟨some 153, ov (S rB v_64)⟩, ⟨some 154, ov (S rB v_64)⟩, ⟨some 155, ov (HDR go_12 0 (List.length x_10) gc_13)⟩, ⟨some 156, ov (S (rI .i64) x_60)⟩, ⟨some 157, ov (EPT go_12 (i_65 * 3))⟩, ⟨some 158, ov (EPT go_12 ((i_65 * 3) + 1))⟩, ⟨some 159, ov (S (rI .i64) u_66.To)⟩, ⟨some 160, ov (PTR gb_59 (0 + 1))⟩, ⟨some 161, ov (S (rI .i64) v_56.To)⟩, ⟨some 162, ov (S rB v_67)⟩, ⟨some 163, ov (S rB v_67)⟩, ⟨some 164, ov (S rB v_67)⟩])
                                         (rs := fun γ => [⟨cvar gb_5 (rP (rW (MPV go_6)) (rP (rI .i64) (rP (rI .i64) r0))) ((), ((4 : Int), (lost_9, ()))), none, none, []⟩, ⟨cmap go_6 (A r_net_pair) (S (rL (rL (rU UInt8)))) (some (x_58)), none, none, []⟩, ⟨cown go_12 r_api_Flight x_10 0 gc_13, none, none, [7, 9, 16, 18]⟩, ⟨cvar gb_38 r_api_Flight v_36, none, none, []⟩, ⟨cvar gb_59 r_api_Flight v_56, none, none, [11, 20]⟩])
                                         (ds := [141, 142, 143, 144, 145, 146, 147, 148, 149, 150, 151, 152, 153, 154, 155, 156, 157, 158, 159, 160, 161, 162, 163, 164]) (bs := [0, 3, 5, 6, 7, 13, 14, 15]) (afts := [[], [], [], [], [], [], [], [], [], [], [], [], [], [], [], [], [], [], [], [], [], [], [], []]) (js := [0, 0, 0, 0, 0]) mixed (.cons rfl (.cons rfl (.cons rfl (.cons rfl (.cons rfl (.cons rfl (.cons rfl (.cons rfl .nil)))))))) (fun _ => rfl)
                                         (by
      refine dS 1 (fun γ ρ B hb hd => op_move lb (.tmp (hb 15 _ rfl))) ?_
      refine dS 2 (fun γ ρ B hb hd => op_move lb (.tmp (hb 5 _ rfl))) ?_
      refine dS 3 (fun γ ρ B hb hd => op_lenH lb tu30 (.tmp (hl hd 1 142 rfl))) ?_
      refine dS 4 (fun γ ρ B hb hd => op_cmpI lb (.tmp (hl hd 0 141 rfl)) (.tmp (hl hd 2 143 rfl)) (congrArg some hv_v_61)) ?_
      refine dS 5 (fun γ ρ B hb hd => op_move lb (.tmp (hl hd 3 144 rfl))) ?_
      refine DSteps.cons (j := 6) rfl (fun _ => rfl) (.run (fun γ ρ B hb hd => ⟨.yes rfl (ltB rfl) (hl hd 4 145 rfl) hc30, OpStep.at ⟨ρ, B, _⟩ (setO ⟨ρ, B, _⟩ _ _) (op_move lb (.tmp (hb 5 _ rfl)))⟩)) ?_
      refine DSteps.cons (j := 7) rfl (fun _ => rfl) (.run (fun γ ρ B hb hd => ⟨.yes rfl (ltB rfl) (hl hd 4 145 rfl) hc30, OpStep.at ⟨ρ, B, _⟩ (setO ⟨ρ, B, _⟩ _ _) (op_move lb (.tmp (hb 15 _ rfl)))⟩)) ?_
      refine DSteps.cons (j := 8) rfl (fun _ => rfl) (.run (fun γ ρ B hb hd => ⟨.yes rfl (ltB rfl) (hl hd 4 145 rfl) hc30, OpStep.at ⟨ρ, (cown go_12 r_api_Flight x_10 0 gc_13) :: B, _⟩ (setO ⟨ρ, (cown go_12 r_api_Flight x_10 0 gc_13) :: B, _⟩ _ _) (op_indexAddrOF (r := r_api_Flight) (j := 0) lb tu30 tz36 rfl (.tmp (hl hd 5 146 rfl)) (.tmp (hl hd 6 147 rfl)) hv_i_62)⟩)) ?_
      refine DSteps.cons (j := 9) rfl (fun _ => rfl) (.run (fun γ ρ B hb hd => ⟨.yes rfl (ltB rfl) (hl hd 4 145 rfl) hc30, OpStep.at ⟨ρ, B, _⟩ (setO ⟨ρ, B, _⟩ _ _) (op_fieldAddrE (off := 0) lb tf36_0 (.tmp (hl hd 7 148 rfl)))⟩)) ?_
      refine DSteps.cons (j := 10) rfl (fun _ => rfl) (.run (fun γ ρ B hb hd => ⟨.yes rfl (ltB rfl) (hl hd 4 145 rfl) hc30, OpStep.at ⟨ρ, (cown go_12 r_api_Flight x_10 0 gc_13) :: B, _⟩ (setO ⟨ρ, (cown go_12 r_api_Flight x_10 0 gc_13) :: B, _⟩ _ _) (op_loadOS (r := r_api_Flight) (i := i_62) (off := 0) (j := 0) lb tS3 rfl rfl (.tmp (hl hd 8 149 rfl)) hv_u_63 (Comp.at' (Comp.trans (Comp.self r_api_Flight u_63) (comp_api_Flight_From u_63) (Nat.le_of_ble_eq_true rfl)) rfl) (by decide))⟩)) ?_
      refine DSteps.cons (j := 11) rfl (fun _ => rfl) (.run (fun γ ρ B hb hd => ⟨.yes rfl (ltB rfl) (hl hd 4 145 rfl) hc30, OpStep.at ⟨ρ, B, _⟩ (setO ⟨ρ, B, _⟩ _ _) (op_fieldAddr (off := 0) lb tf36_0 (.tmp (hb 13 _ rfl)))⟩)) ?_
      refine DSteps.cons (j := 12) rfl (fun _ => rfl) (.run (fun γ ρ B hb hd => ⟨.yes rfl (ltB rfl) (hl hd 4 145 rfl) hc30, OpStep.at ⟨ρ, (cvar gb_59 r_api_Flight v_56) :: B, _⟩ (setO ⟨ρ, (cvar gb_59 r_api_Flight v_56) :: B, _⟩ _ _) (op_loadS (j := 0) lb tS3 (.tmp (hl hd 10 151 rfl)) rfl (Comp.trans (Comp.self r_api_Flight v_56) (comp_api_Flight_From v_56) (Nat.le_of_ble_eq_true rfl)) rfl rfl)⟩)) ?_
      refine DSteps.cons (j := 13) rfl (fun _ => rfl) (.run (fun γ ρ B hb hd => ⟨.yes rfl (ltB rfl) (hl hd 4 145 rfl) hc30, OpStep.at ⟨ρ, B, _⟩ (setO ⟨ρ, B, _⟩ _ _) (op_cmpI lb (.tmp (hl hd 9 150 rfl)) (.tmp (hl hd 11 152 rfl)) (congrArg some hv_v_64))⟩)) ?_
      refine DSteps.cons (j := 14) rfl (fun _ => rfl) (.run (fun γ ρ B hb hd => ⟨.yes rfl (ltB rfl) (hl hd 4 145 rfl) hc30, OpStep.at ⟨ρ, B, _⟩ (setO ⟨ρ, B, _⟩ _ _) (op_move lb (.tmp (hl hd 12 153 rfl)))⟩)) ?_
      refine DSteps.cons (j := 15) rfl (fun _ => rfl) (.run (fun γ ρ B hb hd => ⟨.yes rfl (ltB rfl) (hl hd 13 154 rfl) hc32, OpStep.at ⟨ρ, B, _⟩ (setO ⟨ρ, B, _⟩ _ _) (op_move lb (.tmp (hb 5 _ rfl)))⟩)) ?_
      refine DSteps.cons (j := 16) rfl (fun _ => rfl) (.run (fun γ ρ B hb hd => ⟨.yes rfl (ltB rfl) (hl hd 13 154 rfl) hc32, OpStep.at ⟨ρ, B, _⟩ (setO ⟨ρ, B, _⟩ _ _) (op_move lb (.tmp (hb 15 _ rfl)))⟩)) ?_
      refine DSteps.cons (j := 17) rfl (fun _ => rfl) (.run (fun γ ρ B hb hd => ⟨.yes rfl (ltB rfl) (hl hd 13 154 rfl) hc32, OpStep.at ⟨ρ, (cown go_12 r_api_Flight x_10 0 gc_13) :: B, _⟩ (setO ⟨ρ, (cown go_12 r_api_Flight x_10 0 gc_13) :: B, _⟩ _ _) (op_indexAddrOF (r := r_api_Flight) (j := 0) lb tu30 tz36 rfl (.tmp (hl hd 14 155 rfl)) (.tmp (hl hd 15 156 rfl)) hv_i_65)⟩)) ?_
      refine DSteps.cons (j := 18) rfl (fun _ => rfl) (.run (fun γ ρ B hb hd => ⟨.yes rfl (ltB rfl) (hl hd 13 154 rfl) hc32, OpStep.at ⟨ρ, B, _⟩ (setO ⟨ρ, B, _⟩ _ _) (op_fieldAddrE (off := 1) lb tf36_1 (.tmp (hl hd 16 157 rfl)))⟩)) ?_
      refine DSteps.cons (j := 19) rfl (fun _ => rfl) (.run (fun γ ρ B hb hd => ⟨.yes rfl (ltB rfl) (hl hd 13 154 rfl) hc32, OpStep.at ⟨ρ, (cown go_12 r_api_Flight x_10 0 gc_13) :: B, _⟩ (setO ⟨ρ, (cown go_12 r_api_Flight x_10 0 gc_13) :: B, _⟩ _ _) (op_loadOS (r := r_api_Flight) (i := i_65) (off := 1) (j := 0) lb tS3 rfl rfl (.tmp (hl hd 17 158 rfl)) hv_u_66 (Comp.at' (Comp.trans (Comp.self r_api_Flight u_66) (comp_api_Flight_To u_66) (Nat.le_of_ble_eq_true rfl)) rfl) (by decide))⟩)) ?_
      refine DSteps.cons (j := 20) rfl (fun _ => rfl) (.run (fun γ ρ B hb hd => ⟨.yes rfl (ltB rfl) (hl hd 13 154 rfl) hc32, OpStep.at ⟨ρ, B, _⟩ (setO ⟨ρ, B, _⟩ _ _) (op_fieldAddr (off := 1) lb tf36_1 (.tmp (hb 13 _ rfl)))⟩)) ?_
      refine DSteps.cons (j := 21) rfl (fun _ => rfl) (.run (fun γ ρ B hb hd => ⟨.yes rfl (ltB rfl) (hl hd 13 154 rfl) hc32, OpStep.at ⟨ρ, (cvar gb_59 r_api_Flight v_56) :: B, _⟩ (setO ⟨ρ, (cvar gb_59 r_api_Flight v_56) :: B, _⟩ _ _) (op_loadS (j := 0) lb tS3 (.tmp (hl hd 19 160 rfl)) rfl (Comp.trans (Comp.self r_api_Flight v_56) (comp_api_Flight_To v_56) (Nat.le_of_ble_eq_true rfl)) rfl rfl)⟩)) ?_
      refine DSteps.cons (j := 22) rfl (fun _ => rfl) (.run (fun γ ρ B hb hd => ⟨.yes rfl (ltB rfl) (hl hd 13 154 rfl) hc32, OpStep.at ⟨ρ, B, _⟩ (setO ⟨ρ, B, _⟩ _ _) (op_cmpI lb (.tmp (hl hd 18 159 rfl)) (.tmp (hl hd 20 161 rfl)) (congrArg some hv_v_67))⟩)) ?_
      refine DSteps.cons (j := 23) rfl (fun _ => rfl) (.run (fun γ ρ B hb hd => ⟨.yes rfl (ltB rfl) (hl hd 4 145 rfl) hc30, OpStep.at ⟨ρ, B, _⟩ (setO ⟨ρ, B, _⟩ _ _) (op_pickF lb (.tmp (hl hd 13 154 rfl)) hc32 (.tmp (hl hd 21 162 rfl)))⟩)) ?_
      refine dS 24 (fun γ ρ B hb hd => op_pickT lb (.tmp (hl hd 4 145 rfl)) hc30 (.tmp (hl hd 22 163 rfl))) ?_
      exact DSteps.nil)
                                         (by decide +kernel) (fun _ => rfl) rfl (fun _ => rfl) (fun _ => rfl) rfl (by decide) (by decide) (by decide +kernel) (fun _ d h => by cases h)
                                         (ρ' := fun γ => [(0, ov (S (rL r_law12_Act) t_1)), (3, ov (PTR gb_5 0)), (5, ov (HDR go_12 0 (List.length x_10) gc_13)), (6, ov (S (rI .i64) x_11)), (7, ov (PTR gb_38 0)), (13, ov (PTR gb_59 0)), (14, ov (S (rI .i64) v_57)), (15, ov (S (rI .i64) x_60)), (164, ov (S rB v_67))])
                                         (X' := fun γ => [cvar gb_5 (rP (rW (MPV go_6)) (rP (rI .i64) (rP (rI .i64) r0))) ((), ((4 : Int), (lost_9, ()))), cmap go_6 (A r_net_pair) (S (rL (rL (rU UInt8)))) (some (x_58)), cown go_12 r_api_Flight x_10 0 gc_13, cvar gb_38 r_api_Flight v_36, cvar gb_59 r_api_Flight v_56])
                                         (fun γ ρ hb hd => (.cons (hb 0 _ rfl (by decide)) (.cons (hb 3 _ rfl (by decide)) (.cons (hb 5 _ rfl (by decide)) (.cons (hb 6 _ rfl (by decide)) (.cons (hb 7 _ rfl (by decide)) (.cons (hb 13 _ rfl (by decide)) (.cons (hb 14 _ rfl (by decide)) (.cons (hb 15 _ rfl (by decide)) (.cons (hdq hd 23 164 rfl) .nil)))))))))) (fun _ => rfl) (fun γ => ?_)
                                     refine JQ.at ⟨[(0, ov (S (rL r_law12_Act) t_1)), (3, ov (PTR gb_5 0)), (5, ov (HDR go_12 0 (List.length x_10) gc_13)), (6, ov (S (rI .i64) x_11)), (7, ov (PTR gb_38 0)), (13, ov (PTR gb_59 0)), (14, ov (S (rI .i64) v_57)), (15, ov (S (rI .i64) x_60)), (164, ov (S rB v_67))], [cvar gb_5 (rP (rW (MPV go_6)) (rP (rI .i64) (rP (rI .i64) r0))) ((), ((4 : Int), (lost_9, ()))), cmap go_6 (A r_net_pair) (S (rL (rL (rU UInt8)))) (some (x_58)), cown go_12 r_api_Flight x_10 0 gc_13, cvar gb_38 r_api_Flight v_36, cvar gb_59 r_api_Flight v_56], []⟩ ?_
                                     replace hx28 := Option.some.inj hx28
                                     first | subst hx28 | clear hx28
                                     exact JQ.join () (Imp.norm (js := [0, 0, 0, 0, 0]) rfl (.cons rfl (.cons rfl (.cons rfl (.cons rfl (.cons rfl (.cons rfl (.cons rfl (.cons rfl (.cons rfl .nil))))))))))
                                 · refine JC.anyE (kl := []) (kk := 0) (base := [(0, ov (S (rL r_law12_Act) t_1)), (3, ov (PTR gb_5 0)), (5, ov (HDR go_12 0 (List.length x_10) gc_13)), (6, ov (S (rI .i64) x_11)), (7, ov (PTR gb_38 0)), (13, ov (PTR gb_59 0)), (14, ov (S (rI .i64) v_57)), (15, ov (S (rI .i64) x_60))])
                                       (fs := fun γ => [⟨some 141, ov (S (rI .i64) x_60)⟩, ⟨some 142, ov (HDR go_12 0 (List.length x_10) gc_13)⟩, ⟨some 143, ov (S (rI .i64) (List.length x_10 : Int))⟩, ⟨some 144, ov (S rB v_61)⟩, ⟨some 145, ov (S rB v_61)⟩, ⟨some 146, .one .und⟩, ⟨some 147, .one .und⟩, ⟨some 148, .one .und⟩, ⟨some 149, .one .und⟩, ⟨some 150, .one .und⟩, ⟨some 151, .one .und⟩, ⟨some 152, .one .und⟩, ⟨some 153, .one .und⟩, ⟨some 154, .one .und⟩, ⟨some 155, .one .und⟩, ⟨some 156, .one .und⟩, ⟨some 157, .one .und⟩, ⟨some 158, .one .und⟩, ⟨some 159, .one .und⟩, ⟨some 160, .one .und⟩, ⟨some 161, .one .und⟩, ⟨some 162, .one .und⟩, ⟨some 163, .one .und⟩, ⟨some 164, ov (S rB false)⟩])
                                       (rs := fun γ => [⟨cvar gb_5 (rP (rW (MPV go_6)) (rP (rI .i64) (rP (rI .i64) r0))) ((), ((4 : Int), (lost_9, ()))), none, none, []⟩, ⟨cmap go_6 (A r_net_pair) (S (rL (rL (rU UInt8)))) (some (x_58)), none, none, []⟩, ⟨cown go_12 r_api_Flight x_10 0 gc_13, none, none, []⟩, ⟨cvar gb_38 r_api_Flight v_36, none, none, []⟩, ⟨cvar gb_59 r_api_Flight v_56, none, none, []⟩])
                                       (ds := [141, 142, 143, 144, 145, 146, 147, 148, 149, 150, 151, 152, 153, 154, 155, 156, 157, 158, 159, 160, 161, 162, 163, 164]) (bs := [0, 3, 5, 6, 7, 13, 14, 15]) (afts := [[], [], [], [], [], [], [], [], [], [], [], [], [], [], [], [], [], [], [], [], [], [], [], []]) (js := [0, 0, 0, 0, 0]) mixed (.cons rfl (.cons rfl (.cons rfl (.cons rfl (.cons rfl (.cons rfl (.cons rfl (.cons rfl .nil)))))))) (fun _ => rfl)
                                       (by
      refine dS 1 (fun γ ρ B hb hd => op_move lb (.tmp (hb 15 _ rfl))) ?_
      refine dS 2 (fun γ ρ B hb hd => op_move lb (.tmp (hb 5 _ rfl))) ?_
      refine dS 3 (fun γ ρ B hb hd => op_lenH lb tu30 (.tmp (hl hd 1 142 rfl))) ?_
      refine dS 4 (fun γ ρ B hb hd => op_cmpI lb (.tmp (hl hd 0 141 rfl)) (.tmp (hl hd 2 143 rfl)) (congrArg some hv_v_61)) ?_
      refine dS 5 (fun γ ρ B hb hd => op_move lb (.tmp (hl hd 3 144 rfl))) ?_
      refine DSteps.cons (j := 6) rfl (fun _ => rfl) (.skip (fun γ ρ B hb hd => ⟨.no rfl (ltB rfl) (hl hd 4 145 rfl) hc30, rfl, rfl, rfl, fun d h => by cases h; exact ltB rfl⟩)) ?_
      refine DSteps.cons (j := 7) rfl (fun _ => rfl) (.skip (fun γ ρ B hb hd => ⟨.no rfl (ltB rfl) (hl hd 4 145 rfl) hc30, rfl, rfl, rfl, fun d h => by cases h; exact ltB rfl⟩)) ?_
      refine DSteps.cons (j := 8) rfl (fun _ => rfl) (.skip (fun γ ρ B hb hd => ⟨.no rfl (ltB rfl) (hl hd 4 145 rfl) hc30, rfl, rfl, rfl, fun d h => by cases h; exact ltB rfl⟩)) ?_
      refine DSteps.cons (j := 9) rfl (fun _ => rfl) (.skip (fun γ ρ B hb hd => ⟨.no rfl (ltB rfl) (hl hd 4 145 rfl) hc30, rfl, rfl, rfl, fun d h => by cases h; exact ltB rfl⟩)) ?_
      refine DSteps.cons (j := 10) rfl (fun _ => rfl) (.skip (fun γ ρ B hb hd => ⟨.no rfl (ltB rfl) (hl hd 4 145 rfl) hc30, rfl, rfl, rfl, fun d h => by cases h; exact ltB rfl⟩)) ?_
      refine DSteps.cons (j := 11) rfl (fun _ => rfl) (.skip (fun γ ρ B hb hd => ⟨.no rfl (ltB rfl) (hl hd 4 145 rfl) hc30, rfl, rfl, rfl, fun d h => by cases h; exact ltB rfl⟩)) ?_
      refine DSteps.cons (j := 12) rfl (fun _ => rfl) (.skip (fun γ ρ B hb hd => ⟨.no rfl (ltB rfl) (hl hd 4 145 rfl) hc30, rfl, rfl, rfl, fun d h => by cases h; exact ltB rfl⟩)) ?_
      refine DSteps.cons (j := 13) rfl (fun _ => rfl) (.skip (fun γ ρ B hb hd => ⟨.no rfl (ltB rfl) (hl hd 4 145 rfl) hc30, rfl, rfl, rfl, fun d h => by cases h; exact ltB rfl⟩)) ?_
      refine DSteps.cons (j := 14) rfl (fun _ => rfl) (.skip (fun γ ρ B hb hd => ⟨.no rfl (ltB rfl) (hl hd 4 145 rfl) hc30, rfl, rfl, rfl, fun d h => by cases h; exact ltB rfl⟩)) ?_
      refine DSteps.cons (j := 15) rfl (fun _ => rfl) (.skip (fun γ ρ B hb hd => ⟨.und rfl (ltB rfl) (hl hd 13 154 rfl), rfl, rfl, rfl, fun d h => by cases h; exact ltB rfl⟩)) ?_
      refine DSteps.cons (j := 16) rfl (fun _ => rfl) (.skip (fun γ ρ B hb hd => ⟨.und rfl (ltB rfl) (hl hd 13 154 rfl), rfl, rfl, rfl, fun d h => by cases h; exact ltB rfl⟩)) ?_
      refine DSteps.cons (j := 17) rfl (fun _ => rfl) (.skip (fun γ ρ B hb hd => ⟨.und rfl (ltB rfl) (hl hd 13 154 rfl), rfl, rfl, rfl, fun d h => by cases h; exact ltB rfl⟩)) ?_
      refine DSteps.cons (j := 18) rfl (fun _ => rfl) (.skip (fun γ ρ B hb hd => ⟨.und rfl (ltB rfl) (hl hd 13 154 rfl), rfl, rfl, rfl, fun d h => by cases h; exact ltB rfl⟩)) ?_
      refine DSteps.cons (j := 19) rfl (fun _ => rfl) (.skip (fun γ ρ B hb hd => ⟨.und rfl (ltB rfl) (hl hd 13 154 rfl), rfl, rfl, rfl, fun d h => by cases h; exact ltB rfl⟩)) ?_
      refine DSteps.cons (j := 20) rfl (fun _ => rfl) (.skip (fun γ ρ B hb hd => ⟨.und rfl (ltB rfl) (hl hd 13 154 rfl), rfl, rfl, rfl, fun d h => by cases h; exact ltB rfl⟩)) ?_
      refine DSteps.cons (j := 21) rfl (fun _ => rfl) (.skip (fun γ ρ B hb hd => ⟨.und rfl (ltB rfl) (hl hd 13 154 rfl), rfl, rfl, rfl, fun d h => by cases h; exact ltB rfl⟩)) ?_
      refine DSteps.cons (j := 22) rfl (fun _ => rfl) (.skip (fun γ ρ B hb hd => ⟨.und rfl (ltB rfl) (hl hd 13 154 rfl), rfl, rfl, rfl, fun d h => by cases h; exact ltB rfl⟩)) ?_
      refine DSteps.cons (j := 23) rfl (fun _ => rfl) (.skip (fun γ ρ B hb hd => ⟨.no rfl (ltB rfl) (hl hd 4 145 rfl) hc30, rfl, rfl, rfl, fun d h => by cases h; exact ltB rfl⟩)) ?_
      refine dS 24 (fun γ ρ B hb hd => op_pickF lb (.tmp (hl hd 4 145 rfl)) hc30 .cB) ?_
      exact DSteps.nil)
                                       (by decide +kernel) (fun _ => rfl) rfl (fun _ => rfl) (fun _ => rfl) rfl (by decide) (by decide) (by decide +kernel) (fun _ d h => by cases h)
                                       (ρ' := fun γ => [(0, ov (S (rL r_law12_Act) t_1)), (3, ov (PTR gb_5 0)), (5, ov (HDR go_12 0 (List.length x_10) gc_13)), (6, ov (S (rI .i64) x_11)), (7, ov (PTR gb_38 0)), (13, ov (PTR gb_59 0)), (14, ov (S (rI .i64) v_57)), (15, ov (S (rI .i64) x_60)), (164, ov (S rB false))])
                                       (X' := fun γ => [cvar gb_5 (rP (rW (MPV go_6)) (rP (rI .i64) (rP (rI .i64) r0))) ((), ((4 : Int), (lost_9, ()))), cmap go_6 (A r_net_pair) (S (rL (rL (rU UInt8)))) (some (x_58)), cown go_12 r_api_Flight x_10 0 gc_13, cvar gb_38 r_api_Flight v_36, cvar gb_59 r_api_Flight v_56])
                                       (fun γ ρ hb hd => (.cons (hb 0 _ rfl (by decide)) (.cons (hb 3 _ rfl (by decide)) (.cons (hb 5 _ rfl (by decide)) (.cons (hb 6 _ rfl (by decide)) (.cons (hb 7 _ rfl (by decide)) (.cons (hb 13 _ rfl (by decide)) (.cons (hb 14 _ rfl (by decide)) (.cons (hb 15 _ rfl (by decide)) (.cons (hdq hd 23 164 rfl) .nil)))))))))) (fun _ => rfl) (fun γ => ?_)
                                   refine JQ.at ⟨[(0, ov (S (rL r_law12_Act) t_1)), (3, ov (PTR gb_5 0)), (5, ov (HDR go_12 0 (List.length x_10) gc_13)), (6, ov (S (rI .i64) x_11)), (7, ov (PTR gb_38 0)), (13, ov (PTR gb_59 0)), (14, ov (S (rI .i64) v_57)), (15, ov (S (rI .i64) x_60)), (164, ov (S rB false))], [cvar gb_5 (rP (rW (MPV go_6)) (rP (rI .i64) (rP (rI .i64) r0))) ((), ((4 : Int), (lost_9, ()))), cmap go_6 (A r_net_pair) (S (rL (rL (rU UInt8)))) (some (x_58)), cown go_12 r_api_Flight x_10 0 gc_13, cvar gb_38 r_api_Flight v_36, cvar gb_59 r_api_Flight v_56], []⟩ ?_
                                   replace hx28 := Option.some.inj hx28
                                   first | subst hx28 | clear hx28
                                   exact JQ.join () (Imp.norm (js := [0, 0, 0, 0, 0]) rfl (.cons rfl (.cons rfl (.cons rfl (.cons rfl (.cons rfl (.cons rfl (.cons rfl (.cons rfl (.cons rfl .nil))))))))))
                         · refine JC.seq ?_
                           refine JC.region ?_
                           refine jc (op_assign lb .cI) ?_
                           refine JL.nil ?_
                           refine JQ.then ?_
                           refine JC.block ?_
                           refine JC.pre ?_ (JC.loop (γ := Unit) (stf := fun s q => ⟨[(0, ov (S (rL r_law12_Act) t_1)), (3, ov (PTR gb_5 0)), (5, ov (HDR go_12 0 (List.length x_10) gc_13)), (6, ov (S (rI .i64) x_11)), (7, ov (PTR gb_38 0)), (9, ov (S (rI .i64) s.1)), (10, ov (S (rI .i64) s.2))], [cvar gb_5 (rP (rW (MPV go_6)) (rP (rI .i64) (rP (rI .i64) r0))) ((), ((4 : Int), (lost_9, ()))), cmap go_6 (A r_net_pair) (S (rL (rL (rU UInt8)))) (some x_8), cown go_12 r_api_Flight x_10 0 gc_13, cvar gb_38 r_api_Flight v_36], []⟩) (q := ()) hx16 ?_)
                           · exact (Imp.norm (js := [0, 0, 0, 0]) rfl (.cons rfl (.cons rfl (.cons rfl (.cons rfl (.cons rfl (.cons rfl (.cons rfl .nil))))))))
                           · intro s q x hx hr
                             obtain ⟨x_41, x_42⟩ := s
                             obtain _ := q
                             change law12_NetMeans'2.b2 k t_1 x_11 lost_9 x_8 v_36 x_41 x_42 = some x at hx
                             unfold law12_NetMeans'2.b2 at hx
                             refine JC.at ⟨[(0, ov (S (rL r_law12_Act) t_1)), (3, ov (PTR gb_5 0)), (5, ov (HDR go_12 0 (List.length x_10) gc_13)), (6, ov (S (rI .i64) x_11)), (7, ov (PTR gb_38 0)), (9, ov (S (rI .i64) x_41)), (10, ov (S (rI .i64) x_42))], [cvar gb_5 (rP (rW (MPV go_6)) (rP (rI .i64) (rP (rI .i64) r0))) ((), ((4 : Int), (lost_9, ()))), cmap go_6 (A r_net_pair) (S (rL (rL (rU UInt8)))) (some x_8), cown go_12 r_api_Flight x_10 0 gc_13, cvar gb_38 r_api_Flight v_36], []⟩ ?_
                             refine JC.seq ?_
                             refine JC.seq ?_
                             refine JC.region ?_
                             refine jc (op_move lb (.tmp rfl)) ?_
                             refine jc (op_move lb (.tmp rfl)) ?_
                             refine jc (op_move lb (.tmp rfl)) ?_
                             replace hx := bnd_inv hx
                             obtain ⟨v_43, hv_v_43, hx⟩ := hx
                             refine jc (op_indexAddrLg lb tu22 tz33 (.tmp rfl) (.tmp rfl) hv_v_43) ?_
                             refine jc (op_fieldAddrP lb tf33_1 (.tmp rfl) (comp_law12_Act_A v_43)) ?_
                             refine jc (op_loadPSg lb tS3 rfl (.tmp rfl) rfl) ?_
                             replace hx := lt1_inv hx
                             obtain ⟨v_44, hv_v_44, hx⟩ := hx
                             refine jc (op_cmpI lb (.tmp rfl) (.tmp rfl) (congrArg some hv_v_44)) ?_
                             refine JL.nil ?_
                             refine JQ.then ?_
                             replace hx := iteB_inv hx
                             rcases hx with ⟨hc18, hx⟩ | ⟨hc18, hx⟩
                             · refine JC.condT (.tmp rfl) hc18 ?_
                               refine JC.skip ?_
                               refine JQ.then ?_
                               replace hx := bnd_inv hx
                               obtain ⟨x_53, hx19, hq19⟩ := hx
                               refine JC.seqJ (γ := Unit) (stj := fun q => ⟨[(0, ov (S (rL r_law12_Act) t_1)), (3, ov (PTR gb_5 0)), (5, ov (HDR go_12 0 (List.length x_10) gc_13)), (6, ov (S (rI .i64) x_11)), (7, ov (PTR gb_38 0)), (9, ov (S (rI .i64) x_53)), (10, ov (S (rI .i64) x_42))], [cvar gb_5 (rP (rW (MPV go_6)) (rP (rI .i64) (rP (rI .i64) r0))) ((), ((4 : Int), (lost_9, ()))), cmap go_6 (A r_net_pair) (S (rL (rL (rU UInt8)))) (some x_8), cown go_12 r_api_Flight x_10 0 gc_13, cvar gb_38 r_api_Flight v_36], []⟩) (fun q => ?_) ?_
                               · obtain _ := q
                                 refine JC.at ⟨[(0, ov (S (rL r_law12_Act) t_1)), (3, ov (PTR gb_5 0)), (5, ov (HDR go_12 0 (List.length x_10) gc_13)), (6, ov (S (rI .i64) x_11)), (7, ov (PTR gb_38 0)), (9, ov (S (rI .i64) x_53)), (10, ov (S (rI .i64) x_42))], [cvar gb_5 (rP (rW (MPV go_6)) (rP (rI .i64) (rP (rI .i64) r0))) ((), ((4 : Int), (lost_9, ()))), cmap go_6 (A r_net_pair) (S (rL (rL (rU UInt8)))) (some x_8), cown go_12 r_api_Flight x_10 0 gc_13, cvar gb_38 r_api_Flight v_36], []⟩ ?_
                                 refine JC.region ?_
                                 refine jc (op_move lb (.tmp rfl)) ?_
                                 replace hq19 := lt1_inv hq19
                                 obtain ⟨v_54, hv_v_54, hq19⟩ := hq19
                                 refine jc (op_arI lb (.tmp rfl) .cI (congrArg some hv_v_54)) ?_
                                 refine jc (op_assign lb (.tmp rfl)) ?_
                                 refine JL.nil ?_
                                 replace hq19 := Option.some.inj hq19
                                 first | subst hq19 | clear hq19
                                 exact JQ.next () rfl (Imp.norm (js := [0, 0, 0, 0]) rfl (.cons rfl (.cons rfl (.cons rfl (.cons rfl (.cons rfl (.cons rfl (.cons rfl .nil))))))))
                               · refine JC.block ?_
                                 refine JC.seq ?_
                                 refine JC.region ?_
                                 refine jc (op_move lb (.tmp rfl)) ?_
                                 refine jc (op_move lb (.tmp rfl)) ?_
                                 replace hx19 := bnd_inv hx19
                                 obtain ⟨⟨v_45, v_46⟩, hv_v_45, hx19⟩ := hx19
                                 refine jx (op_call (js := [0, 0]) ld cl14 (sim_net_Net_At k x_42 (4 : Int) lost_9 x_8 gb_5 go_6 (v_45, v_46) hv_v_45) .func (.cons (.tmp rfl) (.cons (.tmp rfl) .nil)) rfl) (fun _ => ?_)
                                 refine jc (op_move lb (.tmp rfl)) ?_
                                 refine jc (op_extract (i := 0) lb (.tmp rfl) rfl) ?_
                                 refine JL.sub ⟨[(0, ov (S (rL r_law12_Act) t_1)), (3, ov (PTR gb_5 0)), (5, ov (HDR go_12 0 (List.length x_10) gc_13)), (6, ov (S (rI .i64) x_11)), (7, ov (PTR gb_38 0)), (9, ov (S (rI .i64) x_41)), (10, ov (S (rI .i64) x_42)), (108, .tup [.val (A r_api_Flight v_45), .val (S (rI .i64) v_46)]), (112, ov (A r_api_Flight v_45))], [cvar gb_5 (rP (rW (MPV go_6)) (rP (rI .i64) (rP (rI .i64) r0))) ((), ((4 : Int), (lost_9, ()))), cmap go_6 (A r_net_pair) (S (rL (rL (rU UInt8)))) (some x_8), cown go_12 r_api_Flight x_10 0 gc_13, cvar gb_38 r_api_Flight v_36], []⟩ (.cons rfl (.cons rfl (.cons rfl (.cons rfl (.cons rfl (.cons rfl (.cons rfl (.cons rfl (.cons rfl .nil))))))))) rfl rfl ?_
                                 refine jc (op_extract (i := 1) lb (.tmp rfl) rfl) ?_
                                 refine jx (op_alloc lb tZ36 zr36) (fun q => ?_)
                                 obtain ⟨gb_47, hqq⟩ : ∃ z, z = q := ⟨_, rfl⟩
                                 subst hqq
                                 refine jc (op_storeA (j := 4) tA36 (.tmp rfl) (.tmp rfl) rfl (UpdR.self (by rfl)) rfl) ?_
                                 refine jc (op_assign lb (.tmp rfl)) ?_
                                 refine JL.nil ?_
                                 refine JQ.then ?_
                                 replace hx19 := bnd_inv hx19
                                 obtain ⟨x_51, hx20, hq20⟩ := hx19
                                 refine JC.seqJ (γ := Unit) (stj := fun q => ⟨[(0, ov (S (rL r_law12_Act) t_1)), (3, ov (PTR gb_5 0)), (5, ov (HDR go_12 0 (List.length x_10) gc_13)), (6, ov (S (rI .i64) x_11)), (7, ov (PTR gb_38 0)), (9, ov (S (rI .i64) x_41)), (10, ov (S (rI .i64) x_42)), (132, ov (S rB x_51))], [cvar gb_5 (rP (rW (MPV go_6)) (rP (rI .i64) (rP (rI .i64) r0))) ((), ((4 : Int), (lost_9, ()))), cmap go_6 (A r_net_pair) (S (rL (rL (rU UInt8)))) (some x_8), cown go_12 r_api_Flight x_10 0 gc_13, cvar gb_38 r_api_Flight v_36], []⟩) (fun q => ?_) ?_
                                 · obtain _ := q
                                   refine JC.at ⟨[(0, ov (S (rL r_law12_Act) t_1)), (3, ov (PTR gb_5 0)), (5, ov (HDR go_12 0 (List.length x_10) gc_13)), (6, ov (S (rI .i64) x_11)), (7, ov (PTR gb_38 0)), (9, ov (S (rI .i64) x_41)), (10, ov (S (rI .i64) x_42)), (132, ov (S rB x_51))], [cvar gb_5 (rP (rW (MPV go_6)) (rP (rI .i64) (rP (rI .i64) r0))) ((), ((4 : Int), (lost_9, ()))), cmap go_6 (A r_net_pair) (S (rL (rL (rU UInt8)))) (some x_8), cown go_12 r_api_Flight x_10 0 gc_13, cvar gb_38 r_api_Flight v_36], []⟩ ?_
                                   replace hq20 := iteB_inv hq20
                                   rcases hq20 with ⟨hc25, hq20⟩ | ⟨hc25, hq20⟩
                                   · refine JC.condT (.tmp rfl) hc25 ?_
                                     refine JC.region ?_
                                     refine jc (op_move lb (.tmp rfl)) ?_
                                     replace hq20 := lt1_inv hq20
                                     obtain ⟨v_52, hv_v_52, hq20⟩ := hq20
                                     refine jc (op_arI lb (.tmp rfl) .cI (congrArg some hv_v_52)) ?_
                                     refine jc (op_assign lb (.tmp rfl)) ?_
                                     refine JL.nil ?_
                                     refine JQ.outNB ?_
                                     replace hq20 := Option.some.inj hq20
                                     first | subst hq20 | clear hq20
                                     exact JQ.join () (Imp.norm (js := [0, 0, 0, 0]) rfl (.cons rfl (.cons rfl (.cons rfl (.cons rfl (.cons rfl (.cons rfl (.cons rfl .nil))))))))
                                   · refine JC.condF (.tmp rfl) hc25 ?_
                                     refine JC.skip ?_
                                     refine JQ.outNB ?_
                                     replace hq20 := Option.some.inj hq20
                                     first | subst hq20 | clear hq20
                                     exact JQ.join () (Imp.norm (js := [0, 0, 0, 0]) rfl (.cons rfl (.cons rfl (.cons rfl (.cons rfl (.cons rfl (.cons rfl (.cons rfl .nil))))))))
                                 · refine JC.region ?_
                                   refine jc (op_fieldAddr (off := 0) lb tf36_0 (.tmp rfl)) ?_
                                   refine jc (op_loadS (j := 4) lb tS3 (.tmp rfl) rfl (Comp.trans (Comp.self r_api_Flight v_45) (comp_api_Flight_From v_45) (Nat.le_of_ble_eq_true rfl)) rfl rfl) ?_
                                   refine jc (op_fieldAddr (off := 0) lb tf36_0 (.tmp rfl)) ?_
                                   refine jc (op_loadS (j := 3) lb tS3 (.tmp rfl) rfl (Comp.trans (Comp.self r_api_Flight v_36) (comp_api_Flight_From v_36) (Nat.le_of_ble_eq_true rfl)) rfl rfl) ?_
                                   refine JL.sub ⟨[(0, ov (S (rL r_law12_Act) t_1)), (3, ov (PTR gb_5 0)), (5, ov (HDR go_12 0 (List.length x_10) gc_13)), (6, ov (S (rI .i64) x_11)), (7, ov (PTR gb_38 0)), (9, ov (S (rI .i64) x_41)), (10, ov (S (rI .i64) x_42)), (11, ov (PTR gb_47 0)), (115, ov (S (rI .i64) v_45.From)), (117, ov (S (rI .i64) v_36.From))], [cvar gb_5 (rP (rW (MPV go_6)) (rP (rI .i64) (rP (rI .i64) r0))) ((), ((4 : Int), (lost_9, ()))), cmap go_6 (A r_net_pair) (S (rL (rL (rU UInt8)))) (some x_8), cown go_12 r_api_Flight x_10 0 gc_13, cvar gb_38 r_api_Flight v_36, cvar gb_47 r_api_Flight v_45], []⟩ (.cons rfl (.cons rfl (.cons rfl (.cons rfl (.cons rfl (.cons rfl (.cons rfl (.cons rfl (.cons rfl (.cons rfl .nil)))))))))) rfl rfl ?_
                                   replace hx20 := lt1_inv hx20
                                   obtain ⟨v_48, hv_v_48, hx20⟩ := hx20
                                   refine jc (op_cmpI lb (.tmp rfl) (.tmp rfl) (congrArg some hv_v_48)) ?_
                                   refine jc (op_move lb (.tmp rfl)) ?_
                                   replace hx20 := iteB_inv hx20
                                   rcases hx20 with ⟨hc22, hx20⟩ | ⟨hc22, hx20⟩
                                   · refine JL.skip (.no rfl (ltB rfl) rfl hc22) (fun d h => by cases h; exact ltB rfl) ?_
                                     refine JL.skip (.no rfl (ltB rfl) rfl hc22) (fun d h => by cases h; exact ltB rfl) ?_
                                     refine JL.skip (.no rfl (ltB rfl) rfl hc22) (fun d h => by cases h; exact ltB rfl) ?_
                                     refine JL.skip (.no rfl (ltB rfl) rfl hc22) (fun d h => by cases h; exact ltB rfl) ?_
                                     refine JL.skip (.no rfl (ltB rfl) rfl hc22) (fun d h => by cases h; exact ltB rfl) ?_
                                     refine JL.skip (.no rfl (ltB rfl) rfl hc22) (fun d h => by cases h; exact ltB rfl) ?_
                                     refine JL.skip (.und rfl (ltB rfl) rfl) (fun d h => by cases h; exact ltB rfl) ?_
                                     refine JL.skip (.und rfl (ltB rfl) rfl) (fun d h => by cases h; exact ltB rfl) ?_
                                     refine JL.skip (.und rfl (ltB rfl) rfl) (fun d h => by cases h; exact ltB rfl) ?_
                                     refine JL.skip (.und rfl (ltB rfl) rfl) (fun d h => by cases h; exact ltB rfl) ?_
                                     refine JL.skip (.und rfl (ltB rfl) rfl) (fun d h => by cases h; exact ltB rfl) ?_
                                     refine JL.skip (.no rfl (ltB rfl) rfl hc22) (fun d h => by cases h; exact ltB rfl) ?_
                                     refine jc (op_pickT lb (.tmp rfl) hc22 .cB) ?_
                                     refine JL.nil ?_
                                     replace hx20 := Option.some.inj hx20
                                     first | subst hx20 | clear hx20
                                     exact JQ.join () (Imp.norm (js := [0, 0, 0, 0]) rfl (.cons rfl (.cons rfl (.cons rfl (.cons rfl (.cons rfl (.cons rfl (.cons rfl (.cons rfl .nil)))))))))
                                   · refine JL.run (.yes rfl (ltB rfl) rfl hc22) (op_fieldAddr (off := 0) lb tf36_0 (.tmp rfl)) ?_
                                     refine JL.run (.yes rfl (ltB rfl) rfl hc22) (op_loadS (j := 4) lb tS3 (.tmp rfl) rfl (Comp.trans (Comp.self r_api_Flight v_45) (comp_api_Flight_From v_45) (Nat.le_of_ble_eq_true rfl)) rfl rfl) ?_
                                     refine JL.run (.yes rfl (ltB rfl) rfl hc22) (op_fieldAddr (off := 0) lb tf36_0 (.tmp rfl)) ?_
                                     refine JL.run (.yes rfl (ltB rfl) rfl hc22) (op_loadS (j := 3) lb tS3 (.tmp rfl) rfl (Comp.trans (Comp.self r_api_Flight v_36) (comp_api_Flight_From v_36) (Nat.le_of_ble_eq_true rfl)) rfl rfl) ?_
                                     replace hx20 := lt1_inv hx20
                                     obtain ⟨v_49, hv_v_49, hx20⟩ := hx20
                                     refine JL.run (.yes rfl (ltB rfl) rfl hc22) (op_cmpI lb (.tmp rfl) (.tmp rfl) (congrArg some hv_v_49)) ?_
                                     refine JL.run (.yes rfl (ltB rfl) rfl hc22) (op_move lb (.tmp rfl)) ?_
                                     replace hx20 := iteB_inv hx20
                                     rcases hx20 with ⟨hc24, hx20⟩ | ⟨hc24, hx20⟩
                                     · refine JL.run (.yes rfl (ltB rfl) rfl hc24) (op_fieldAddr (off := 1) lb tf36_1 (.tmp rfl)) ?_
                                       refine JL.run (.yes rfl (ltB rfl) rfl hc24) (op_loadS (j := 4) lb tS3 (.tmp rfl) rfl (Comp.trans (Comp.self r_api_Flight v_45) (comp_api_Flight_To v_45) (Nat.le_of_ble_eq_true rfl)) rfl rfl) ?_
                                       refine JL.run (.yes rfl (ltB rfl) rfl hc24) (op_fieldAddr (off := 1) lb tf36_1 (.tmp rfl)) ?_
                                       refine JL.run (.yes rfl (ltB rfl) rfl hc24) (op_loadS (j := 3) lb tS3 (.tmp rfl) rfl (Comp.trans (Comp.self r_api_Flight v_36) (comp_api_Flight_To v_36) (Nat.le_of_ble_eq_true rfl)) rfl rfl) ?_
                                       refine JL.nrm ⟨[(0, ov (S (rL r_law12_Act) t_1)), (3, ov (PTR gb_5 0)), (5, ov (HDR go_12 0 (List.length x_10) gc_13)), (6, ov (S (rI .i64) x_11)), (7, ov (PTR gb_38 0)), (9, ov (S (rI .i64) x_41)), (10, ov (S (rI .i64) x_42)), (119, ov (S rB v_48)), (125, ov (S rB v_49)), (127, ov (S (rI .i64) v_45.To)), (129, ov (S (rI .i64) v_36.To))], [cvar gb_5 (rP (rW (MPV go_6)) (rP (rI .i64) (rP (rI .i64) r0))) ((), ((4 : Int), (lost_9, ()))), cmap go_6 (A r_net_pair) (S (rL (rL (rU UInt8)))) (some x_8), cown go_12 r_api_Flight x_10 0 gc_13, cvar gb_38 r_api_Flight v_36], []⟩ [0, 0, 0, 0] rfl (.cons rfl (.cons rfl (.cons rfl (.cons rfl (.cons rfl (.cons rfl (.cons rfl (.cons rfl (.cons rfl (.cons rfl (.cons rfl .nil))))))))))) rfl ?_
                                       replace hx20 := lt1_inv hx20
                                       obtain ⟨v_50, hv_v_50, hx20⟩ := hx20
                                       refine JL.run (.yes rfl (ltB rfl) rfl hc24) (op_cmpI lb (.tmp rfl) (.tmp rfl) (congrArg some hv_v_50)) ?_
                                       refine JL.run (.yes rfl (ltB rfl) rfl hc22) (op_pickT lb (.tmp rfl) hc24 (.tmp rfl)) ?_
                                       refine jc (op_pickF lb (.tmp rfl) hc22 (.tmp rfl)) ?_
                                       refine JL.nil ?_
                                       replace hx20 := Option.some.inj hx20
                                       first | subst hx20 | clear hx20
                                       exact JQ.join () (Imp.norm (js := [0, 0, 0, 0]) rfl (.cons rfl (.cons rfl (.cons rfl (.cons rfl (.cons rfl (.cons rfl (.cons rfl (.cons rfl .nil)))))))))
                                     · refine JL.skip (.no rfl (ltB rfl) rfl hc24) (fun d h => by cases h; exact ltB rfl) ?_
                                       refine JL.skip (.no rfl (ltB rfl) rfl hc24) (fun d h => by cases h; exact ltB rfl) ?_
                                       refine JL.skip (.no rfl (ltB rfl) rfl hc24) (fun d h => by cases h; exact ltB rfl) ?_
                                       refine JL.skip (.no rfl (ltB rfl) rfl hc24) (fun d h => by cases h; exact ltB rfl) ?_
                                       refine JL.skip (.no rfl (ltB rfl) rfl hc24) (fun d h => by cases h; exact ltB rfl) ?_
                                       refine JL.run (.yes rfl (ltB rfl) rfl hc22) (op_pickF lb (.tmp rfl) hc24 .cB) ?_
                                       refine jc (op_pickF lb (.tmp rfl) hc22 (.tmp rfl)) ?_
                                       refine JL.nil ?_
                                       replace hx20 := Option.some.inj hx20
                                       first | subst hx20 | clear hx20
                                       exact JQ.join () (Imp.norm (js := [0, 0, 0, 0]) rfl (.cons rfl (.cons rfl (.cons rfl (.cons rfl (.cons rfl (.cons rfl (.cons rfl (.cons rfl .nil)))))))))
                             · refine JC.condF (.tmp rfl) hc18 ?_
                               refine JC.exit ?_
                               refine JQ.outX ?_
                               replace hx := Option.some.inj hx
                               first | subst hx | clear hx
                               have ht := hr _ rfl
                               have hq17 := congrArg some ht
                               clear hr ht
                               refine JQ.outX ?_
                               refine JQ.here ?_
                               replace hq17 := Option.some.inj hq17
                               first | subst hq17 | clear hq17
                               exact JQ.join () (Imp.norm (js := [0, 0, 0, 0]) rfl (.cons rfl (.cons rfl (.cons rfl (.cons rfl (.cons rfl (.cons rfl .nil)))))))
                     · refine JC.condF (.tmp rfl) hc14 ?_
                       refine JC.skip ?_
                       refine JQ.outNB ?_
                       refine JQ.outNB ?_
                       replace hq11 := Option.some.inj hq11
                       first | subst hq11 | clear hq11
                       exact JQ.joinK (x_8, lost_9, x_10) (go_12, gc_13) rfl (Imp.norm (js := [0, 0, 0]) rfl (.cons rfl (.cons rfl (.cons rfl (.cons rfl .nil)))))
                   · refine JC.seq ?_
                     refine JC.region ?_
                     replace hx11 := lt1_inv hx11
                     obtain ⟨v_31, hv_v_31, hx11⟩ := hx11
                     refine jc (op_cmpI lb (.tmp rfl) .cI (congrArg some hv_v_31)) ?_
                     refine JL.sub ⟨[(0, ov (S (rL r_law12_Act) t_1)), (3, ov (PTR gb_5 0)), (5, ov (HDR go_12 0 (List.length x_10) gc_13)), (6, ov (S (rI .i64) x_11)), (41, ov (S (rI .i64) v_15.Kind)), (83, ov (S rB v_31))], [cvar gb_5 (rP (rW (MPV go_6)) (rP (rI .i64) (rP (rI .i64) r0))) ((), ((4 : Int), (lost_9, ()))), cmap go_6 (A r_net_pair) (S (rL (rL (rU UInt8)))) (some x_8), cown go_12 r_api_Flight x_10 0 gc_13], []⟩ (.cons rfl (.cons rfl (.cons rfl (.cons rfl (.cons rfl (.cons rfl .nil)))))) rfl rfl ?_
                     refine jc (op_assign lb (.tmp rfl)) ?_
                     refine JL.nil ?_
                     refine JQ.then ?_
                     replace hx11 := iteB_inv hx11
                     rcases hx11 with ⟨hc12, hx11⟩ | ⟨hc12, hx11⟩
                     · refine JC.condT (.tmp rfl) hc12 ?_
                       refine JC.skip ?_
                       replace hx11 := Option.some.inj hx11
                       first | subst hx11 | clear hx11
                       exact JQ.join () (Imp.norm (js := [0, 0, 0]) rfl (.cons rfl (.cons rfl (.cons rfl (.cons rfl (.cons rfl .nil))))))
                     · refine JC.condF (.tmp rfl) hc12 ?_
                       refine JC.seq ?_
                       refine JC.region ?_
                       replace hx11 := lt1_inv hx11
                       obtain ⟨v_32, hv_v_32, hx11⟩ := hx11
                       refine jc (op_cmpI lb (.tmp rfl) .cI (congrArg some hv_v_32)) ?_
                       refine jc (op_assign lb (.tmp rfl)) ?_
                       refine JL.nil ?_
                       refine JQ.then ?_
                       replace hx11 := iteB_inv hx11
                       rcases hx11 with ⟨hc13, hx11⟩ | ⟨hc13, hx11⟩
                       · refine JC.condT (.tmp rfl) hc13 ?_
                         refine JC.skip ?_
                         replace hx11 := Option.some.inj hx11
                         first | subst hx11 | clear hx11
                         exact JQ.join () (Imp.norm (js := [0, 0, 0]) rfl (.cons rfl (.cons rfl (.cons rfl (.cons rfl (.cons rfl .nil))))))
                       · refine JC.condF (.tmp rfl) hc13 ?_
                         refine JC.region ?_
                         replace hx11 := lt1_inv hx11
                         obtain ⟨v_33, hv_v_33, hx11⟩ := hx11
                         refine jc (op_cmpI lb (.tmp rfl) .cI (congrArg some hv_v_33)) ?_
                         refine jc (op_assign lb (.tmp rfl)) ?_
                         refine JL.nil ?_
                         replace hx11 := Option.some.inj hx11
                         first | subst hx11 | clear hx11
                         exact JQ.join () (Imp.norm (js := [0, 0, 0]) rfl (.cons rfl (.cons rfl (.cons rfl (.cons rfl (.cons rfl .nil))))))
             · refine JC.condF (.tmp rfl) hc7 ?_
               refine JC.exit ?_
               refine JQ.outX ?_
               replace hx := Option.some.inj hx
               first | subst hx | clear hx
               have ht := hr _ rfl
               clear hr
               first | subst ht | clear ht
               dsimp only at hq6
               refine JQ.outX ?_
               refine JQ.here ?_
               replace hq6 := Option.some.inj hq6
               first | subst hq6 | clear hq6
               exact JQ.joinK (x_8, lost_9, x_10) (go_12, gc_13) rfl (Imp.norm (js := [0, 0, 0]) rfl (.cons rfl (.cons rfl .nil)))
       · refine JC.region ?_
         refine jc (op_move lb (.tmp rfl)) ?_
         refine jc (op_nilP (neg := false) lb tu25 (.tmp rfl) (HasO.const (p := PTO none) fun _ => rfl)) ?_
         refine jc (op_move lb (.tmp rfl)) ?_
         refine JL.run (.yes rfl (ltB rfl) rfl rfl) (op_move lb (.tmp rfl)) ?_
         replace hx4 := bnd_inv hx4
         obtain ⟨_, hv_u_7, hx4⟩ := hx4
         refine JL.runX (.yes rfl (ltB rfl) rfl rfl) (op_call (js := []) ld cl12 (sim_law12_num k (0 : Int) () hv_u_7) .func (.cons (.tmp rfl) .nil) rfl) (fun _ => ?_)
         refine JL.run (.yes rfl (ltB rfl) rfl rfl) (op_cmpI lb (.tmp rfl) .cI (congrArg some (by decide : ((0 : Int) != (0 : Int)) = false))) ?_
         refine jc (op_pickF lb (.tmp rfl) rfl (.tmp rfl)) ?_
         refine JL.nil ?_
         exact JQ.join () (Imp.norm (js := [0, 0]) rfl (.cons rfl (.cons rfl (.cons rfl .nil))))
     · obtain _ := ts3
       dsimp only at hm
       refine jx (op_call (js := []) ld cl11 (sim_net_New_v1 k (4 : Int) () hs3) .func (.cons .cI .nil) rfl) (fun _ => ?_)
       refine jc (op_move lb (.tmp rfl)) ?_
       refine jc (op_extract (i := 0) lb (.tmp rfl) rfl) ?_
       refine jc (op_extract (i := 1) lb (.tmp rfl) rfl) ?_
       refine jc (op_assign lb (.tmp rfl)) ?_
       refine JL.sub ⟨[(0, ov (S (rL r_law12_Act) t_1)), (3, ov (PTO none)), (23, ov (S (rI .i64) (2 : Int)))], [], []⟩ (.cons rfl (.cons rfl (.cons rfl .nil))) rfl rfl ?_
       refine jc (op_assign lb (.tmp rfl)) ?_
       refine JL.nil ?_
       refine JQ.then ?_
       refine JC.seq ?_
       replace hm := bnd_inv hm
       obtain ⟨_, hx45, hq45⟩ := hm
       refine JC.seqJ (γ := Unit) (stj := fun q => ⟨[(0, ov (S (rL r_law12_Act) t_1)), (3, ov (PTO none)), (30, ov (S rB true))], [], []⟩) (fun q => ?_) ?_
       · obtain _ := q
         refine JC.at ⟨[(0, ov (S (rL r_law12_Act) t_1)), (3, ov (PTO none)), (30, ov (S rB true))], [], []⟩ ?_
         refine JC.condT (.tmp rfl) rfl ?_
         refine JC.seq ?_
         refine JC.region ?_
         refine jc (op_assign lb .cB) ?_
         refine JL.nil ?_
         refine JQ.then ?_
         refine JC.ret ?_
         refine JQ.outR ?_
         replace hq45 := Option.some.inj hq45
         subst hq45
         exact JQ.done (js := []) (ss := [.val (S rB false)]) () (.inl rfl) (.nil rfl) rfl (.cons (.tmp rfl) .nil) rfl rfl rfl
       · refine JC.region ?_
         refine jc (op_move lb (.tmp rfl)) ?_
         refine jc (op_nilO (neg := false) (ob := none) lb tu25 (.tmp rfl) (HasO.const (p := PTO none) fun _ => rfl) rfl) ?_
         refine jc (op_move lb (.tmp rfl)) ?_
         refine JL.skip (.no rfl (ltB rfl) rfl rfl) (fun d h => by cases h; exact ltB rfl) ?_
         refine JL.skip (.no rfl (ltB rfl) rfl rfl) (fun d h => by cases h; exact ltB rfl) ?_
         refine JL.skip (.no rfl (ltB rfl) rfl rfl) (fun d h => by cases h; exact ltB rfl) ?_
         refine jc (op_pickT lb (.tmp rfl) rfl .cB) ?_
         refine JL.nil ?_
         exact JQ.join () (Imp.norm (js := []) rfl (.cons rfl (.cons rfl (.cons rfl .nil))))

end Go.Proofs.Ytnadeehdnmgebaa
