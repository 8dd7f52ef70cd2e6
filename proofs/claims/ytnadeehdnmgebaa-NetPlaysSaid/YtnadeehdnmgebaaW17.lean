/- Walks. -/
import Derived.Test.YtnadeehdnmgebaaT
import Derived.Test.YtnadeehdnmgebaaW0
import Derived.Test.YtnadeehdnmgebaaW13
import Derived.Test.YtnadeehdnmgebaaW14
import Derived.Test.YtnadeehdnmgebaaW16
import Derived.Test.YtnadeehdnmgebaaW5
import Derived.Test.YtnadeehdnmgebaaW6
namespace Go.Proofs.Ytnadeehdnmgebaa
open Go Fw
set_option linter.unusedVariables false
set_option maxRecDepth 100000
set_option maxHeartbeats 4000000

theorem sim_law12_NetPlays'2 (k : Nat) (t_1 : Int) (a_2 : (List law12_Act)) (a_3 : Int) (r : Bool) (hm : law12_NetPlays'2 k t_1 a_2 a_3 = some r) : Sim Try.prog 7 [S (rI .i64) t_1, S (rL r_law12_Act) a_2, S (rI .i64) a_3] [] (γ := Unit) (fun q => []) (fun q => .one (.val (S rB r))) := by
 unfold law12_NetPlays'2 at hm
 refine Sim.of Try.func7 rfl rfl (Nat.le_of_ble_eq_true rfl) (fun e0 w0 => ?_)
 refine JC.at ⟨[(0, ov (S (rI .i64) t_1)), (1, ov (S (rL r_law12_Act) a_2)), (2, ov (S (rI .i64) a_3))], [], []⟩ ?_
 refine JC.seq ?_
 refine JC.region ?_
 refine jc (op_assign lb .cB) ?_
 refine JL.nil ?_
 refine JQ.then ?_
 refine JC.seq ?_
 refine JC.region ?_
 refine jc (op_move lb (.tmp rfl)) ?_
 replace hm := bnd_inv hm
 obtain ⟨ts1, hs1, hm⟩ := hm
 rcases ts1 with ts1 | ts1
 · obtain _ := ts1
   dsimp only at hm
   refine jx (op_call (js := []) ld cl11 (sim_net_New_v0 k t_1 () hs1) .func (.cons (.tmp rfl) .nil) rfl) (fun q => ?_)
   obtain ⟨gb_4, go_5⟩ := q
   refine jc (op_move lb (.tmp rfl)) ?_
   refine jc (op_extract (i := 0) lb (.tmp rfl) rfl) ?_
   refine jc (op_extract (i := 1) lb (.tmp rfl) rfl) ?_
   refine jc (op_assign lb (.tmp rfl)) ?_
   refine jc (op_assign lb (.tmp rfl)) ?_
   refine JL.nil ?_
   refine JQ.then ?_
   refine JC.seq ?_
   replace hm := bnd_inv hm
   obtain ⟨x_9, hx2, hq2⟩ := hm
   refine JC.seqJ (γ := Unit) (stj := fun q => ⟨[(0, ov (S (rI .i64) t_1)), (1, ov (S (rL r_law12_Act) a_2)), (2, ov (S (rI .i64) a_3)), (7, ov (PTR gb_4 0)), (8, ov (S (rI .i64) (0 : Int))), (24, ov (S rB x_9))], [cvar gb_4 (rP (rW (MPV go_5)) (rP (rI .i64) (rP (rI .i64) r0))) ((), (t_1, ((0 : Int), ()))), cmap go_5 (A r_net_pair) (S (rL (rL (rU UInt8)))) (some ([] : (List (net_pair × (List (List UInt8))))))], []⟩) (fun q => ?_) ?_
   · obtain _ := q
     refine JC.at ⟨[(0, ov (S (rI .i64) t_1)), (1, ov (S (rL r_law12_Act) a_2)), (2, ov (S (rI .i64) a_3)), (7, ov (PTR gb_4 0)), (8, ov (S (rI .i64) (0 : Int))), (24, ov (S rB x_9))], [cvar gb_4 (rP (rW (MPV go_5)) (rP (rI .i64) (rP (rI .i64) r0))) ((), (t_1, ((0 : Int), ()))), cmap go_5 (A r_net_pair) (S (rL (rL (rU UInt8)))) (some ([] : (List (net_pair × (List (List UInt8))))))], []⟩ ?_
     replace hq2 := iteB_inv hq2
     rcases hq2 with ⟨hc6, hq2⟩ | ⟨hc6, hq2⟩
     · refine JC.condT (.tmp rfl) hc6 ?_
       replace hq2 := bnd_inv hq2
       obtain ⟨_, hx7, hq7⟩ := hq2
       refine JC.seqJ (γ := Unit) (stj := fun q => ⟨[(6, ov (S rB false))], [], []⟩) (fun q => ?_) ?_
       · obtain _ := q
         refine JC.at ⟨[(6, ov (S rB false))], [], []⟩ ?_
         refine JC.ret ?_
         refine JQ.outR ?_
         replace hq7 := Option.some.inj hq7
         subst hq7
         exact JQ.done (js := []) (ss := [.val (S rB false)]) () (.inl rfl) (.nil rfl) rfl (.cons (.tmp rfl) .nil) rfl rfl rfl
       · refine JC.region ?_
         refine jc (op_move lb (.tmp rfl)) ?_
         refine jc (op_nilP (neg := false) lb tu25 (.tmp rfl) (HasO.const (p := PTO none) fun _ => rfl)) ?_
         refine jc (op_move lb (.tmp rfl)) ?_
         refine JL.skip (.no rfl (ltB rfl) rfl rfl) (fun d h => by cases h; exact ltB rfl) ?_
         refine JL.skip (.no rfl (ltB rfl) rfl rfl) (fun d h => by cases h; exact ltB rfl) ?_
         refine JL.skip (.no rfl (ltB rfl) rfl rfl) (fun d h => by cases h; exact ltB rfl) ?_
         refine jc (op_pickF lb (.tmp rfl) rfl .cB) ?_
         refine jc (op_move lb (.tmp rfl)) ?_
         refine JL.skip (.no rfl (ltB rfl) rfl rfl) (fun d h => by cases h; exact ltB rfl) ?_
         refine jc (op_pickF lb (.tmp rfl) rfl .cB) ?_
         refine jc (op_assign lb (.tmp rfl)) ?_
         refine JL.nil ?_
         exact JQ.join () (Imp.norm (js := []) rfl (.cons rfl .nil))
     · refine JC.condF (.tmp rfl) hc6 ?_
       refine JC.skip ?_
       refine JQ.then ?_
       refine JC.seq ?_
       refine JC.seq ?_
       refine JC.region ?_
       refine jc (op_move lb (.tmp rfl)) ?_
       replace hq2 := bnd_inv hq2
       obtain ⟨v_10, hv_v_10, hq2⟩ := hq2
       refine jx (op_call (js := []) ld cl10 (sim_law12_much k a_2 v_10 hv_v_10) .func (.cons (.tmp rfl) .nil) rfl) (fun _ => ?_)
       refine JL.nil ?_
       refine JQ.then ?_
       replace hq2 := iteB_inv hq2
       rcases hq2 with ⟨hc8, hq2⟩ | ⟨hc8, hq2⟩
       · refine JC.condT (.tmp rfl) hc8 ?_
         refine JC.seq ?_
         refine JC.region ?_
         replace hq2 := bnd_inv hq2
         obtain ⟨v_11, hv_v_11, hq2⟩ := hq2
         refine jx (op_call (js := []) ld cl9 (sim_law12_known'2 k v_11 hv_v_11) .func .nil rfl) (fun _ => ?_)
         refine jc (op_assign lb (.tmp rfl)) ?_
         refine JL.nil ?_
         refine JQ.then ?_
         refine JC.ret ?_
         refine JQ.outR ?_
         replace hq2 := Option.some.inj hq2
         subst hq2
         exact JQ.done (js := []) (ss := [.val (S rB v_11)]) () (.inl rfl) (.nil rfl) rfl (.cons (.tmp rfl) .nil) rfl rfl rfl
       · refine JC.condF (.tmp rfl) hc8 ?_
         refine JC.skip ?_
         refine JQ.then ?_
         refine JC.seq ?_
         refine JC.region ?_
         refine jc (op_move lb (.tmp rfl)) ?_
         refine jc (op_build lb tZ43 zr43 tp43 (.S (off := 1) rfl (.tmp rfl) rfl ((UpdR.snd (UpdR.fst (UpdR.self (by rfl)))).at (by rfl)) .nil) rfl) ?_
         refine jx (op_boxA lb (.tmp rfl)) (fun q => ?_)
         obtain ⟨gb_12, hqq⟩ : ∃ z, z = q := ⟨_, rfl⟩
         subst hqq
         refine jc (op_assign lb (.tmp rfl)) ?_
         refine JL.nil ?_
         refine JQ.then ?_
         refine JC.seq ?_
         replace hq2 := bnd_inv hq2
         obtain ⟨_, hx9, hq9⟩ := hq2
         refine JC.seqJ (γ := Unit) (stj := fun q => ⟨[(1, ov (S (rL r_law12_Act) a_2)), (2, ov (S (rI .i64) a_3)), (7, ov (PTR gb_4 0)), (9, ov (PTR gb_12 0)), (47, ov (S rB false))], [cvar gb_4 (rP (rW (MPV go_5)) (rP (rI .i64) (rP (rI .i64) r0))) ((), (t_1, ((0 : Int), ()))), cmap go_5 (A r_net_pair) (S (rL (rL (rU UInt8)))) (some ([] : (List (net_pair × (List (List UInt8)))))), cvar gb_12 (rP (rW (HDR none 0 0 0)) (rP (rI .i64) (rP (rI .i64) r0))) ((), (t_1, ((0 : Int), ())))], []⟩) (fun q => ?_) ?_
         · obtain _ := q
           refine JC.at ⟨[(1, ov (S (rL r_law12_Act) a_2)), (2, ov (S (rI .i64) a_3)), (7, ov (PTR gb_4 0)), (9, ov (PTR gb_12 0)), (47, ov (S rB false))], [cvar gb_4 (rP (rW (MPV go_5)) (rP (rI .i64) (rP (rI .i64) r0))) ((), (t_1, ((0 : Int), ()))), cmap go_5 (A r_net_pair) (S (rL (rL (rU UInt8)))) (some ([] : (List (net_pair × (List (List UInt8)))))), cvar gb_12 (rP (rW (HDR none 0 0 0)) (rP (rI .i64) (rP (rI .i64) r0))) ((), (t_1, ((0 : Int), ())))], []⟩ ?_
           refine JC.condF (.tmp rfl) rfl ?_
           refine JC.skip ?_
           refine JQ.then ?_
           refine JC.seq ?_
           refine JC.region ?_
           refine jc (op_move lb (.tmp rfl)) ?_
           replace hq9 := bnd_inv hq9
           obtain ⟨v_14, hv_v_14, hq9⟩ := hq9
           refine jx (op_call (js := [0, 0]) ld cl23 (sim_net_Net_Copy k t_1 (0 : Int) ([] : (List (net_pair × (List (List UInt8))))) gb_4 go_5 v_14 hv_v_14) .func (.cons (.tmp rfl) .nil) rfl) (fun q => ?_)
           obtain ⟨gb_15, go_16⟩ := q
           refine jc (op_move lb (.tmp rfl)) ?_
           replace hq9 := bnd_inv hq9
           obtain ⟨v_17, hv_v_17, hq9⟩ := hq9
           refine jx (op_call (js := [4]) ld cl24 (sim_ref12_Net_Copy k t_1 (0 : Int) gb_12 v_17 hv_v_17) .func (.cons (.tmp rfl) .nil) rfl) (fun q => ?_)
           obtain ⟨gb_18, go_19, gc_20⟩ := q
           refine jc (op_assign lb (.tmp rfl)) ?_
           refine jc (op_assign lb (.tmp rfl)) ?_
           refine JL.nil ?_
           refine JQ.then ?_
           replace hq9 := bnd_inv hq9
           obtain ⟨tv10, hx10, hq10⟩ := hq9
           refine JC.seqK (α := (List (net_pair × (List (List UInt8)))) × Int × (List api_Flight) × Int × (List (net_pair × (List (List UInt8)))) × Int × (List api_Flight) × Int) (γ := Option Nat × Nat × Nat × Option Nat × Nat × Option Nat × Nat) (stj := fun v q => ⟨[(1, ov (S (rL r_law12_Act) a_2)), (7, ov (PTR gb_4 0)), (9, ov (PTR gb_12 0)), (10, ov (PTR q.2.2.1 0)), (11, ov (PTR q.2.2.2.2.1 0))], [cvar gb_4 (rP (rW (MPV go_5)) (rP (rI .i64) (rP (rI .i64) r0))) ((), (t_1, (v.2.1, ()))), cmap go_5 (A r_net_pair) (S (rL (rL (rU UInt8)))) (some v.1), cvar gb_12 (rP (rW (HDR q.1 0 (List.length v.2.2.1) q.2.1)) (rP (rI .i64) (rP (rI .i64) r0))) ((), (t_1, (v.2.2.2.1, ()))), cown q.1 r_api_Flight v.2.2.1 0 q.2.1, cvar q.2.2.1 (rP (rW (MPV q.2.2.2.1)) (rP (rI .i64) (rP (rI .i64) r0))) ((), (t_1, (v.2.2.2.2.2.1, ()))), cmap q.2.2.2.1 (A r_net_pair) (S (rL (rL (rU UInt8)))) (some v.2.2.2.2.1), cvar q.2.2.2.2.1 (rP (rW (HDR q.2.2.2.2.2.1 0 (List.length v.2.2.2.2.2.2.1) q.2.2.2.2.2.2)) (rP (rI .i64) (rP (rI .i64) r0))) ((), (t_1, (v.2.2.2.2.2.2.2, ()))), cown q.2.2.2.2.2.1 r_api_Flight v.2.2.2.2.2.2.1 0 q.2.2.2.2.2.2], []⟩) (p := fun v => tv10 = (.inl v)) (fun v q hv => ?_) ?_
           · subst hv
             obtain ⟨x_97, lost_98, L_99, Lost_100, x_101, lost_102, L_103, Lost_104⟩ := v
             obtain ⟨go_105, gc_106, gb_107, go_108, gb_109, go_110, gc_111⟩ := q
             dsimp only at hq10
             refine JC.at ⟨[(1, ov (S (rL r_law12_Act) a_2)), (7, ov (PTR gb_4 0)), (9, ov (PTR gb_12 0)), (10, ov (PTR gb_107 0)), (11, ov (PTR gb_109 0))], [cvar gb_4 (rP (rW (MPV go_5)) (rP (rI .i64) (rP (rI .i64) r0))) ((), (t_1, (lost_98, ()))), cmap go_5 (A r_net_pair) (S (rL (rL (rU UInt8)))) (some x_97), cvar gb_12 (rP (rW (HDR go_105 0 (List.length L_99) gc_106)) (rP (rI .i64) (rP (rI .i64) r0))) ((), (t_1, (Lost_100, ()))), cown go_105 r_api_Flight L_99 0 gc_106, cvar gb_107 (rP (rW (MPV go_108)) (rP (rI .i64) (rP (rI .i64) r0))) ((), (t_1, (lost_102, ()))), cmap go_108 (A r_net_pair) (S (rL (rL (rU UInt8)))) (some x_101), cvar gb_109 (rP (rW (HDR go_110 0 (List.length L_103) gc_111)) (rP (rI .i64) (rP (rI .i64) r0))) ((), (t_1, (Lost_104, ()))), cown go_110 r_api_Flight L_103 0 gc_111], []⟩ ?_
             refine JC.seq ?_
             refine JC.seq ?_
             refine JC.region ?_
             refine jc (op_move lb (.tmp rfl)) ?_
             refine jc (op_nilP (neg := false) lb tu25 (.tmp rfl) (HasO.const (p := PTO none) fun _ => rfl)) ?_
             refine JL.nil ?_
             refine JQ.then ?_
             refine JC.condF (.tmp rfl) rfl ?_
             refine JC.skip ?_
             refine JQ.then ?_
             replace hq10 := bnd_inv hq10
             obtain ⟨tv19, hx19, hq19⟩ := hq10
             refine JC.seqK (α := Unit) (γ := Unit) (stj := fun v q => ⟨[], [], []⟩) (p := fun v => tv19 = (.inl v)) (fun v q hv => ?_) ?_
             · subst hv
               skip
               obtain _ := q
               dsimp only at hq19
               refine JC.at ⟨[], [], []⟩ ?_
               refine JC.seq ?_
               refine JC.region ?_
               replace hq19 := bnd_inv hq19
               obtain ⟨v_143, hv_v_143, hq19⟩ := hq19
               refine jx (op_call (js := []) ld cl9 (sim_law12_known'2 k v_143 hv_v_143) .func .nil rfl) (fun _ => ?_)
               refine jc (op_assign lb (.tmp rfl)) ?_
               refine JL.nil ?_
               refine JQ.then ?_
               refine JC.ret ?_
               replace hq19 := Option.some.inj hq19
               subst hq19
               exact JQ.done (js := []) (ss := [.val (S rB v_143)]) () (.inl rfl) (.nil rfl) rfl (.cons (.tmp rfl) .nil) rfl rfl rfl
             · refine JC.seq ?_
               refine JC.region ?_
               refine jc (op_assign lb .cI) ?_
               refine JL.nil ?_
               refine JQ.then ?_
               refine JC.block ?_
               replace hx19 := bnd_inv hx19
               obtain ⟨tv20, hL20, hq20⟩ := hx19
               refine JC.pre ?_ (JC.loop (γ := Option Nat × Nat) (stf := fun s q => ⟨[(1, ov (S (rL r_law12_Act) a_2)), (7, ov (PTR gb_4 0)), (9, ov (PTR gb_12 0)), (10, ov (PTR gb_107 0)), (11, ov (PTR gb_109 0)), (13, ov (S (rI .i64) s.2.2.2.2))], [cvar gb_4 (rP (rW (MPV go_5)) (rP (rI .i64) (rP (rI .i64) r0))) ((), (t_1, (lost_98, ()))), cmap go_5 (A r_net_pair) (S (rL (rL (rU UInt8)))) (some x_97), cvar gb_12 (rP (rW (HDR go_105 0 (List.length L_99) gc_106)) (rP (rI .i64) (rP (rI .i64) r0))) ((), (t_1, (Lost_100, ()))), cown go_105 r_api_Flight L_99 0 gc_106, cvar gb_107 (rP (rW (MPV go_108)) (rP (rI .i64) (rP (rI .i64) r0))) ((), (t_1, (s.2.1, ()))), cmap go_108 (A r_net_pair) (S (rL (rL (rU UInt8)))) (some s.1), cvar gb_109 (rP (rW (HDR q.1 0 (List.length s.2.2.1) q.2)) (rP (rI .i64) (rP (rI .i64) r0))) ((), (t_1, (s.2.2.2.1, ()))), cown q.1 r_api_Flight s.2.2.1 0 q.2], []⟩) (q := (go_110, gc_111)) hL20 ?_)
               · exact (Imp.norm (js := [0, 0, 0, 0, 0, 0, 0, 0]) rfl (.cons rfl (.cons rfl (.cons rfl (.cons rfl (.cons rfl (.cons rfl .nil)))))))
               · intro s q x hx hr
                 obtain ⟨x_112, lost_113, L_114, Lost_115, x_116⟩ := s
                 obtain ⟨go_117, gc_118⟩ := q
                 change law12_NetPlays'2.b2 k a_2 t_1 lost_98 x_97 Lost_100 L_99 x_112 lost_113 L_114 Lost_115 x_116 = some x at hx
                 unfold law12_NetPlays'2.b2 at hx
                 refine JC.at ⟨[(1, ov (S (rL r_law12_Act) a_2)), (7, ov (PTR gb_4 0)), (9, ov (PTR gb_12 0)), (10, ov (PTR gb_107 0)), (11, ov (PTR gb_109 0)), (13, ov (S (rI .i64) x_116))], [cvar gb_4 (rP (rW (MPV go_5)) (rP (rI .i64) (rP (rI .i64) r0))) ((), (t_1, (lost_98, ()))), cmap go_5 (A r_net_pair) (S (rL (rL (rU UInt8)))) (some x_97), cvar gb_12 (rP (rW (HDR go_105 0 (List.length L_99) gc_106)) (rP (rI .i64) (rP (rI .i64) r0))) ((), (t_1, (Lost_100, ()))), cown go_105 r_api_Flight L_99 0 gc_106, cvar gb_107 (rP (rW (MPV go_108)) (rP (rI .i64) (rP (rI .i64) r0))) ((), (t_1, (lost_113, ()))), cmap go_108 (A r_net_pair) (S (rL (rL (rU UInt8)))) (some x_112), cvar gb_109 (rP (rW (HDR go_117 0 (List.length L_114) gc_118)) (rP (rI .i64) (rP (rI .i64) r0))) ((), (t_1, (Lost_115, ()))), cown go_117 r_api_Flight L_114 0 gc_118], []⟩ ?_
                 refine JC.seq ?_
                 refine JC.seq ?_
                 refine JC.region ?_
                 refine jc (op_move lb (.tmp rfl)) ?_
                 refine jc (op_move lb (.tmp rfl)) ?_
                 refine jc (op_lenL lb tu22 (.tmp rfl)) ?_
                 replace hx := lt1_inv hx
                 obtain ⟨v_119, hv_v_119, hx⟩ := hx
                 refine jc (op_cmpI lb (.tmp rfl) (.tmp rfl) (congrArg some hv_v_119)) ?_
                 refine JL.nil ?_
                 refine JQ.then ?_
                 replace hx := iteB_inv hx
                 rcases hx with ⟨hc21, hx⟩ | ⟨hc21, hx⟩
                 · refine JC.condT (.tmp rfl) hc21 ?_
                   refine JC.skip ?_
                   refine JQ.then ?_
                   refine JC.seq ?_
                   refine JC.block ?_
                   replace hx := bnd_inv hx
                   obtain ⟨⟨x_135, lost_136, L_137, Lost_138, x_139⟩, hx22, hq22⟩ := hx
                   refine JC.seqJ (γ := Option Nat × Nat) (stj := fun q => ⟨[(1, ov (S (rL r_law12_Act) a_2)), (7, ov (PTR gb_4 0)), (9, ov (PTR gb_12 0)), (10, ov (PTR gb_107 0)), (11, ov (PTR gb_109 0)), (13, ov (S (rI .i64) x_116)), (121, ov (S rB x_139))], [cvar gb_4 (rP (rW (MPV go_5)) (rP (rI .i64) (rP (rI .i64) r0))) ((), (t_1, (lost_98, ()))), cmap go_5 (A r_net_pair) (S (rL (rL (rU UInt8)))) (some x_97), cvar gb_12 (rP (rW (HDR go_105 0 (List.length L_99) gc_106)) (rP (rI .i64) (rP (rI .i64) r0))) ((), (t_1, (Lost_100, ()))), cown go_105 r_api_Flight L_99 0 gc_106, cvar gb_107 (rP (rW (MPV go_108)) (rP (rI .i64) (rP (rI .i64) r0))) ((), (t_1, (lost_136, ()))), cmap go_108 (A r_net_pair) (S (rL (rL (rU UInt8)))) (some x_135), cvar gb_109 (rP (rW (HDR q.1 0 (List.length L_137) q.2)) (rP (rI .i64) (rP (rI .i64) r0))) ((), (t_1, (Lost_138, ()))), cown q.1 r_api_Flight L_137 0 q.2], []⟩) (fun q => ?_) ?_
                   · obtain ⟨go_140, gc_141⟩ := q
                     refine JC.at ⟨[(1, ov (S (rL r_law12_Act) a_2)), (7, ov (PTR gb_4 0)), (9, ov (PTR gb_12 0)), (10, ov (PTR gb_107 0)), (11, ov (PTR gb_109 0)), (13, ov (S (rI .i64) x_116)), (121, ov (S rB x_139))], [cvar gb_4 (rP (rW (MPV go_5)) (rP (rI .i64) (rP (rI .i64) r0))) ((), (t_1, (lost_98, ()))), cmap go_5 (A r_net_pair) (S (rL (rL (rU UInt8)))) (some x_97), cvar gb_12 (rP (rW (HDR go_105 0 (List.length L_99) gc_106)) (rP (rI .i64) (rP (rI .i64) r0))) ((), (t_1, (Lost_100, ()))), cown go_105 r_api_Flight L_99 0 gc_106, cvar gb_107 (rP (rW (MPV go_108)) (rP (rI .i64) (rP (rI .i64) r0))) ((), (t_1, (lost_136, ()))), cmap go_108 (A r_net_pair) (S (rL (rL (rU UInt8)))) (some x_135), cvar gb_109 (rP (rW (HDR go_140 0 (List.length L_137) gc_141)) (rP (rI .i64) (rP (rI .i64) r0))) ((), (t_1, (Lost_138, ()))), cown go_140 r_api_Flight L_137 0 gc_141], []⟩ ?_
                     replace hq22 := iteB_inv hq22
                     rcases hq22 with ⟨hc27, hq22⟩ | ⟨hc27, hq22⟩
                     · refine JC.condT (.tmp rfl) hc27 ?_
                       refine JC.seq ?_
                       refine JC.region ?_
                       refine jc (op_assign lb .cB) ?_
                       refine JL.nil ?_
                       refine JQ.then ?_
                       refine JC.ret ?_
                       refine JQ.outRB ?_
                       refine JQ.outR ?_
                       replace hq22 := Option.some.inj hq22
                       first | subst hq22 | clear hq22
                       have ht := hr _ rfl
                       clear hr
                       first | subst ht | clear ht
                       dsimp only at hq20
                       refine JQ.outR ?_
                       refine JQ.outRB ?_
                       replace hq20 := Option.some.inj hq20
                       first | subst hq20 | clear hq20
                       dsimp only at hq19
                       refine JQ.outR ?_
                       replace hq19 := Option.some.inj hq19
                       subst hq19
                       exact JQ.done (js := []) (ss := [.val (S rB false)]) () (.inl rfl) (.nil rfl) rfl (.cons (.tmp rfl) .nil) rfl rfl rfl
                     · refine JC.condF (.tmp rfl) hc27 ?_
                       refine JC.skip ?_
                       refine JQ.outNB ?_
                       refine JQ.then ?_
                       refine JC.region ?_
                       refine jc (op_move lb (.tmp rfl)) ?_
                       replace hq22 := lt1_inv hq22
                       obtain ⟨v_142, hv_v_142, hq22⟩ := hq22
                       refine jc (op_arI lb (.tmp rfl) .cI (congrArg some hv_v_142)) ?_
                       refine jc (op_assign lb (.tmp rfl)) ?_
                       refine JL.nil ?_
                       replace hq22 := Option.some.inj hq22
                       first | subst hq22 | clear hq22
                       exact JQ.next (go_140, gc_141) rfl (Imp.norm (js := [0, 0, 0, 0, 0, 0, 0, 0]) rfl (.cons rfl (.cons rfl (.cons rfl (.cons rfl (.cons rfl (.cons rfl .nil)))))))
                   · refine JC.region ?_
                     refine jc (op_move lb (.tmp rfl)) ?_
                     refine jc (op_move lb (.tmp rfl)) ?_
                     refine jc (op_move lb (.tmp rfl)) ?_
                     refine jc (op_move lb (.tmp rfl)) ?_
                     replace hx22 := bnd_inv hx22
                     obtain ⟨v_120, hv_v_120, hx22⟩ := hx22
                     refine jc (op_indexAddrLg lb tu22 tz33 (.tmp rfl) (.tmp rfl) hv_v_120) ?_
                     refine jc (op_loadPAg lb tA33 (.tmp rfl) rfl) ?_
                     replace hx22 := bnd_inv hx22
                     obtain ⟨⟨v_121, x_122, x_123, x_124, x_125⟩, hv_v_121, hx22⟩ := hx22
                     refine jx (op_call (js := [4, 4, 4, 4]) ld cl18 (sim_law12_do'2 k v_120 t_1 lost_113 x_112 t_1 Lost_115 L_114 gb_107 go_108 gb_109 go_117 gc_118 (v_121, x_122, x_123, x_124, x_125) hv_v_121) .func (.cons (.tmp rfl) (.cons (.tmp rfl) (.cons (.tmp rfl) .nil))) rfl) (fun q => ?_)
                     obtain ⟨go_126, gc_127⟩ := q
                     refine JL.sub ⟨[(1, ov (S (rL r_law12_Act) a_2)), (7, ov (PTR gb_4 0)), (9, ov (PTR gb_12 0)), (10, ov (PTR gb_107 0)), (11, ov (PTR gb_109 0)), (13, ov (S (rI .i64) x_116)), (100, ov (S rB v_121))], [cvar gb_107 (rP (rW (MPV go_108)) (rP (rI .i64) (rP (rI .i64) r0))) ((), (t_1, (x_123, ()))), cmap go_108 (A r_net_pair) (S (rL (rL (rU UInt8)))) (some (x_122)), cvar gb_109 (rP (rW (HDR go_126 0 (List.length x_124) gc_127)) (rP (rI .i64) (rP (rI .i64) r0))) ((), (t_1, (x_125, ()))), cown go_126 r_api_Flight x_124 0 gc_127, cvar gb_4 (rP (rW (MPV go_5)) (rP (rI .i64) (rP (rI .i64) r0))) ((), (t_1, (lost_98, ()))), cmap go_5 (A r_net_pair) (S (rL (rL (rU UInt8)))) (some x_97), cvar gb_12 (rP (rW (HDR go_105 0 (List.length L_99) gc_106)) (rP (rI .i64) (rP (rI .i64) r0))) ((), (t_1, (Lost_100, ()))), cown go_105 r_api_Flight L_99 0 gc_106], []⟩ (.cons rfl (.cons rfl (.cons rfl (.cons rfl (.cons rfl (.cons rfl (.cons rfl .nil))))))) rfl rfl ?_
                     replace hx22 := lt1_inv hx22
                     obtain ⟨v_128, hv_v_128, hx22⟩ := hx22
                     refine jc (op_not lb (.tmp rfl) hv_v_128) ?_
                     refine jc (op_move lb (.tmp rfl)) ?_
                     replace hx22 := iteB_inv hx22
                     rcases hx22 with ⟨hc24, hx22⟩ | ⟨hc24, hx22⟩
                     · refine JL.skip (.no rfl (ltB rfl) rfl hc24) (fun d h => by cases h; exact ltB rfl) ?_
                       refine JL.skip (.no rfl (ltB rfl) rfl hc24) (fun d h => by cases h; exact ltB rfl) ?_
                       refine JL.skip (.no rfl (ltB rfl) rfl hc24) (fun d h => by cases h; exact ltB rfl) ?_
                       refine JL.skip (.no rfl (ltB rfl) rfl hc24) (fun d h => by cases h; exact ltB rfl) ?_
                       refine JL.skip (.no rfl (ltB rfl) rfl hc24) (fun d h => by cases h; exact ltB rfl) ?_
                       refine JL.skip (.no rfl (ltB rfl) rfl hc24) (fun d h => by cases h; exact ltB rfl) ?_
                       refine JL.skip (.no rfl (ltB rfl) rfl hc24) (fun d h => by cases h; exact ltB rfl) ?_
                       refine JL.skip (.no rfl (ltB rfl) rfl hc24) (fun d h => by cases h; exact ltB rfl) ?_
                       refine jc (op_pickT lb (.tmp rfl) hc24 .cB) ?_
                       refine jc (op_move lb (.tmp rfl)) ?_
                       refine JL.skip (.no rfl (ltB rfl) rfl rfl) (fun d h => by cases h; exact ltB rfl) ?_
                       refine JL.skip (.no rfl (ltB rfl) rfl rfl) (fun d h => by cases h; exact ltB rfl) ?_
                       refine JL.skip (.no rfl (ltB rfl) rfl rfl) (fun d h => by cases h; exact ltB rfl) ?_
                       refine JL.skip (.no rfl (ltB rfl) rfl rfl) (fun d h => by cases h; exact ltB rfl) ?_
                       refine JL.skip (.no rfl (ltB rfl) rfl rfl) (fun d h => by cases h; exact ltB rfl) ?_
                       refine JL.skip (.no rfl (ltB rfl) rfl rfl) (fun d h => by cases h; exact ltB rfl) ?_
                       refine JL.skip (.no rfl (ltB rfl) rfl rfl) (fun d h => by cases h; exact ltB rfl) ?_
                       refine JL.skip (.no rfl (ltB rfl) rfl rfl) (fun d h => by cases h; exact ltB rfl) ?_
                       refine jc (op_pickT lb (.tmp rfl) rfl .cB) ?_
                       refine JL.nil ?_
                       replace hx22 := Option.some.inj hx22
                       replace hx22 := Prod.mk.inj hx22
                       obtain ⟨hx22_a, hx22⟩ := hx22
                       first | subst hx22_a | clear hx22_a
                       replace hx22 := Prod.mk.inj hx22
                       obtain ⟨hx22_a, hx22⟩ := hx22
                       first | subst hx22_a | clear hx22_a
                       replace hx22 := Prod.mk.inj hx22
                       obtain ⟨hx22_a, hx22⟩ := hx22
                       first | subst hx22_a | clear hx22_a
                       replace hx22 := Prod.mk.inj hx22
                       obtain ⟨hx22_a, hx22⟩ := hx22
                       first | subst hx22_a | clear hx22_a
                       first | subst hx22 | clear hx22
                       exact JQ.join (go_126, gc_127) (Imp.norm (js := [4, 4, 4, 4, 0, 0, 0, 0]) rfl (.cons rfl (.cons rfl (.cons rfl (.cons rfl (.cons rfl (.cons rfl (.cons rfl .nil))))))))
                     · refine JL.run (.yes rfl (ltB rfl) rfl hc24) (op_move lb (.tmp rfl)) ?_
                       refine JL.run (.yes rfl (ltB rfl) rfl hc24) (op_move lb (.tmp rfl)) ?_
                       refine JL.run (.yes rfl (ltB rfl) rfl hc24) (op_move lb (.tmp rfl)) ?_
                       refine JL.run (.yes rfl (ltB rfl) rfl hc24) (op_move lb (.tmp rfl)) ?_
                       replace hx22 := bnd_inv hx22
                       obtain ⟨v_129, hv_v_129, hx22⟩ := hx22
                       refine JL.run (.yes rfl (ltB rfl) rfl hc24) (op_indexAddrLg lb tu22 tz33 (.tmp rfl) (.tmp rfl) hv_v_129) ?_
                       refine JL.run (.yes rfl (ltB rfl) rfl hc24) (op_loadPAg lb tA33 (.tmp rfl) rfl) ?_
                       replace hx22 := bnd_inv hx22
                       obtain ⟨v_130, hv_v_130, hx22⟩ := hx22
                       refine JL.runX (.yes rfl (ltB rfl) rfl hc24) (op_call (js := [0, 0, 0, 0]) ld cl25 (sim_law12_looks k v_129 (0 : Int) t_1 x_123 (x_122) t_1 x_125 x_124 gb_107 go_108 gb_109 go_126 gc_127 v_130 hv_v_130) .func (.cons (.tmp rfl) (.cons (.tmp rfl) (.cons (.tmp rfl) (.cons .cI .nil)))) rfl) (fun _ => ?_)
                       replace hx22 := lt1_inv hx22
                       obtain ⟨v_131, hv_v_131, hx22⟩ := hx22
                       refine JL.run (.yes rfl (ltB rfl) rfl hc24) (op_not lb (.tmp rfl) hv_v_131) ?_
                       refine jc (op_pickF lb (.tmp rfl) hc24 (.tmp rfl)) ?_
                       refine jc (op_move lb (.tmp rfl)) ?_
                       refine JL.sub ⟨[(1, ov (S (rL r_law12_Act) a_2)), (7, ov (PTR gb_4 0)), (9, ov (PTR gb_12 0)), (10, ov (PTR gb_107 0)), (11, ov (PTR gb_109 0)), (13, ov (S (rI .i64) x_116)), (112, ov (S rB v_131))], [cvar gb_107 (rP (rW (MPV go_108)) (rP (rI .i64) (rP (rI .i64) r0))) ((), (t_1, (x_123, ()))), cmap go_108 (A r_net_pair) (S (rL (rL (rU UInt8)))) (some (x_122)), cvar gb_109 (rP (rW (HDR go_126 0 (List.length x_124) gc_127)) (rP (rI .i64) (rP (rI .i64) r0))) ((), (t_1, (x_125, ()))), cown go_126 r_api_Flight x_124 0 gc_127, cvar gb_4 (rP (rW (MPV go_5)) (rP (rI .i64) (rP (rI .i64) r0))) ((), (t_1, (lost_98, ()))), cmap go_5 (A r_net_pair) (S (rL (rL (rU UInt8)))) (some x_97), cvar gb_12 (rP (rW (HDR go_105 0 (List.length L_99) gc_106)) (rP (rI .i64) (rP (rI .i64) r0))) ((), (t_1, (Lost_100, ()))), cown go_105 r_api_Flight L_99 0 gc_106], []⟩ (.cons rfl (.cons rfl (.cons rfl (.cons rfl (.cons rfl (.cons rfl (.cons rfl .nil))))))) rfl rfl ?_
                       replace hx22 := iteB_inv hx22
                       rcases hx22 with ⟨hc26, hx22⟩ | ⟨hc26, hx22⟩
                       · refine JL.skip (.no rfl (ltB rfl) rfl hc26) (fun d h => by cases h; exact ltB rfl) ?_
                         refine JL.skip (.no rfl (ltB rfl) rfl hc26) (fun d h => by cases h; exact ltB rfl) ?_
                         refine JL.skip (.no rfl (ltB rfl) rfl hc26) (fun d h => by cases h; exact ltB rfl) ?_
                         refine JL.skip (.no rfl (ltB rfl) rfl hc26) (fun d h => by cases h; exact ltB rfl) ?_
                         refine JL.skip (.no rfl (ltB rfl) rfl hc26) (fun d h => by cases h; exact ltB rfl) ?_
                         refine JL.skip (.no rfl (ltB rfl) rfl hc26) (fun d h => by cases h; exact ltB rfl) ?_
                         refine JL.skip (.no rfl (ltB rfl) rfl hc26) (fun d h => by cases h; exact ltB rfl) ?_
                         refine JL.skip (.no rfl (ltB rfl) rfl hc26) (fun d h => by cases h; exact ltB rfl) ?_
                         refine jc (op_pickT lb (.tmp rfl) hc26 .cB) ?_
                         refine JL.nil ?_
                         replace hx22 := Option.some.inj hx22
                         replace hx22 := Prod.mk.inj hx22
                         obtain ⟨hx22_a, hx22⟩ := hx22
                         first | subst hx22_a | clear hx22_a
                         replace hx22 := Prod.mk.inj hx22
                         obtain ⟨hx22_a, hx22⟩ := hx22
                         first | subst hx22_a | clear hx22_a
                         replace hx22 := Prod.mk.inj hx22
                         obtain ⟨hx22_a, hx22⟩ := hx22
                         first | subst hx22_a | clear hx22_a
                         replace hx22 := Prod.mk.inj hx22
                         obtain ⟨hx22_a, hx22⟩ := hx22
                         first | subst hx22_a | clear hx22_a
                         first | subst hx22 | clear hx22
                         exact JQ.join (go_126, gc_127) (Imp.norm (js := [4, 4, 4, 4, 0, 0, 0, 0]) rfl (.cons rfl (.cons rfl (.cons rfl (.cons rfl (.cons rfl (.cons rfl (.cons rfl .nil))))))))
                       · refine JL.run (.yes rfl (ltB rfl) rfl hc26) (op_move lb (.tmp rfl)) ?_
                         refine JL.run (.yes rfl (ltB rfl) rfl hc26) (op_move lb (.tmp rfl)) ?_
                         refine JL.run (.yes rfl (ltB rfl) rfl hc26) (op_move lb (.tmp rfl)) ?_
                         refine JL.run (.yes rfl (ltB rfl) rfl hc26) (op_move lb (.tmp rfl)) ?_
                         replace hx22 := bnd_inv hx22
                         obtain ⟨v_132, hv_v_132, hx22⟩ := hx22
                         refine JL.run (.yes rfl (ltB rfl) rfl hc26) (op_indexAddrLg lb tu22 tz33 (.tmp rfl) (.tmp rfl) hv_v_132) ?_
                         refine JL.run (.yes rfl (ltB rfl) rfl hc26) (op_loadPAg lb tA33 (.tmp rfl) rfl) ?_
                         replace hx22 := bnd_inv hx22
                         obtain ⟨v_133, hv_v_133, hx22⟩ := hx22
                         refine JL.runX (.yes rfl (ltB rfl) rfl hc26) (op_call (js := [4, 4, 4, 4]) ld cl25 (sim_law12_looks k v_132 (0 : Int) t_1 lost_98 x_97 t_1 Lost_100 L_99 gb_4 go_5 gb_12 go_105 gc_106 v_133 hv_v_133) .func (.cons (.tmp rfl) (.cons (.tmp rfl) (.cons (.tmp rfl) (.cons .cI .nil)))) rfl) (fun _ => ?_)
                         replace hx22 := lt1_inv hx22
                         obtain ⟨v_134, hv_v_134, hx22⟩ := hx22
                         refine JL.run (.yes rfl (ltB rfl) rfl hc26) (op_not lb (.tmp rfl) hv_v_134) ?_
                         refine jc (op_pickF lb (.tmp rfl) hc26 (.tmp rfl)) ?_
                         refine JL.nil ?_
                         replace hx22 := Option.some.inj hx22
                         replace hx22 := Prod.mk.inj hx22
                         obtain ⟨hx22_a, hx22⟩ := hx22
                         first | subst hx22_a | clear hx22_a
                         replace hx22 := Prod.mk.inj hx22
                         obtain ⟨hx22_a, hx22⟩ := hx22
                         first | subst hx22_a | clear hx22_a
                         replace hx22 := Prod.mk.inj hx22
                         obtain ⟨hx22_a, hx22⟩ := hx22
                         first | subst hx22_a | clear hx22_a
                         replace hx22 := Prod.mk.inj hx22
                         obtain ⟨hx22_a, hx22⟩ := hx22
                         first | subst hx22_a | clear hx22_a
                         first | subst hx22 | clear hx22
                         exact JQ.join (go_126, gc_127) (Imp.norm (js := [0, 0, 0, 0, 0, 0, 0, 0]) rfl (.cons rfl (.cons rfl (.cons rfl (.cons rfl (.cons rfl (.cons rfl (.cons rfl .nil))))))))
                 · refine JC.condF (.tmp rfl) hc21 ?_
                   refine JC.exit ?_
                   refine JQ.outX ?_
                   replace hx := Option.some.inj hx
                   first | subst hx | clear hx
                   have ht := hr _ rfl
                   clear hr
                   first | subst ht | clear ht
                   dsimp only at hq20
                   refine JQ.outX ?_
                   refine JQ.here ?_
                   replace hq20 := Option.some.inj hq20
                   first | subst hq20 | clear hq20
                   exact JQ.joinK () () rfl (Imp.norm (js := []) rfl .nil)
           · refine JC.seq ?_
             refine JC.region ?_
             refine jc (op_assign lb .cI) ?_
             refine JL.nil ?_
             refine JQ.then ?_
             refine JC.block ?_
             replace hx10 := bnd_inv hx10
             obtain ⟨tv11, hL11, hq11⟩ := hx10
             refine JC.pre (Imp.nilown r_api_Flight) ?_
             refine JC.pre ?_ (JC.loop (γ := Option Nat × Nat × Nat × Option Nat × Nat × Option Nat × Nat) (stf := fun s q => ⟨[(1, ov (S (rL r_law12_Act) a_2)), (2, ov (S (rI .i64) a_3)), (7, ov (PTR gb_4 0)), (9, ov (PTR gb_12 0)), (10, ov (PTR q.2.2.1 0)), (11, ov (PTR q.2.2.2.2.1 0)), (12, ov (S (rI .i64) s.2.2.2.2.2.2.2.2))], [cvar gb_4 (rP (rW (MPV go_5)) (rP (rI .i64) (rP (rI .i64) r0))) ((), (t_1, (s.2.1, ()))), cmap go_5 (A r_net_pair) (S (rL (rL (rU UInt8)))) (some s.1), cvar gb_12 (rP (rW (HDR q.1 0 (List.length s.2.2.1) q.2.1)) (rP (rI .i64) (rP (rI .i64) r0))) ((), (t_1, (s.2.2.2.1, ()))), cown q.1 r_api_Flight s.2.2.1 0 q.2.1, cvar q.2.2.1 (rP (rW (MPV q.2.2.2.1)) (rP (rI .i64) (rP (rI .i64) r0))) ((), (t_1, (s.2.2.2.2.2.1, ()))), cmap q.2.2.2.1 (A r_net_pair) (S (rL (rL (rU UInt8)))) (some s.2.2.2.2.1), cvar q.2.2.2.2.1 (rP (rW (HDR q.2.2.2.2.2.1 0 (List.length s.2.2.2.2.2.2.1) q.2.2.2.2.2.2)) (rP (rI .i64) (rP (rI .i64) r0))) ((), (t_1, (s.2.2.2.2.2.2.2.1, ()))), cown q.2.2.2.2.2.1 r_api_Flight s.2.2.2.2.2.2.1 0 q.2.2.2.2.2.2], []⟩) (q := (none, 0, gb_15, go_16, gb_18, go_19, gc_20)) hL11 ?_)
             · exact (Imp.norm (js := [5, 5, 2, 4, 2, 2, 0, 0]) rfl (.cons rfl (.cons rfl (.cons rfl (.cons rfl (.cons rfl (.cons rfl (.cons rfl .nil))))))))
             · intro s q x hx hr
               obtain ⟨x_21, lost_22, L_23, Lost_24, x_25, lost_26, L_27, Lost_28, x_29⟩ := s
               obtain ⟨go_30, gc_31, gb_32, go_33, gb_34, go_35, gc_36⟩ := q
               change law12_NetPlays'2.b1 k a_2 t_1 a_3 x_21 lost_22 L_23 Lost_24 x_25 lost_26 L_27 Lost_28 x_29 = some x at hx
               unfold law12_NetPlays'2.b1 at hx
               refine JC.at ⟨[(1, ov (S (rL r_law12_Act) a_2)), (2, ov (S (rI .i64) a_3)), (7, ov (PTR gb_4 0)), (9, ov (PTR gb_12 0)), (10, ov (PTR gb_32 0)), (11, ov (PTR gb_34 0)), (12, ov (S (rI .i64) x_29))], [cvar gb_4 (rP (rW (MPV go_5)) (rP (rI .i64) (rP (rI .i64) r0))) ((), (t_1, (lost_22, ()))), cmap go_5 (A r_net_pair) (S (rL (rL (rU UInt8)))) (some x_21), cvar gb_12 (rP (rW (HDR go_30 0 (List.length L_23) gc_31)) (rP (rI .i64) (rP (rI .i64) r0))) ((), (t_1, (Lost_24, ()))), cown go_30 r_api_Flight L_23 0 gc_31, cvar gb_32 (rP (rW (MPV go_33)) (rP (rI .i64) (rP (rI .i64) r0))) ((), (t_1, (lost_26, ()))), cmap go_33 (A r_net_pair) (S (rL (rL (rU UInt8)))) (some x_25), cvar gb_34 (rP (rW (HDR go_35 0 (List.length L_27) gc_36)) (rP (rI .i64) (rP (rI .i64) r0))) ((), (t_1, (Lost_28, ()))), cown go_35 r_api_Flight L_27 0 gc_36], []⟩ ?_
               refine JC.seq ?_
               refine JC.seq ?_
               refine JC.region ?_
               refine jc (op_move lb (.tmp rfl)) ?_
               refine jc (op_move lb (.tmp rfl)) ?_
               refine jc (op_lenL lb tu22 (.tmp rfl)) ?_
               replace hx := lt1_inv hx
               obtain ⟨v_37, hv_v_37, hx⟩ := hx
               refine jc (op_cmpI lb (.tmp rfl) (.tmp rfl) (congrArg some hv_v_37)) ?_
               refine JL.nil ?_
               refine JQ.then ?_
               replace hx := iteB_inv hx
               rcases hx with ⟨hc12, hx⟩ | ⟨hc12, hx⟩
               · refine JC.condT (.tmp rfl) hc12 ?_
                 refine JC.skip ?_
                 refine JQ.then ?_
                 replace hx := bnd_inv hx
                 obtain ⟨tv13, hx13, hq13⟩ := hx
                 refine JC.seqK (α := (List (net_pair × (List (List UInt8)))) × Int × (List api_Flight) × Int × (List (net_pair × (List (List UInt8)))) × Int × (List api_Flight) × Int) (γ := Option Nat × Nat × Nat × Option Nat × Nat × Option Nat × Nat) (stj := fun v q => ⟨[(1, ov (S (rL r_law12_Act) a_2)), (2, ov (S (rI .i64) a_3)), (7, ov (PTR gb_4 0)), (9, ov (PTR gb_12 0)), (10, ov (PTR q.2.2.1 0)), (11, ov (PTR q.2.2.2.2.1 0)), (12, ov (S (rI .i64) x_29))], [cvar gb_4 (rP (rW (MPV go_5)) (rP (rI .i64) (rP (rI .i64) r0))) ((), (t_1, (v.2.1, ()))), cmap go_5 (A r_net_pair) (S (rL (rL (rU UInt8)))) (some v.1), cvar gb_12 (rP (rW (HDR q.1 0 (List.length v.2.2.1) q.2.1)) (rP (rI .i64) (rP (rI .i64) r0))) ((), (t_1, (v.2.2.2.1, ()))), cown q.1 r_api_Flight v.2.2.1 0 q.2.1, cvar q.2.2.1 (rP (rW (MPV q.2.2.2.1)) (rP (rI .i64) (rP (rI .i64) r0))) ((), (t_1, (v.2.2.2.2.2.1, ()))), cmap q.2.2.2.1 (A r_net_pair) (S (rL (rL (rU UInt8)))) (some v.2.2.2.2.1), cvar q.2.2.2.2.1 (rP (rW (HDR q.2.2.2.2.2.1 0 (List.length v.2.2.2.2.2.2.1) q.2.2.2.2.2.2)) (rP (rI .i64) (rP (rI .i64) r0))) ((), (t_1, (v.2.2.2.2.2.2.2, ()))), cown q.2.2.2.2.2.1 r_api_Flight v.2.2.2.2.2.2.1 0 q.2.2.2.2.2.2], []⟩) (p := fun v => tv13 = (.inl v)) (fun v q hv => ?_) ?_
                 · subst hv
                   obtain ⟨x_66, lost_67, L_68, Lost_69, x_70, lost_71, L_72, Lost_73⟩ := v
                   obtain ⟨go_74, gc_75, gb_76, go_77, gb_78, go_79, gc_80⟩ := q
                   dsimp only at hq13
                   refine JC.at ⟨[(1, ov (S (rL r_law12_Act) a_2)), (2, ov (S (rI .i64) a_3)), (7, ov (PTR gb_4 0)), (9, ov (PTR gb_12 0)), (10, ov (PTR gb_76 0)), (11, ov (PTR gb_78 0)), (12, ov (S (rI .i64) x_29))], [cvar gb_4 (rP (rW (MPV go_5)) (rP (rI .i64) (rP (rI .i64) r0))) ((), (t_1, (lost_67, ()))), cmap go_5 (A r_net_pair) (S (rL (rL (rU UInt8)))) (some x_66), cvar gb_12 (rP (rW (HDR go_74 0 (List.length L_68) gc_75)) (rP (rI .i64) (rP (rI .i64) r0))) ((), (t_1, (Lost_69, ()))), cown go_74 r_api_Flight L_68 0 gc_75, cvar gb_76 (rP (rW (MPV go_77)) (rP (rI .i64) (rP (rI .i64) r0))) ((), (t_1, (lost_71, ()))), cmap go_77 (A r_net_pair) (S (rL (rL (rU UInt8)))) (some x_70), cvar gb_78 (rP (rW (HDR go_79 0 (List.length L_72) gc_80)) (rP (rI .i64) (rP (rI .i64) r0))) ((), (t_1, (Lost_73, ()))), cown go_79 r_api_Flight L_72 0 gc_80], []⟩ ?_
                   refine JC.region ?_
                   refine jc (op_move lb (.tmp rfl)) ?_
                   replace hq13 := lt1_inv hq13
                   obtain ⟨v_81, hv_v_81, hq13⟩ := hq13
                   refine jc (op_arI lb (.tmp rfl) .cI (congrArg some hv_v_81)) ?_
                   refine jc (op_assign lb (.tmp rfl)) ?_
                   refine JL.nil ?_
                   replace hq13 := Option.some.inj hq13
                   first | subst hq13 | clear hq13
                   exact JQ.next (go_74, gc_75, gb_76, go_77, gb_78, go_79, gc_80) rfl (Imp.norm (js := [0, 0, 0, 0, 0, 0, 0, 0]) rfl (.cons rfl (.cons rfl (.cons rfl (.cons rfl (.cons rfl (.cons rfl (.cons rfl .nil))))))))
                 · refine JC.block ?_
                   refine JC.seq ?_
                   replace hx13 := bnd_inv hx13
                   obtain ⟨⟨x_50, lost_51, L_52, Lost_53, x_54⟩, hx14, hq14⟩ := hx13
                   refine JC.seqJ (γ := Option Nat × Nat) (stj := fun q => ⟨[(1, ov (S (rL r_law12_Act) a_2)), (2, ov (S (rI .i64) a_3)), (7, ov (PTR gb_4 0)), (9, ov (PTR gb_12 0)), (10, ov (PTR gb_32 0)), (11, ov (PTR gb_34 0)), (12, ov (S (rI .i64) x_29)), (76, ov (S rB x_54))], [cvar gb_4 (rP (rW (MPV go_5)) (rP (rI .i64) (rP (rI .i64) r0))) ((), (t_1, (lost_51, ()))), cmap go_5 (A r_net_pair) (S (rL (rL (rU UInt8)))) (some x_50), cvar gb_12 (rP (rW (HDR q.1 0 (List.length L_52) q.2)) (rP (rI .i64) (rP (rI .i64) r0))) ((), (t_1, (Lost_53, ()))), cown q.1 r_api_Flight L_52 0 q.2, cvar gb_32 (rP (rW (MPV go_33)) (rP (rI .i64) (rP (rI .i64) r0))) ((), (t_1, (lost_26, ()))), cmap go_33 (A r_net_pair) (S (rL (rL (rU UInt8)))) (some x_25), cvar gb_34 (rP (rW (HDR go_35 0 (List.length L_27) gc_36)) (rP (rI .i64) (rP (rI .i64) r0))) ((), (t_1, (Lost_28, ()))), cown go_35 r_api_Flight L_27 0 gc_36], []⟩) (fun q => ?_) ?_
                   · obtain ⟨go_55, gc_56⟩ := q
                     refine JC.at ⟨[(1, ov (S (rL r_law12_Act) a_2)), (2, ov (S (rI .i64) a_3)), (7, ov (PTR gb_4 0)), (9, ov (PTR gb_12 0)), (10, ov (PTR gb_32 0)), (11, ov (PTR gb_34 0)), (12, ov (S (rI .i64) x_29)), (76, ov (S rB x_54))], [cvar gb_4 (rP (rW (MPV go_5)) (rP (rI .i64) (rP (rI .i64) r0))) ((), (t_1, (lost_51, ()))), cmap go_5 (A r_net_pair) (S (rL (rL (rU UInt8)))) (some x_50), cvar gb_12 (rP (rW (HDR go_55 0 (List.length L_52) gc_56)) (rP (rI .i64) (rP (rI .i64) r0))) ((), (t_1, (Lost_53, ()))), cown go_55 r_api_Flight L_52 0 gc_56, cvar gb_32 (rP (rW (MPV go_33)) (rP (rI .i64) (rP (rI .i64) r0))) ((), (t_1, (lost_26, ()))), cmap go_33 (A r_net_pair) (S (rL (rL (rU UInt8)))) (some x_25), cvar gb_34 (rP (rW (HDR go_35 0 (List.length L_27) gc_36)) (rP (rI .i64) (rP (rI .i64) r0))) ((), (t_1, (Lost_28, ()))), cown go_35 r_api_Flight L_27 0 gc_36], []⟩ ?_
                     replace hq14 := iteB_inv hq14
                     rcases hq14 with ⟨hc17, hq14⟩ | ⟨hc17, hq14⟩
                     · refine JC.condT (.tmp rfl) hc17 ?_
                       refine JC.seq ?_
                       refine JC.region ?_
                       refine jc (op_assign lb .cB) ?_
                       refine JL.nil ?_
                       refine JQ.then ?_
                       refine JC.ret ?_
                       refine JQ.outR ?_
                       refine JQ.outRB ?_
                       replace hq14 := Option.some.inj hq14
                       first | subst hq14 | clear hq14
                       dsimp only at hq13
                       refine JQ.outR ?_
                       replace hq13 := Option.some.inj hq13
                       first | subst hq13 | clear hq13
                       have ht := hr _ rfl
                       clear hr
                       first | subst ht | clear ht
                       dsimp only at hq11
                       refine JQ.outR ?_
                       refine JQ.outRB ?_
                       replace hq11 := Option.some.inj hq11
                       first | subst hq11 | clear hq11
                       dsimp only at hq10
                       refine JQ.outR ?_
                       replace hq10 := Option.some.inj hq10
                       subst hq10
                       exact JQ.done (js := []) (ss := [.val (S rB false)]) () (.inl rfl) (.nil rfl) rfl (.cons (.tmp rfl) .nil) rfl rfl rfl
                     · refine JC.condF (.tmp rfl) hc17 ?_
                       refine JC.skip ?_
                       refine JQ.then ?_
                       refine JC.seq ?_
                       refine JC.region ?_
                       refine jc (op_move lb (.tmp rfl)) ?_
                       refine jc (op_move lb (.tmp rfl)) ?_
                       refine jc (op_lenL lb tu22 (.tmp rfl)) ?_
                       replace hq14 := bnd_inv hq14
                       obtain ⟨v_57, hv_v_57, hq14⟩ := hq14
                       refine jc (op_arI lb (.tmp rfl) .cI hv_v_57) ?_
                       replace hq14 := lt1_inv hq14
                       obtain ⟨v_58, hv_v_58, hq14⟩ := hq14
                       refine jc (op_cmpI lb (.tmp rfl) (.tmp rfl) (congrArg some hv_v_58)) ?_
                       refine JL.nil ?_
                       refine JQ.then ?_
                       replace hq14 := iteB_inv hq14
                       rcases hq14 with ⟨hc18, hq14⟩ | ⟨hc18, hq14⟩
                       · refine JC.condT (.tmp rfl) hc18 ?_
                         refine JC.region ?_
                         refine jc (op_move lb (.tmp rfl)) ?_
                         replace hq14 := bnd_inv hq14
                         obtain ⟨v_59, hv_v_59, hq14⟩ := hq14
                         refine jx (op_call (js := [0, 0]) ld cl23 (sim_net_Net_Copy k t_1 lost_51 x_50 gb_4 go_5 v_59 hv_v_59) .func (.cons (.tmp rfl) .nil) rfl) (fun q => ?_)
                         obtain ⟨gb_60, go_61⟩ := q
                         refine jc (op_move lb (.tmp rfl)) ?_
                         replace hq14 := bnd_inv hq14
                         obtain ⟨v_62, hv_v_62, hq14⟩ := hq14
                         refine jx (op_call (js := [4, 4]) ld cl24 (sim_ref12_Net_Copy'2 k t_1 Lost_53 L_52 gb_12 go_55 gc_56 v_62 hv_v_62) .func (.cons (.tmp rfl) .nil) rfl) (fun q => ?_)
                         obtain ⟨gb_63, go_64, gc_65⟩ := q
                         refine JL.sub ⟨[(1, ov (S (rL r_law12_Act) a_2)), (2, ov (S (rI .i64) a_3)), (7, ov (PTR gb_4 0)), (9, ov (PTR gb_12 0)), (10, ov (PTR gb_32 0)), (11, ov (PTR gb_34 0)), (12, ov (S (rI .i64) x_29)), (83, ov (PTR gb_60 0)), (85, ov (PTR gb_63 0))], [cvar gb_63 (rP (rW (HDR go_64 0 (List.length v_62) gc_65)) (rP (rI .i64) (rP (rI .i64) r0))) ((), (t_1, (Lost_53, ()))), cown go_64 r_api_Flight v_62 0 gc_65, cvar gb_12 (rP (rW (HDR go_55 0 (List.length L_52) gc_56)) (rP (rI .i64) (rP (rI .i64) r0))) ((), (t_1, (Lost_53, ()))), cown go_55 r_api_Flight L_52 0 gc_56, cvar gb_60 (rP (rW (MPV go_61)) (rP (rI .i64) (rP (rI .i64) r0))) ((), (t_1, (lost_51, ()))), cmap go_61 (A r_net_pair) (S (rL (rL (rU UInt8)))) (some (v_59)), cvar gb_4 (rP (rW (MPV go_5)) (rP (rI .i64) (rP (rI .i64) r0))) ((), (t_1, (lost_51, ()))), cmap go_5 (A r_net_pair) (S (rL (rL (rU UInt8)))) (some x_50), cvar gb_32 (rP (rW (MPV go_33)) (rP (rI .i64) (rP (rI .i64) r0))) ((), (t_1, (lost_26, ()))), cmap go_33 (A r_net_pair) (S (rL (rL (rU UInt8)))) (some x_25), cvar gb_34 (rP (rW (HDR go_35 0 (List.length L_27) gc_36)) (rP (rI .i64) (rP (rI .i64) r0))) ((), (t_1, (Lost_28, ()))), cown go_35 r_api_Flight L_27 0 gc_36], []⟩ (.cons rfl (.cons rfl (.cons rfl (.cons rfl (.cons rfl (.cons rfl (.cons rfl (.cons rfl (.cons rfl .nil))))))))) rfl rfl ?_
                         refine jc (op_assign lb (.tmp rfl)) ?_
                         refine jc (op_assign lb (.tmp rfl)) ?_
                         refine JL.nil ?_
                         refine JQ.outNB ?_
                         replace hq14 := Option.some.inj hq14
                         first | subst hq14 | clear hq14
                         exact JQ.joinK (x_50, lost_51, L_52, Lost_53, (v_59), lost_51, v_62, Lost_53) (go_55, gc_56, gb_60, go_61, gb_63, go_64, gc_65) rfl (Imp.norm (js := [6, 6, 2, 2, 2, 2, 0, 0]) rfl (.cons rfl (.cons rfl (.cons rfl (.cons rfl (.cons rfl (.cons rfl (.cons rfl .nil))))))))
                       · refine JC.condF (.tmp rfl) hc18 ?_
                         refine JC.skip ?_
                         refine JQ.outNB ?_
                         replace hq14 := Option.some.inj hq14
                         first | subst hq14 | clear hq14
                         exact JQ.joinK (x_50, lost_51, L_52, Lost_53, x_25, lost_26, L_27, Lost_28) (go_55, gc_56, gb_32, go_33, gb_34, go_35, gc_36) rfl (Imp.norm (js := [0, 0, 0, 0, 0, 0, 0, 0]) rfl (.cons rfl (.cons rfl (.cons rfl (.cons rfl (.cons rfl (.cons rfl (.cons rfl .nil))))))))
                   · refine JC.region ?_
                     refine jc (op_move lb (.tmp rfl)) ?_
                     refine jc (op_move lb (.tmp rfl)) ?_
                     refine jc (op_move lb (.tmp rfl)) ?_
                     refine jc (op_move lb (.tmp rfl)) ?_
                     replace hx14 := bnd_inv hx14
                     obtain ⟨v_38, hv_v_38, hx14⟩ := hx14
                     refine jc (op_indexAddrLg lb tu22 tz33 (.tmp rfl) (.tmp rfl) hv_v_38) ?_
                     refine jc (op_loadPAg lb tA33 (.tmp rfl) rfl) ?_
                     replace hx14 := bnd_inv hx14
                     obtain ⟨⟨v_39, x_40, x_41, x_42, x_43⟩, hv_v_39, hx14⟩ := hx14
                     refine jx (op_call (js := [0, 0, 0, 0]) ld cl18 (sim_law12_do'2 k v_38 t_1 lost_22 x_21 t_1 Lost_24 L_23 gb_4 go_5 gb_12 go_30 gc_31 (v_39, x_40, x_41, x_42, x_43) hv_v_39) .func (.cons (.tmp rfl) (.cons (.tmp rfl) (.cons (.tmp rfl) .nil))) rfl) (fun q => ?_)
                     obtain ⟨go_44, gc_45⟩ := q
                     refine JL.sub ⟨[(1, ov (S (rL r_law12_Act) a_2)), (2, ov (S (rI .i64) a_3)), (7, ov (PTR gb_4 0)), (9, ov (PTR gb_12 0)), (10, ov (PTR gb_32 0)), (11, ov (PTR gb_34 0)), (12, ov (S (rI .i64) x_29)), (64, ov (S rB v_39))], [cvar gb_4 (rP (rW (MPV go_5)) (rP (rI .i64) (rP (rI .i64) r0))) ((), (t_1, (x_41, ()))), cmap go_5 (A r_net_pair) (S (rL (rL (rU UInt8)))) (some (x_40)), cvar gb_12 (rP (rW (HDR go_44 0 (List.length x_42) gc_45)) (rP (rI .i64) (rP (rI .i64) r0))) ((), (t_1, (x_43, ()))), cown go_44 r_api_Flight x_42 0 gc_45, cvar gb_32 (rP (rW (MPV go_33)) (rP (rI .i64) (rP (rI .i64) r0))) ((), (t_1, (lost_26, ()))), cmap go_33 (A r_net_pair) (S (rL (rL (rU UInt8)))) (some x_25), cvar gb_34 (rP (rW (HDR go_35 0 (List.length L_27) gc_36)) (rP (rI .i64) (rP (rI .i64) r0))) ((), (t_1, (Lost_28, ()))), cown go_35 r_api_Flight L_27 0 gc_36], []⟩ (.cons rfl (.cons rfl (.cons rfl (.cons rfl (.cons rfl (.cons rfl (.cons rfl (.cons rfl .nil)))))))) rfl rfl ?_
                     replace hx14 := lt1_inv hx14
                     obtain ⟨v_46, hv_v_46, hx14⟩ := hx14
                     refine jc (op_not lb (.tmp rfl) hv_v_46) ?_
                     refine jc (op_move lb (.tmp rfl)) ?_
                     replace hx14 := iteB_inv hx14
                     rcases hx14 with ⟨hc16, hx14⟩ | ⟨hc16, hx14⟩
                     · refine JL.skip (.no rfl (ltB rfl) rfl hc16) (fun d h => by cases h; exact ltB rfl) ?_
                       refine JL.skip (.no rfl (ltB rfl) rfl hc16) (fun d h => by cases h; exact ltB rfl) ?_
                       refine JL.skip (.no rfl (ltB rfl) rfl hc16) (fun d h => by cases h; exact ltB rfl) ?_
                       refine JL.skip (.no rfl (ltB rfl) rfl hc16) (fun d h => by cases h; exact ltB rfl) ?_
                       refine JL.skip (.no rfl (ltB rfl) rfl hc16) (fun d h => by cases h; exact ltB rfl) ?_
                       refine JL.skip (.no rfl (ltB rfl) rfl hc16) (fun d h => by cases h; exact ltB rfl) ?_
                       refine JL.skip (.no rfl (ltB rfl) rfl hc16) (fun d h => by cases h; exact ltB rfl) ?_
                       refine JL.skip (.no rfl (ltB rfl) rfl hc16) (fun d h => by cases h; exact ltB rfl) ?_
                       refine JL.skip (.no rfl (ltB rfl) rfl hc16) (fun d h => by cases h; exact ltB rfl) ?_
                       refine jc (op_pickT lb (.tmp rfl) hc16 .cB) ?_
                       refine JL.nil ?_
                       replace hx14 := Option.some.inj hx14
                       replace hx14 := Prod.mk.inj hx14
                       obtain ⟨hx14_a, hx14⟩ := hx14
                       first | subst hx14_a | clear hx14_a
                       replace hx14 := Prod.mk.inj hx14
                       obtain ⟨hx14_a, hx14⟩ := hx14
                       first | subst hx14_a | clear hx14_a
                       replace hx14 := Prod.mk.inj hx14
                       obtain ⟨hx14_a, hx14⟩ := hx14
                       first | subst hx14_a | clear hx14_a
                       replace hx14 := Prod.mk.inj hx14
                       obtain ⟨hx14_a, hx14⟩ := hx14
                       first | subst hx14_a | clear hx14_a
                       first | subst hx14 | clear hx14
                       exact JQ.join (go_44, gc_45) (Imp.norm (js := [0, 0, 0, 0, 0, 0, 0, 0]) rfl (.cons rfl (.cons rfl (.cons rfl (.cons rfl (.cons rfl (.cons rfl (.cons rfl (.cons rfl .nil)))))))))
                     · refine JL.run (.yes rfl (ltB rfl) rfl hc16) (op_move lb (.tmp rfl)) ?_
                       refine JL.run (.yes rfl (ltB rfl) rfl hc16) (op_move lb (.tmp rfl)) ?_
                       refine JL.run (.yes rfl (ltB rfl) rfl hc16) (op_move lb (.tmp rfl)) ?_
                       refine JL.run (.yes rfl (ltB rfl) rfl hc16) (op_move lb (.tmp rfl)) ?_
                       replace hx14 := bnd_inv hx14
                       obtain ⟨v_47, hv_v_47, hx14⟩ := hx14
                       refine JL.run (.yes rfl (ltB rfl) rfl hc16) (op_indexAddrLg lb tu22 tz33 (.tmp rfl) (.tmp rfl) hv_v_47) ?_
                       refine JL.run (.yes rfl (ltB rfl) rfl hc16) (op_loadPAg lb tA33 (.tmp rfl) rfl) ?_
                       refine JL.run (.yes rfl (ltB rfl) rfl hc16) (op_move lb (.tmp rfl)) ?_
                       replace hx14 := bnd_inv hx14
                       obtain ⟨v_48, hv_v_48, hx14⟩ := hx14
                       refine JL.runX (.yes rfl (ltB rfl) rfl hc16) (op_call (js := [0, 0, 0, 0]) ld cl25 (sim_law12_looks k v_47 a_3 t_1 x_41 (x_40) t_1 x_43 x_42 gb_4 go_5 gb_12 go_44 gc_45 v_48 hv_v_48) .func (.cons (.tmp rfl) (.cons (.tmp rfl) (.cons (.tmp rfl) (.cons (.tmp rfl) .nil)))) rfl) (fun _ => ?_)
                       replace hx14 := lt1_inv hx14
                       obtain ⟨v_49, hv_v_49, hx14⟩ := hx14
                       refine JL.run (.yes rfl (ltB rfl) rfl hc16) (op_not lb (.tmp rfl) hv_v_49) ?_
                       refine jc (op_pickF lb (.tmp rfl) hc16 (.tmp rfl)) ?_
                       refine JL.sub ⟨[(1, ov (S (rL r_law12_Act) a_2)), (2, ov (S (rI .i64) a_3)), (7, ov (PTR gb_4 0)), (9, ov (PTR gb_12 0)), (10, ov (PTR gb_32 0)), (11, ov (PTR gb_34 0)), (12, ov (S (rI .i64) x_29)), (76, ov (S rB v_49))], [cvar gb_4 (rP (rW (MPV go_5)) (rP (rI .i64) (rP (rI .i64) r0))) ((), (t_1, (x_41, ()))), cmap go_5 (A r_net_pair) (S (rL (rL (rU UInt8)))) (some (x_40)), cvar gb_12 (rP (rW (HDR go_44 0 (List.length x_42) gc_45)) (rP (rI .i64) (rP (rI .i64) r0))) ((), (t_1, (x_43, ()))), cown go_44 r_api_Flight x_42 0 gc_45, cvar gb_32 (rP (rW (MPV go_33)) (rP (rI .i64) (rP (rI .i64) r0))) ((), (t_1, (lost_26, ()))), cmap go_33 (A r_net_pair) (S (rL (rL (rU UInt8)))) (some x_25), cvar gb_34 (rP (rW (HDR go_35 0 (List.length L_27) gc_36)) (rP (rI .i64) (rP (rI .i64) r0))) ((), (t_1, (Lost_28, ()))), cown go_35 r_api_Flight L_27 0 gc_36], []⟩ (.cons rfl (.cons rfl (.cons rfl (.cons rfl (.cons rfl (.cons rfl (.cons rfl (.cons rfl .nil)))))))) rfl rfl ?_
                       refine JL.nil ?_
                       replace hx14 := Option.some.inj hx14
                       replace hx14 := Prod.mk.inj hx14
                       obtain ⟨hx14_a, hx14⟩ := hx14
                       first | subst hx14_a | clear hx14_a
                       replace hx14 := Prod.mk.inj hx14
                       obtain ⟨hx14_a, hx14⟩ := hx14
                       first | subst hx14_a | clear hx14_a
                       replace hx14 := Prod.mk.inj hx14
                       obtain ⟨hx14_a, hx14⟩ := hx14
                       first | subst hx14_a | clear hx14_a
                       replace hx14 := Prod.mk.inj hx14
                       obtain ⟨hx14_a, hx14⟩ := hx14
                       first | subst hx14_a | clear hx14_a
                       first | subst hx14 | clear hx14
                       exact JQ.join (go_44, gc_45) (Imp.norm (js := [0, 0, 0, 0, 0, 0, 0, 0]) rfl (.cons rfl (.cons rfl (.cons rfl (.cons rfl (.cons rfl (.cons rfl (.cons rfl (.cons rfl .nil)))))))))
               · refine JC.condF (.tmp rfl) hc12 ?_
                 refine JC.exit ?_
                 refine JQ.outX ?_
                 replace hx := Option.some.inj hx
                 first | subst hx | clear hx
                 have ht := hr _ rfl
                 clear hr
                 first | subst ht | clear ht
                 dsimp only at hq11
                 refine JQ.outX ?_
                 refine JQ.here ?_
                 replace hq11 := Option.some.inj hq11
                 first | subst hq11 | clear hq11
                 exact JQ.joinK (x_21, lost_22, L_23, Lost_24, x_25, lost_26, L_27, Lost_28) (go_30, gc_31, gb_32, go_33, gb_34, go_35, gc_36) rfl (Imp.norm (js := [0, 0, 0, 0, 0, 0, 0, 0]) rfl (.cons rfl (.cons rfl (.cons rfl (.cons rfl (.cons rfl .nil))))))
         · refine JC.region ?_
           refine jc (op_move lb (.tmp rfl)) ?_
           refine jc (op_nilP (neg := false) lb tu25 (.tmp rfl) (HasO.const (p := PTO none) fun _ => rfl)) ?_
           refine jc (op_move lb (.tmp rfl)) ?_
           refine JL.run (.yes rfl (ltB rfl) rfl rfl) (op_move lb (.tmp rfl)) ?_
           refine JL.sub ⟨[(1, ov (S (rL r_law12_Act) a_2)), (2, ov (S (rI .i64) a_3)), (7, ov (PTR gb_4 0)), (9, ov (PTR gb_12 0)), (43, ov (S rB false)), (44, ov (S (rI .i64) (0 : Int)))], [cvar gb_4 (rP (rW (MPV go_5)) (rP (rI .i64) (rP (rI .i64) r0))) ((), (t_1, ((0 : Int), ()))), cmap go_5 (A r_net_pair) (S (rL (rL (rU UInt8)))) (some ([] : (List (net_pair × (List (List UInt8)))))), cvar gb_12 (rP (rW (HDR none 0 0 0)) (rP (rI .i64) (rP (rI .i64) r0))) ((), (t_1, ((0 : Int), ())))], []⟩ (.cons rfl (.cons rfl (.cons rfl (.cons rfl (.cons rfl (.cons rfl .nil)))))) rfl rfl ?_
           replace hx9 := bnd_inv hx9
           obtain ⟨_, hv_u_13, hx9⟩ := hx9
           refine JL.runX (.yes rfl (ltB rfl) rfl rfl) (op_call (js := []) ld cl12 (sim_law12_num k (0 : Int) () hv_u_13) .func (.cons (.tmp rfl) .nil) rfl) (fun _ => ?_)
           refine JL.run (.yes rfl (ltB rfl) rfl rfl) (op_cmpI lb (.tmp rfl) .cI (congrArg some (by decide : ((0 : Int) != (0 : Int)) = false))) ?_
           refine jc (op_pickF lb (.tmp rfl) rfl (.tmp rfl)) ?_
           refine JL.nil ?_
           exact JQ.join () (Imp.norm (js := [0, 0, 0]) rfl (.cons rfl (.cons rfl (.cons rfl (.cons rfl (.cons rfl .nil))))))
   · refine JC.region ?_
     refine jc (op_move lb (.tmp rfl)) ?_
     replace hx2 := lt1_inv hx2
     obtain ⟨v_6, hv_v_6, hx2⟩ := hx2
     refine jc (op_cmpI lb (.tmp rfl) .cI (congrArg some hv_v_6)) ?_
     refine JL.sub ⟨[(0, ov (S (rI .i64) t_1)), (1, ov (S (rL r_law12_Act) a_2)), (2, ov (S (rI .i64) a_3)), (7, ov (PTR gb_4 0)), (8, ov (S (rI .i64) (0 : Int))), (20, ov (S rB v_6))], [cvar gb_4 (rP (rW (MPV go_5)) (rP (rI .i64) (rP (rI .i64) r0))) ((), (t_1, ((0 : Int), ()))), cmap go_5 (A r_net_pair) (S (rL (rL (rU UInt8)))) (some ([] : (List (net_pair × (List (List UInt8))))))], []⟩ (.cons rfl (.cons rfl (.cons rfl (.cons rfl (.cons rfl (.cons rfl .nil)))))) rfl rfl ?_
     refine jc (op_move lb (.tmp rfl)) ?_
     refine JL.cnd (sv := ov (S (rI .i64) t_1)) (Guard.isF (ltB rfl) rfl rfl) rfl (ltB rfl) (fun hq_3 => op_move lb (.tmp rfl)) ?_
     replace hx2 := lt1_inv hx2
     obtain ⟨v_7, hv_v_7, hx2⟩ := hx2
     refine JL.cnd (sv := ov (S rB v_7)) (Guard.isF (ltB rfl) rfl rfl) rfl (ltB rfl) (fun hq_4 => op_cmpI lb (HasO.cnd (.tmp rfl) (notT (notF hq_4))) .cI (congrArg some hv_v_7)) ?_
     replace hx2 := lt1_inv hx2
     obtain ⟨v_8, hv_v_8, hx2⟩ := hx2
     refine jc (op_pickCS lb (.tmp rfl) (fun hb5 => .cB) (fun hb5 => (HasO.cnd (.tmp rfl) (notT hb5))) hv_v_8) ?_
     refine JL.nil ?_
     replace hx2 := Option.some.inj hx2
     first | subst hx2 | clear hx2
     exact JQ.join () (Imp.norm (js := [0, 0]) rfl (.cons rfl (.cons rfl (.cons rfl (.cons rfl (.cons rfl (.cons rfl .nil)))))))
 · obtain _ := ts1
   dsimp only at hm
   refine jx (op_call (js := []) ld cl11 (sim_net_New_v1 k t_1 () hs1) .func (.cons (.tmp rfl) .nil) rfl) (fun _ => ?_)
   refine jc (op_move lb (.tmp rfl)) ?_
   refine jc (op_extract (i := 0) lb (.tmp rfl) rfl) ?_
   refine jc (op_extract (i := 1) lb (.tmp rfl) rfl) ?_
   refine jc (op_assign lb (.tmp rfl)) ?_
   refine jc (op_assign lb (.tmp rfl)) ?_
   refine JL.nil ?_
   refine JQ.then ?_
   refine JC.seq ?_
   replace hm := bnd_inv hm
   obtain ⟨x_147, hx28, hq28⟩ := hm
   refine JC.seqJ (γ := Unit) (stj := fun q => ⟨[(0, ov (S (rI .i64) t_1)), (1, ov (S (rL r_law12_Act) a_2)), (2, ov (S (rI .i64) a_3)), (7, ov (PTO none)), (8, ov (S (rI .i64) (2 : Int))), (24, ov (S rB x_147))], [], []⟩) (fun q => ?_) ?_
   · obtain _ := q
     refine JC.at ⟨[(0, ov (S (rI .i64) t_1)), (1, ov (S (rL r_law12_Act) a_2)), (2, ov (S (rI .i64) a_3)), (7, ov (PTO none)), (8, ov (S (rI .i64) (2 : Int))), (24, ov (S rB x_147))], [], []⟩ ?_
     replace hq28 := iteB_inv hq28
     rcases hq28 with ⟨hc32, hq28⟩ | ⟨hc32, hq28⟩
     · refine JC.condT (.tmp rfl) hc32 ?_
       replace hq28 := bnd_inv hq28
       obtain ⟨x_150, hx33, hq33⟩ := hq28
       refine JC.seqJ (γ := Unit) (stj := fun q => ⟨[(6, ov (S rB x_150))], [], []⟩) (fun q => ?_) ?_
       · obtain _ := q
         refine JC.at ⟨[(6, ov (S rB x_150))], [], []⟩ ?_
         refine JC.ret ?_
         refine JQ.outR ?_
         replace hq33 := Option.some.inj hq33
         subst hq33
         exact JQ.done (js := []) (ss := [.val (S rB x_150)]) () (.inl rfl) (.nil rfl) rfl (.cons (.tmp rfl) .nil) rfl rfl rfl
       · refine JC.region ?_
         refine jc (op_move lb (.tmp rfl)) ?_
         refine jc (op_nilO (neg := false) (ob := none) lb tu25 (.tmp rfl) (HasO.const (p := PTO none) fun _ => rfl) rfl) ?_
         refine jc (op_move lb (.tmp rfl)) ?_
         refine JL.run (.yes rfl (ltB rfl) rfl rfl) (op_move lb (.tmp rfl)) ?_
         replace hx33 := bnd_inv hx33
         obtain ⟨_, hv_u_148, hx33⟩ := hx33
         refine JL.runX (.yes rfl (ltB rfl) rfl rfl) (op_call (js := []) ld cl12 (sim_law12_num k (2 : Int) () hv_u_148) .func (.cons (.tmp rfl) .nil) rfl) (fun _ => ?_)
         refine JL.run (.yes rfl (ltB rfl) rfl rfl) (op_cmpI lb (.tmp rfl) .cI (congrArg some (by decide : ((2 : Int) == (2 : Int)) = true))) ?_
         refine jc (op_pickT lb (.tmp rfl) rfl (.tmp rfl)) ?_
         refine jc (op_move lb (.tmp rfl)) ?_
         replace hx33 := bnd_inv hx33
         obtain ⟨v_149, hv_v_149, hx33⟩ := hx33
         refine JL.runX (.yes rfl (ltB rfl) rfl rfl) (op_call (js := []) ld cl9 (sim_law12_known'2 k v_149 hv_v_149) .func .nil rfl) (fun _ => ?_)
         refine jc (op_pickT lb (.tmp rfl) rfl (.tmp rfl)) ?_
         refine jc (op_assign lb (.tmp rfl)) ?_
         refine JL.nil ?_
         replace hx33 := Option.some.inj hx33
         first | subst hx33 | clear hx33
         exact JQ.join () (Imp.norm (js := []) rfl (.cons rfl .nil))
     · refine JC.condF (.tmp rfl) hc32 ?_
       refine JC.skip ?_
       refine JQ.then ?_
       refine JC.seq ?_
       refine JC.seq ?_
       refine JC.region ?_
       refine jc (op_move lb (.tmp rfl)) ?_
       replace hq28 := bnd_inv hq28
       obtain ⟨v_151, hv_v_151, hq28⟩ := hq28
       refine jx (op_call (js := []) ld cl10 (sim_law12_much k a_2 v_151 hv_v_151) .func (.cons (.tmp rfl) .nil) rfl) (fun _ => ?_)
       refine JL.nil ?_
       refine JQ.then ?_
       replace hq28 := iteB_inv hq28
       rcases hq28 with ⟨hc34, hq28⟩ | ⟨hc34, hq28⟩
       · refine JC.condT (.tmp rfl) hc34 ?_
         refine JC.seq ?_
         refine JC.region ?_
         replace hq28 := bnd_inv hq28
         obtain ⟨v_152, hv_v_152, hq28⟩ := hq28
         refine jx (op_call (js := []) ld cl9 (sim_law12_known'2 k v_152 hv_v_152) .func .nil rfl) (fun _ => ?_)
         refine jc (op_assign lb (.tmp rfl)) ?_
         refine JL.nil ?_
         refine JQ.then ?_
         refine JC.ret ?_
         refine JQ.outR ?_
         replace hq28 := Option.some.inj hq28
         subst hq28
         exact JQ.done (js := []) (ss := [.val (S rB v_152)]) () (.inl rfl) (.nil rfl) rfl (.cons (.tmp rfl) .nil) rfl rfl rfl
       · refine JC.condF (.tmp rfl) hc34 ?_
         refine JC.skip ?_
         refine JQ.then ?_
         refine JC.seq ?_
         refine JC.region ?_
         refine jc (op_move lb (.tmp rfl)) ?_
         refine jc (op_build lb tZ43 zr43 tp43 (.S (off := 1) rfl (.tmp rfl) rfl ((UpdR.snd (UpdR.fst (UpdR.self (by rfl)))).at (by rfl)) .nil) rfl) ?_
         refine jx (op_boxA lb (.tmp rfl)) (fun q => ?_)
         obtain ⟨gb_153, hqq⟩ : ∃ z, z = q := ⟨_, rfl⟩
         subst hqq
         refine jc (op_assign lb (.tmp rfl)) ?_
         refine JL.nil ?_
         refine JQ.then ?_
         refine JC.seq ?_
         replace hq28 := bnd_inv hq28
         obtain ⟨_, hx35, hq35⟩ := hq28
         refine JC.seqJ (γ := Unit) (stj := fun q => ⟨[(1, ov (S (rL r_law12_Act) a_2)), (2, ov (S (rI .i64) a_3)), (7, ov (PTO none)), (9, ov (PTR gb_153 0)), (47, ov (S rB true))], [cvar gb_153 (rP (rW (HDR none 0 0 0)) (rP (rI .i64) (rP (rI .i64) r0))) ((), (t_1, ((0 : Int), ())))], []⟩) (fun q => ?_) ?_
         · obtain _ := q
           refine JC.at ⟨[(1, ov (S (rL r_law12_Act) a_2)), (2, ov (S (rI .i64) a_3)), (7, ov (PTO none)), (9, ov (PTR gb_153 0)), (47, ov (S rB true))], [cvar gb_153 (rP (rW (HDR none 0 0 0)) (rP (rI .i64) (rP (rI .i64) r0))) ((), (t_1, ((0 : Int), ())))], []⟩ ?_
           refine JC.condT (.tmp rfl) rfl ?_
           refine JC.seq ?_
           refine JC.region ?_
           refine jc (op_assign lb .cB) ?_
           refine JL.nil ?_
           refine JQ.then ?_
           refine JC.ret ?_
           refine JQ.outR ?_
           replace hq35 := Option.some.inj hq35
           subst hq35
           exact JQ.done (js := []) (ss := [.val (S rB false)]) () (.inl rfl) (.nil rfl) rfl (.cons (.tmp rfl) .nil) rfl rfl rfl
         · refine JC.region ?_
           refine jc (op_move lb (.tmp rfl)) ?_
           refine jc (op_nilO (neg := false) (ob := none) lb tu25 (.tmp rfl) (HasO.const (p := PTO none) fun _ => rfl) rfl) ?_
           refine jc (op_move lb (.tmp rfl)) ?_
           refine JL.skip (.no rfl (ltB rfl) rfl rfl) (fun d h => by cases h; exact ltB rfl) ?_
           refine JL.skip (.no rfl (ltB rfl) rfl rfl) (fun d h => by cases h; exact ltB rfl) ?_
           refine JL.skip (.no rfl (ltB rfl) rfl rfl) (fun d h => by cases h; exact ltB rfl) ?_
           refine jc (op_pickT lb (.tmp rfl) rfl .cB) ?_
           refine JL.sub ⟨[(1, ov (S (rL r_law12_Act) a_2)), (2, ov (S (rI .i64) a_3)), (7, ov (PTO none)), (9, ov (PTR gb_153 0)), (47, ov (S rB true))], [cvar gb_153 (rP (rW (HDR none 0 0 0)) (rP (rI .i64) (rP (rI .i64) r0))) ((), (t_1, ((0 : Int), ())))], []⟩ (.cons rfl (.cons rfl (.cons rfl (.cons rfl (.cons rfl .nil))))) rfl rfl ?_
           refine JL.nil ?_
           exact JQ.join () (Imp.norm (js := [0]) rfl (.cons rfl (.cons rfl (.cons rfl (.cons rfl (.cons rfl .nil))))))
   · refine JC.region ?_
     refine jc (op_move lb (.tmp rfl)) ?_
     replace hx28 := lt1_inv hx28
     obtain ⟨v_144, hv_v_144, hx28⟩ := hx28
     refine jc (op_cmpI lb (.tmp rfl) .cI (congrArg some hv_v_144)) ?_
     refine JL.sub ⟨[(0, ov (S (rI .i64) t_1)), (1, ov (S (rL r_law12_Act) a_2)), (2, ov (S (rI .i64) a_3)), (7, ov (PTO none)), (8, ov (S (rI .i64) (2 : Int))), (20, ov (S rB v_144))], [], []⟩ (.cons rfl (.cons rfl (.cons rfl (.cons rfl (.cons rfl (.cons rfl .nil)))))) rfl rfl ?_
     refine jc (op_move lb (.tmp rfl)) ?_
     refine JL.cnd (sv := ov (S (rI .i64) t_1)) (Guard.isF (ltB rfl) rfl rfl) rfl (ltB rfl) (fun hq_29 => op_move lb (.tmp rfl)) ?_
     replace hx28 := lt1_inv hx28
     obtain ⟨v_145, hv_v_145, hx28⟩ := hx28
     refine JL.cnd (sv := ov (S rB v_145)) (Guard.isF (ltB rfl) rfl rfl) rfl (ltB rfl) (fun hq_30 => op_cmpI lb (HasO.cnd (.tmp rfl) (notT (notF hq_30))) .cI (congrArg some hv_v_145)) ?_
     replace hx28 := lt1_inv hx28
     obtain ⟨v_146, hv_v_146, hx28⟩ := hx28
     refine jc (op_pickCS lb (.tmp rfl) (fun hb31 => .cB) (fun hb31 => (HasO.cnd (.tmp rfl) (notT hb31))) hv_v_146) ?_
     refine JL.nil ?_
     replace hx28 := Option.some.inj hx28
     first | subst hx28 | clear hx28
     exact JQ.join () (Imp.norm (js := []) rfl (.cons rfl (.cons rfl (.cons rfl (.cons rfl (.cons rfl (.cons rfl .nil)))))))

end Go.Proofs.Ytnadeehdnmgebaa
