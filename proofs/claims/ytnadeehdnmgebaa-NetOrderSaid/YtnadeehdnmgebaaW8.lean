/- Walks. -/
import Derived.Test.YtnadeehdnmgebaaT
import Derived.Test.YtnadeehdnmgebaaW0
import Derived.Test.YtnadeehdnmgebaaW1
import Derived.Test.YtnadeehdnmgebaaW3
import Derived.Test.YtnadeehdnmgebaaW4
import Derived.Test.YtnadeehdnmgebaaW5
import Derived.Test.YtnadeehdnmgebaaW6
namespace Go.Proofs.Ytnadeehdnmgebaa
open Go Fw
set_option linter.unusedVariables false
set_option maxRecDepth 100000
set_option maxHeartbeats 4000000

theorem sim_law12_NetOrder (k : Nat) (t_1 : (List law12_Act)) (r : Bool) (hm : law12_NetOrder k t_1 = some r) : Sim Try.prog 4 [S (rL r_law12_Act) t_1] [] (γ := Unit) (fun q => []) (fun q => .one (.val (S rB r))) := by
 unfold law12_NetOrder at hm
 refine Sim.of Try.func4 rfl rfl (Nat.le_of_ble_eq_true rfl) (fun e0 w0 => ?_)
 refine JC.at ⟨[(0, ov (S (rL r_law12_Act) t_1))], [], []⟩ ?_
 refine JC.seq ?_
 refine JC.region ?_
 refine jc (op_assign lb .cB) ?_
 refine JL.nil ?_
 refine JQ.then ?_
 refine JC.seq ?_
 refine JC.seq ?_
 refine JC.region ?_
 refine jc (op_move lb (.tmp rfl)) ?_
 replace hm := bnd_inv hm
 obtain ⟨v_2, hv_v_2, hm⟩ := hm
 refine jx (op_call (js := []) ld cl10 (sim_law12_much k t_1 v_2 hv_v_2) .func (.cons (.tmp rfl) .nil) rfl) (fun _ => ?_)
 refine JL.nil ?_
 refine JQ.then ?_
 replace hm := iteB_inv hm
 rcases hm with ⟨hc1, hm⟩ | ⟨hc1, hm⟩
 · refine JC.condT (.tmp rfl) hc1 ?_
   refine JC.seq ?_
   refine JC.region ?_
   replace hm := bnd_inv hm
   obtain ⟨v_3, hv_v_3, hm⟩ := hm
   refine jx (op_call (js := []) ld cl9 (sim_law12_known'2 k v_3 hv_v_3) .func .nil rfl) (fun _ => ?_)
   refine jc (op_assign lb (.tmp rfl)) ?_
   refine JL.nil ?_
   refine JQ.then ?_
   refine JC.ret ?_
   refine JQ.outR ?_
   replace hm := Option.some.inj hm
   subst hm
   exact JQ.done (js := []) (ss := [.val (S rB v_3)]) () (.inl rfl) (.nil rfl) rfl (.cons (.tmp rfl) .nil) rfl rfl rfl
 · refine JC.condF (.tmp rfl) hc1 ?_
   refine JC.skip ?_
   refine JQ.then ?_
   refine JC.seq ?_
   refine JC.region ?_
   replace hm := bnd_inv hm
   obtain ⟨ts2, hs2, hm⟩ := hm
   rcases ts2 with ts2 | ts2
   · obtain _ := ts2
     dsimp only at hm
     refine jx (op_call (js := []) ld cl11 (sim_net_New_v0 k (4 : Int) () hs2) .func (.cons .cI .nil) rfl) (fun q => ?_)
     obtain ⟨gb_4, go_5⟩ := q
     refine jc (op_move lb (.tmp rfl)) ?_
     refine jc (op_extract (i := 0) lb (.tmp rfl) rfl) ?_
     refine jc (op_extract (i := 1) lb (.tmp rfl) rfl) ?_
     refine jc (op_assign lb (.tmp rfl)) ?_
     refine jc (op_assign lb (.tmp rfl)) ?_
     refine JL.nil ?_
     refine JQ.then ?_
     refine JC.seq ?_
     replace hm := bnd_inv hm
     obtain ⟨_, hx3, hq3⟩ := hm
     refine JC.seqJ (γ := Unit) (stj := fun q => ⟨[(0, ov (S (rL r_law12_Act) t_1)), (3, ov (PTR gb_4 0)), (26, ov (S rB false))], [cvar gb_4 (rP (rW (MPV go_5)) (rP (rI .i64) (rP (rI .i64) r0))) ((), ((4 : Int), ((0 : Int), ()))), cmap go_5 (A r_net_pair) (S (rL (rL (rU UInt8)))) (some ([] : (List (net_pair × (List (List UInt8))))))], []⟩) (fun q => ?_) ?_
     · obtain _ := q
       refine JC.at ⟨[(0, ov (S (rL r_law12_Act) t_1)), (3, ov (PTR gb_4 0)), (26, ov (S rB false))], [cvar gb_4 (rP (rW (MPV go_5)) (rP (rI .i64) (rP (rI .i64) r0))) ((), ((4 : Int), ((0 : Int), ()))), cmap go_5 (A r_net_pair) (S (rL (rL (rU UInt8)))) (some ([] : (List (net_pair × (List (List UInt8))))))], []⟩ ?_
       refine JC.condF (.tmp rfl) rfl ?_
       refine JC.skip ?_
       refine JQ.then ?_
       refine JC.seq ?_
       refine JC.region ?_
       refine jc (op_assign lb HasO.nilH) ?_
       refine JL.nil ?_
       refine JQ.then ?_
       replace hq3 := bnd_inv hq3
       obtain ⟨⟨x_39, lost_40, x_41⟩, hx4, hq4⟩ := hq3
       refine JC.seqJ (γ := Option Nat × Nat) (stj := fun q => ⟨[(3, ov (PTR gb_4 0)), (5, ov (HDR q.1 0 (List.length x_41) q.2))], [cvar gb_4 (rP (rW (MPV go_5)) (rP (rI .i64) (rP (rI .i64) r0))) ((), ((4 : Int), (lost_40, ()))), cmap go_5 (A r_net_pair) (S (rL (rL (rU UInt8)))) (some x_39), cown q.1 r_api_Flight x_41 0 q.2], []⟩) (fun q => ?_) ?_
       · obtain ⟨go_42, gc_43⟩ := q
         refine JC.at ⟨[(3, ov (PTR gb_4 0)), (5, ov (HDR go_42 0 (List.length x_41) gc_43))], [cvar gb_4 (rP (rW (MPV go_5)) (rP (rI .i64) (rP (rI .i64) r0))) ((), ((4 : Int), (lost_40, ()))), cmap go_5 (A r_net_pair) (S (rL (rL (rU UInt8)))) (some x_39), cown go_42 r_api_Flight x_41 0 gc_43], []⟩ ?_
         replace hq4 := bnd_inv hq4
         obtain ⟨tv12, hx12, hq12⟩ := hq4
         refine JC.seqK (α := (List (net_pair × (List (List UInt8))))) (γ := Unit) (stj := fun v q => ⟨[(3, ov (PTR gb_4 0))], [cvar gb_4 (rP (rW (MPV go_5)) (rP (rI .i64) (rP (rI .i64) r0))) ((), ((4 : Int), (lost_40, ()))), cmap go_5 (A r_net_pair) (S (rL (rL (rU UInt8)))) (some v)], []⟩) (p := fun v => tv12 = (.inl v)) (fun v q hv => ?_) ?_
         · subst hv
           obtain ⟨x_88, hvv⟩ : ∃ z, z = v := ⟨_, rfl⟩
           subst hvv
           obtain _ := q
           dsimp only at hq12
           refine JC.at ⟨[(3, ov (PTR gb_4 0))], [cvar gb_4 (rP (rW (MPV go_5)) (rP (rI .i64) (rP (rI .i64) r0))) ((), ((4 : Int), (lost_40, ()))), cmap go_5 (A r_net_pair) (S (rL (rL (rU UInt8)))) (some x_88)], []⟩ ?_
           refine JC.seq ?_
           refine JC.region ?_
           refine jc (op_move lb (.tmp rfl)) ?_
           replace hq12 := bnd_inv hq12
           obtain ⟨⟨v_89, v_90, x_91⟩, hv_v_89, hq12⟩ := hq12
           refine jx (op_call (js := [0, 0]) ld cl15 (sim_net_Net_Take'2 k (0 : Int) (4 : Int) lost_40 x_88 gb_4 go_5 (v_89, v_90, x_91) hv_v_89) .func (.cons (.tmp rfl) (.cons .cI .nil)) rfl) (fun _ => ?_)
           refine jc (op_move lb (.tmp rfl)) ?_
           refine jc (op_extract (i := 0) lb (.tmp rfl) rfl) ?_
           refine jc (op_extract (i := 1) lb (.tmp rfl) rfl) ?_
           refine jx (op_alloc lb tZ36 zr36) (fun q => ?_)
           obtain ⟨gb_92, hqq⟩ : ∃ z, z = q := ⟨_, rfl⟩
           subst hqq
           refine jc (op_storeA (j := 2) tA36 (.tmp rfl) (.tmp rfl) rfl (UpdR.self (by rfl)) rfl) ?_
           refine JL.nrm ⟨[(3, ov (PTR gb_4 0)), (147, ov (S (rI .i64) v_90))], [cvar gb_4 (rP (rW (MPV go_5)) (rP (rI .i64) (rP (rI .i64) r0))) ((), ((4 : Int), (lost_40, ()))), cmap go_5 (A r_net_pair) (S (rL (rL (rU UInt8)))) (some (x_91))], []⟩ [0, 0] rfl (.cons rfl (.cons rfl .nil)) rfl ?_
           refine jc (op_assign lb (.tmp rfl)) ?_
           refine JL.nil ?_
           refine JQ.then ?_
           replace hq12 := bnd_inv hq12
           obtain ⟨x_99, hx31, hq31⟩ := hq12
           refine JC.seqJ (γ := Unit) (stj := fun q => ⟨[(2, ov (S rB x_99))], [], []⟩) (fun q => ?_) ?_
           · obtain _ := q
             refine JC.at ⟨[(2, ov (S rB x_99))], [], []⟩ ?_
             refine JC.ret ?_
             replace hq31 := Option.some.inj hq31
             subst hq31
             exact JQ.done (js := []) (ss := [.val (S rB x_99)]) () (.inl rfl) (.nil rfl) rfl (.cons (.tmp rfl) .nil) rfl rfl rfl
           · refine JC.region ?_
             refine jc (op_move lb (.tmp rfl)) ?_
             replace hx31 := bnd_inv hx31
             obtain ⟨_, hv_u_93, hx31⟩ := hx31
             refine jx (op_call (js := []) ld cl12 (sim_law12_num k v_90 () hv_u_93) .func (.cons (.tmp rfl) .nil) rfl) (fun _ => ?_)
             replace hx31 := lt1_inv hx31
             obtain ⟨v_94, hv_v_94, hx31⟩ := hx31
             refine jc (op_cmpI lb (.tmp rfl) .cI (congrArg some hv_v_94)) ?_
             refine jc (op_move lb (.tmp rfl)) ?_
             replace hx31 := iteB_inv hx31
             rcases hx31 with ⟨hc33, hx31⟩ | ⟨hc33, hx31⟩
             · refine JL.run (.yes rfl (ltB rfl) rfl hc33) (op_move lb (.tmp rfl)) ?_
               replace hx31 := bnd_inv hx31
               obtain ⟨v_95, hv_v_95, hx31⟩ := hx31
               refine JL.runX (.yes rfl (ltB rfl) rfl hc33) (op_call (js := [0, 0]) ld cl16 (sim_net_Net_Len k (4 : Int) lost_40 (x_91) gb_4 go_5 v_95 hv_v_95) .func (.cons (.tmp rfl) .nil) rfl) (fun _ => ?_)
               replace hx31 := lt1_inv hx31
               obtain ⟨v_96, hv_v_96, hx31⟩ := hx31
               refine JL.run (.yes rfl (ltB rfl) rfl hc33) (op_cmpI lb (.tmp rfl) .cI (congrArg some hv_v_96)) ?_
               refine jc (op_pickT lb (.tmp rfl) hc33 (.tmp rfl)) ?_
               refine jc (op_move lb (.tmp rfl)) ?_
               replace hx31 := bnd_inv hx31
               obtain ⟨v_97, hv_v_97, hx31⟩ := hx31
               refine JL.cnd (sv := ov (S rB v_97)) (Guard.isT (ltB rfl) rfl rfl) rfl (ltB rfl) (fun hq_34 => (op_call (js := []) ld cl9 (sim_law12_known'2 k v_97 (ifT hv_v_97 hq_34)) .func .nil rfl).post (fun _ => Imp.refl)) ?_
               replace hx31 := lt1_inv hx31
               obtain ⟨v_98, hv_v_98, hx31⟩ := hx31
               refine jc (op_pickCS lb (.tmp rfl) (fun hb35 => (HasO.cnd (.tmp rfl) hb35)) (fun hb35 => .cB) hv_v_98) ?_
               refine JL.nrm ⟨[(158, ov (S rB v_98))], [], []⟩ [] rfl (.cons rfl .nil) rfl ?_
               refine jc (op_assign lb (.tmp rfl)) ?_
               refine JL.nil ?_
               replace hx31 := Option.some.inj hx31
               first | subst hx31 | clear hx31
               exact JQ.join () (Imp.norm (js := []) rfl (.cons rfl .nil))
             · refine JL.skip (.no rfl (ltB rfl) rfl hc33) (fun d h => by cases h; exact ltB rfl) ?_
               refine JL.skip (.no rfl (ltB rfl) rfl hc33) (fun d h => by cases h; exact ltB rfl) ?_
               refine JL.skip (.no rfl (ltB rfl) rfl hc33) (fun d h => by cases h; exact ltB rfl) ?_
               refine jc (op_pickF lb (.tmp rfl) hc33 .cB) ?_
               refine jc (op_move lb (.tmp rfl)) ?_
               refine JL.skip (.no rfl (ltB rfl) rfl rfl) (fun d h => by cases h; exact ltB rfl) ?_
               refine jc (op_pickF lb (.tmp rfl) rfl .cB) ?_
               refine jc (op_assign lb (.tmp rfl)) ?_
               refine JL.nil ?_
               replace hx31 := Option.some.inj hx31
               first | subst hx31 | clear hx31
               exact JQ.join () (Imp.norm (js := []) rfl (.cons rfl .nil))
         · refine JC.seq ?_
           refine JC.region ?_
           refine jc (op_move lb (.tmp rfl)) ?_
           refine jc (op_lenH lb tu30 (.tmp rfl)) ?_
           refine jc (op_assign lb (.tmp rfl)) ?_
           refine JL.nil ?_
           refine JQ.then ?_
           refine JC.block ?_
           replace hx12 := bnd_inv hx12
           obtain ⟨tv13, hL13, hq13⟩ := hx12
           refine JC.pre ?_ (JC.loop (γ := Option Nat × Nat) (stf := fun s q => ⟨[(3, ov (PTR gb_4 0)), (5, ov (HDR q.1 0 (List.length s.2.1) q.2)), (7, ov (S (rI .i64) s.2.2))], [cvar gb_4 (rP (rW (MPV go_5)) (rP (rI .i64) (rP (rI .i64) r0))) ((), ((4 : Int), (lost_40, ()))), cmap go_5 (A r_net_pair) (S (rL (rL (rU UInt8)))) (some s.1), cown q.1 r_api_Flight s.2.1 0 q.2], []⟩) (q := (go_42, gc_43)) hL13 ?_)
           · exact (Imp.norm (js := [0, 0, 0]) rfl (.cons rfl (.cons rfl (.cons rfl .nil))))
           · intro s q x hx hr
             obtain ⟨x_44, x_45, x_46⟩ := s
             obtain ⟨go_47, gc_48⟩ := q
             change law12_NetOrder.b2 k lost_40 x_44 x_45 x_46 = some x at hx
             unfold law12_NetOrder.b2 at hx
             refine JC.at ⟨[(3, ov (PTR gb_4 0)), (5, ov (HDR go_47 0 (List.length x_45) gc_48)), (7, ov (S (rI .i64) x_46))], [cvar gb_4 (rP (rW (MPV go_5)) (rP (rI .i64) (rP (rI .i64) r0))) ((), ((4 : Int), (lost_40, ()))), cmap go_5 (A r_net_pair) (S (rL (rL (rU UInt8)))) (some x_44), cown go_47 r_api_Flight x_45 0 gc_48], []⟩ ?_
             refine JC.seq ?_
             refine JC.seq ?_
             refine JC.region ?_
             refine jc (op_move lb (.tmp rfl)) ?_
             replace hx := lt1_inv hx
             obtain ⟨v_49, hv_v_49, hx⟩ := hx
             refine jc (op_cmpI lb (.tmp rfl) .cI (congrArg some hv_v_49)) ?_
             refine JL.nil ?_
             refine JQ.then ?_
             replace hx := iteB_inv hx
             rcases hx with ⟨hc14, hx⟩ | ⟨hc14, hx⟩
             · refine JC.condT (.tmp rfl) hc14 ?_
               refine JC.skip ?_
               refine JQ.then ?_
               replace hx := bnd_inv hx
               obtain ⟨tv15, hx15, hq15⟩ := hx
               refine JC.seqK (α := (List (net_pair × (List (List UInt8)))) × (List api_Flight)) (γ := Option Nat × Nat) (stj := fun v q => ⟨[(3, ov (PTR gb_4 0)), (5, ov (HDR q.1 0 (List.length v.2) q.2)), (7, ov (S (rI .i64) x_46))], [cvar gb_4 (rP (rW (MPV go_5)) (rP (rI .i64) (rP (rI .i64) r0))) ((), ((4 : Int), (lost_40, ()))), cmap go_5 (A r_net_pair) (S (rL (rL (rU UInt8)))) (some v.1), cown q.1 r_api_Flight v.2 0 q.2], []⟩) (p := fun v => tv15 = (.inl v)) (fun v q hv => ?_) ?_
               · subst hv
                 obtain ⟨x_82, x_83⟩ := v
                 obtain ⟨go_84, gc_85⟩ := q
                 dsimp only at hq15
                 refine JC.at ⟨[(3, ov (PTR gb_4 0)), (5, ov (HDR go_84 0 (List.length x_83) gc_85)), (7, ov (S (rI .i64) x_46))], [cvar gb_4 (rP (rW (MPV go_5)) (rP (rI .i64) (rP (rI .i64) r0))) ((), ((4 : Int), (lost_40, ()))), cmap go_5 (A r_net_pair) (S (rL (rL (rU UInt8)))) (some x_82), cown go_84 r_api_Flight x_83 0 gc_85], []⟩ ?_
                 refine JC.region ?_
                 refine jc (op_move lb (.tmp rfl)) ?_
                 replace hq15 := lt1_inv hq15
                 obtain ⟨v_86, hv_v_86, hq15⟩ := hq15
                 refine jc (op_arI lb (.tmp rfl) .cI (congrArg some hv_v_86)) ?_
                 refine jc (op_assign lb (.tmp rfl)) ?_
                 refine JL.nil ?_
                 replace hq15 := Option.some.inj hq15
                 first | subst hq15 | clear hq15
                 exact JQ.next (go_84, gc_85) rfl (Imp.norm (js := [0, 0, 0]) rfl (.cons rfl (.cons rfl (.cons rfl .nil))))
               · refine JC.block ?_
                 refine JC.seq ?_
                 refine JC.region ?_
                 refine jc (op_move lb (.tmp rfl)) ?_
                 replace hx15 := bnd_inv hx15
                 obtain ⟨⟨v_50, v_51, x_52⟩, hv_v_50, hx15⟩ := hx15
                 refine jx (op_call (js := [0, 0]) ld cl15 (sim_net_Net_Take'2 k (0 : Int) (4 : Int) lost_40 x_44 gb_4 go_5 (v_50, v_51, x_52) hv_v_50) .func (.cons (.tmp rfl) (.cons .cI .nil)) rfl) (fun _ => ?_)
                 refine jc (op_move lb (.tmp rfl)) ?_
                 refine jc (op_extract (i := 0) lb (.tmp rfl) rfl) ?_
                 refine jc (op_extract (i := 1) lb (.tmp rfl) rfl) ?_
                 refine jx (op_alloc lb tZ36 zr36) (fun q => ?_)
                 obtain ⟨gb_53, hqq⟩ : ∃ z, z = q := ⟨_, rfl⟩
                 subst hqq
                 refine JL.sub ⟨[(3, ov (PTR gb_4 0)), (5, ov (HDR go_47 0 (List.length x_45) gc_48)), (7, ov (S (rI .i64) x_46)), (8, ov (PTR gb_53 0)), (88, ov (A r_api_Flight v_50)), (89, ov (S (rI .i64) v_51))], [cvar gb_4 (rP (rW (MPV go_5)) (rP (rI .i64) (rP (rI .i64) r0))) ((), ((4 : Int), (lost_40, ()))), cmap go_5 (A r_net_pair) (S (rL (rL (rU UInt8)))) (some (x_52)), cown go_47 r_api_Flight x_45 0 gc_48, cvar gb_53 (rP (rI .i64) (rP (rI .i64) (rP (rW (HDR none 0 0 0)) r0))) ((0 : Int), ((0 : Int), ((), ())))], []⟩ (.cons rfl (.cons rfl (.cons rfl (.cons rfl (.cons rfl (.cons rfl .nil)))))) rfl rfl ?_
                 refine jc (op_storeA (j := 3) tA36 (.tmp rfl) (.tmp rfl) rfl (UpdR.self (by rfl)) rfl) ?_
                 refine jc (op_assign lb (.tmp rfl)) ?_
                 refine JL.nil ?_
                 refine JQ.then ?_
                 refine JC.seq ?_
                 refine JC.region ?_
                 refine jc (op_assign lb .cI) ?_
                 refine JL.nil ?_
                 refine JQ.then ?_
                 replace hx15 := bnd_inv hx15
                 obtain ⟨x_64, hx16, hq16⟩ := hx15
                 refine JC.seqJ (γ := Unit) (stj := fun q => ⟨[(3, ov (PTR gb_4 0)), (5, ov (HDR go_47 0 (List.length x_45) gc_48)), (7, ov (S (rI .i64) x_46)), (8, ov (PTR gb_53 0)), (9, ov (S (rI .i64) v_51)), (10, ov (S (rI .i64) x_64))], [cvar gb_4 (rP (rW (MPV go_5)) (rP (rI .i64) (rP (rI .i64) r0))) ((), ((4 : Int), (lost_40, ()))), cmap go_5 (A r_net_pair) (S (rL (rL (rU UInt8)))) (some (x_52)), cown go_47 r_api_Flight x_45 0 gc_48, cvar gb_53 r_api_Flight v_50], []⟩) (fun q => ?_) ?_
                 · obtain _ := q
                   refine JC.at ⟨[(3, ov (PTR gb_4 0)), (5, ov (HDR go_47 0 (List.length x_45) gc_48)), (7, ov (S (rI .i64) x_46)), (8, ov (PTR gb_53 0)), (9, ov (S (rI .i64) v_51)), (10, ov (S (rI .i64) x_64))], [cvar gb_4 (rP (rW (MPV go_5)) (rP (rI .i64) (rP (rI .i64) r0))) ((), ((4 : Int), (lost_40, ()))), cmap go_5 (A r_net_pair) (S (rL (rL (rU UInt8)))) (some (x_52)), cown go_47 r_api_Flight x_45 0 gc_48, cvar gb_53 r_api_Flight v_50], []⟩ ?_
                   refine JC.seq ?_
                   replace hq16 := bnd_inv hq16
                   obtain ⟨x_72, hx24, hq24⟩ := hq16
                   refine JC.seqJ (γ := Unit) (stj := fun q => ⟨[(3, ov (PTR gb_4 0)), (5, ov (HDR go_47 0 (List.length x_45) gc_48)), (7, ov (S (rI .i64) x_46)), (10, ov (S (rI .i64) x_64)), (133, ov (S rB x_72))], [cvar gb_4 (rP (rW (MPV go_5)) (rP (rI .i64) (rP (rI .i64) r0))) ((), ((4 : Int), (lost_40, ()))), cmap go_5 (A r_net_pair) (S (rL (rL (rU UInt8)))) (some (x_52)), cown go_47 r_api_Flight x_45 0 gc_48], []⟩) (fun q => ?_) ?_
                   · obtain _ := q
                     refine JC.at ⟨[(3, ov (PTR gb_4 0)), (5, ov (HDR go_47 0 (List.length x_45) gc_48)), (7, ov (S (rI .i64) x_46)), (10, ov (S (rI .i64) x_64)), (133, ov (S rB x_72))], [cvar gb_4 (rP (rW (MPV go_5)) (rP (rI .i64) (rP (rI .i64) r0))) ((), ((4 : Int), (lost_40, ()))), cmap go_5 (A r_net_pair) (S (rL (rL (rU UInt8)))) (some (x_52)), cown go_47 r_api_Flight x_45 0 gc_48], []⟩ ?_
                     replace hq24 := iteB_inv hq24
                     rcases hq24 with ⟨hc30, hq24⟩ | ⟨hc30, hq24⟩
                     · refine JC.condT (.tmp rfl) hc30 ?_
                       refine JC.seq ?_
                       refine JC.region ?_
                       refine jc (op_assign lb .cB) ?_
                       refine JL.nil ?_
                       refine JQ.then ?_
                       refine JC.ret ?_
                       refine JQ.outR ?_
                       refine JQ.outRB ?_
                       replace hq24 := Option.some.inj hq24
                       first | subst hq24 | clear hq24
                       dsimp only at hq15
                       refine JQ.outR ?_
                       replace hq15 := Option.some.inj hq15
                       first | subst hq15 | clear hq15
                       have ht := hr _ rfl
                       clear hr
                       first | subst ht | clear ht
                       dsimp only at hq13
                       refine JQ.outR ?_
                       refine JQ.outRB ?_
                       replace hq13 := Option.some.inj hq13
                       first | subst hq13 | clear hq13
                       dsimp only at hq12
                       refine JQ.outR ?_
                       replace hq12 := Option.some.inj hq12
                       subst hq12
                       exact JQ.done (js := []) (ss := [.val (S rB false)]) () (.inl rfl) (.nil rfl) rfl (.cons (.tmp rfl) .nil) rfl rfl rfl
                     · refine JC.condF (.tmp rfl) hc30 ?_
                       refine JC.skip ?_
                       refine JQ.then ?_
                       refine JC.pre (Imp.frz (j := 2) rfl (ImpK.slotH (s := 5) rfl ImpK.refl)) ?_
                       replace hq24 := bnd_inv hq24
                       obtain ⟨v_73, hv_v_73, hq24⟩ := hq24
                       replace hq24 := bnd_inv hq24
                       obtain ⟨v_74, hv_v_74, hq24⟩ := hq24
                       replace hq24 := lt1_inv hq24
                       obtain ⟨v_77, hv_v_77, hq24⟩ := hq24
                       replace hq24 := bnd_inv hq24
                       obtain ⟨v_78, hv_v_78, hq24⟩ := hq24
                       replace hq24 := bnd_inv hq24
                       obtain ⟨x_79, hv_x_79, hq24⟩ := hq24
                       refine JC.anyE (kl := [5]) (kk := 9) (base := [(3, ov (PTR gb_4 0)), (5, ov (HL go_47 r_api_Flight x_45 gc_48)), (7, ov (S (rI .i64) x_46)), (10, ov (S (rI .i64) x_64))])
                           (fs := fun γ => [⟨some 134, ov (HL go_47 r_api_Flight x_45 gc_48)⟩, ⟨some 135, ov (S (rI .i64) x_64)⟩, ⟨some 136, ov (S (rL r_api_Flight) v_73)⟩, ⟨some 137, ov (HDR (deo (γ 3 0)) 0 (List.length v_74) (γ 3 1))⟩, ⟨some 138, ov (HL go_47 r_api_Flight x_45 gc_48)⟩, ⟨some 139, ov (S (rI .i64) x_64)⟩, ⟨some 140, ov (S (rI .i64) v_77)⟩, ⟨some 141, ov (S (rL r_api_Flight) v_78)⟩, ⟨some 142, ov (HDR (deo (γ 8 0)) 0 (List.length x_79) (γ 8 1))⟩, ⟨some 5, ov (HDR (deo (γ 8 0)) 0 (List.length x_79) (γ 8 1))⟩])
                           (rs := fun γ => [⟨cvar gb_4 (rP (rW (MPV go_5)) (rP (rI .i64) (rP (rI .i64) r0))) ((), ((4 : Int), (lost_40, ()))), none, none, []⟩, ⟨cmap go_5 (A r_net_pair) (S (rL (rL (rU UInt8)))) (some (x_52)), none, none, []⟩, ⟨cown go_47 r_api_Flight x_45 (List.length x_45) gc_48, none, none, []⟩, ⟨cown (deo (γ 3 0)) r_api_Flight v_74 0 (γ 3 1), (some 3), (some 8), []⟩, ⟨cown (deo (γ 8 0)) r_api_Flight x_79 0 (γ 8 1), (some 8), none, []⟩])
                           (ds := [134, 135, 136, 137, 138, 139, 140, 141, 142, 5]) (bs := [3, 5, 7, 10]) (afts := [[], [], [], [3, 8, 9], [], [], [], [], [8, 9], []]) (js := [0, 0, 0]) mixed (.cons rfl (.cons rfl (.cons rfl (.cons rfl .nil)))) (fun _ => rfl)
                           (by
      refine dS 1 (fun γ ρ B hb hd => op_move lb (.tmp (hb 5 _ rfl))) ?_
      refine dS 2 (fun γ ρ B hb hd => op_move lb (.tmp (hb 10 _ rfl))) ?_
      refine dS 3 (fun γ ρ B hb hd => op_sliceLg lb tu30 tz36 (HasO.wk (.tmp (hl hd 0 134 rfl)) wkHL) .none (.some (.tmp (hl hd 1 135 rfl))) hv_v_73) ?_
      refine DSteps.cons (j := 4) rfl (fun _ => rfl) (.runX (fun _ _ => rfl) (fun γ ρ B hb hd => ⟨.none, OpX.ghost (γ := Option Nat × Nat) (st' := fun q => setO ⟨ρ, (cown q.1 r_api_Flight v_74 0 q.2) :: B, _⟩ (some 137) (ov (HDR q.1 0 (List.length v_74) q.2))) (fun q c => bif Nat.beq c 0 then eno q.1 else q.2) (OpX.front (op_appendN (r := r_api_Flight) lb tu30 tu30 rfl tB36 rfl (Nat.lt_of_lt_of_le Nat.zero_lt_one (Nat.le_of_ble_eq_true rfl)) (Nat.lt_of_lt_of_le Nat.zero_lt_one (Nat.le_of_ble_eq_true rfl)) HasO.nilH (fun _ _ _ h => Src.list h (.tmp (hl hd 2 136 rfl))) (apL_some hv_v_74))) (fun q => by obtain ⟨q0, q1⟩ := q; cases q0 <;> exact Imp.refl)⟩) (fun _ _ => rfl) (fun _ _ => rfl)) ?_
      refine dS 5 (fun γ ρ B hb hd => op_move lb (.tmp (hb 5 _ rfl))) ?_
      refine dS 6 (fun γ ρ B hb hd => op_move lb (.tmp (hb 10 _ rfl))) ?_
      refine dS 7 (fun γ ρ B hb hd => op_arI lb (.tmp (hl hd 5 139 rfl)) .cI (congrArg some hv_v_77)) ?_
      refine dS 8 (fun γ ρ B hb hd => op_sliceLg lb tu30 tz36 (HasO.wk (.tmp (hl hd 4 138 rfl)) wkHL) (.some (.tmp (hl hd 6 140 rfl))) .none hv_v_78) ?_
      refine DSteps.cons (j := 9) rfl (fun _ => rfl) (.runX (fun _ _ => rfl) (fun γ ρ B hb hd => ⟨.none, OpX.ghost (γ := Option Nat × Nat) (st' := fun q => setO ⟨ρ, (cown q.1 r_api_Flight x_79 0 q.2) :: B, _⟩ (some 142) (ov (HDR q.1 0 (List.length x_79) q.2))) (fun q c => bif Nat.beq c 0 then eno q.1 else q.2) (op_appendL (j := 0) lb tu30 tu30 rfl tB36 rfl (Nat.lt_of_lt_of_le Nat.zero_lt_one (Nat.le_of_ble_eq_true rfl)) (Nat.lt_of_lt_of_le Nat.zero_lt_one (Nat.le_of_ble_eq_true rfl))  rfl (.tmp (hl hd 3 137 rfl)) (.tmp (hl hd 7 141 rfl)) hv_x_79) (fun q => by obtain ⟨q0, q1⟩ := q; cases q0 <;> exact Imp.refl)⟩) (fun _ _ => rfl) (fun _ _ => rfl)) ?_
      refine dS 10 (fun γ ρ B hb hd => op_assign lb (.tmp (hl hd 8 142 rfl))) ?_
      exact DSteps.nil)
                           (by decide +kernel) (fun _ => rfl) rfl (fun _ => rfl) (fun _ => rfl) rfl (by decide) (by decide) (by decide +kernel) (fun _ d h => by simp at h; subst h; exact ⟨_, rfl, rfl⟩)
                           (ρ' := fun γ => [(3, ov (PTR gb_4 0)), (5, ov (HDR (deo (γ 8 0)) 0 (List.length x_79) (γ 8 1))), (7, ov (S (rI .i64) x_46))])
                           (X' := fun γ => [cvar gb_4 (rP (rW (MPV go_5)) (rP (rI .i64) (rP (rI .i64) r0))) ((), ((4 : Int), (lost_40, ()))), cmap go_5 (A r_net_pair) (S (rL (rL (rU UInt8)))) (some (x_52)), cown go_47 r_api_Flight x_45 (List.length x_45) gc_48, cown (deo (γ 8 0)) r_api_Flight x_79 0 (γ 8 1)])
                           (fun γ ρ hb hd => (.cons (hb 3 _ rfl (by decide)) (.cons (hdq hd 9 5 rfl) (.cons (hb 7 _ rfl (by decide)) .nil)))) (fun _ => rfl) (fun γ => ?_)
                       generalize (deo (γ 3 0)) = go_75
                       generalize (γ 3 1) = gc_76
                       generalize (deo (γ 8 0)) = go_80
                       generalize (γ 8 1) = gc_81
                       clear γ
                       refine JQ.at ⟨[(3, ov (PTR gb_4 0)), (5, ov (HDR go_80 0 (List.length x_79) gc_81)), (7, ov (S (rI .i64) x_46))], [cvar gb_4 (rP (rW (MPV go_5)) (rP (rI .i64) (rP (rI .i64) r0))) ((), ((4 : Int), (lost_40, ()))), cmap go_5 (A r_net_pair) (S (rL (rL (rU UInt8)))) (some (x_52)), cown go_47 r_api_Flight x_45 (List.length x_45) gc_48, cown go_80 r_api_Flight x_79 0 gc_81], []⟩ ?_
                       refine JQ.outNB ?_
                       replace hq24 := Option.some.inj hq24
                       first | subst hq24 | clear hq24
                       exact JQ.joinK ((x_52), x_79) (go_80, gc_81) rfl (Imp.norm (js := [0, 0, 1]) rfl (.cons rfl (.cons rfl (.cons rfl .nil))))
                   · replace hx24 := bnd_inv hx24
                     obtain ⟨_, hv_u_65, hx24⟩ := hx24
                     replace hx24 := lt1_inv hx24
                     obtain ⟨v_66, hv_v_66, hx24⟩ := hx24
                     replace hx24 := iteB_inv hx24
                     rcases hx24 with ⟨hc27, hx24⟩ | ⟨hc27, hx24⟩
                     · refine JC.anyE (kl := []) (kk := 0) (base := [(3, ov (PTR gb_4 0)), (5, ov (HDR go_47 0 (List.length x_45) gc_48)), (7, ov (S (rI .i64) x_46)), (9, ov (S (rI .i64) v_51)), (10, ov (S (rI .i64) x_64))])
                           (fs := fun γ => [⟨some 116, ov (S (rI .i64) v_51)⟩, ⟨some 117, ov (S (rI .i64) v_51)⟩, ⟨some 118, ov (S rB v_66)⟩, ⟨some 119, ov (S rB v_66)⟩, ⟨some 120, bif (!v_66) then ov (S (rI .i64) x_64) else .one .und⟩, ⟨some 121, .one .und⟩, ⟨some 122, .one .und⟩, ⟨some 123, .one .und⟩, ⟨some 124, ov (S rB true)⟩, ⟨some 125, ov (S rB true)⟩, ⟨some 126, .one .und⟩, ⟨some 127, .one .und⟩, ⟨some 128, .one .und⟩, ⟨some 129, .one .und⟩, ⟨some 130, .one .und⟩, ⟨some 131, .one .und⟩, ⟨some 132, .one .und⟩, ⟨some 133, ov (S rB true)⟩])
                           (rs := fun γ => [⟨cvar gb_4 (rP (rW (MPV go_5)) (rP (rI .i64) (rP (rI .i64) r0))) ((), ((4 : Int), (lost_40, ()))), none, none, []⟩, ⟨cmap go_5 (A r_net_pair) (S (rL (rL (rU UInt8)))) (some (x_52)), none, none, []⟩, ⟨cown go_47 r_api_Flight x_45 0 gc_48, none, none, []⟩, ⟨cvar gb_53 r_api_Flight v_50, none, none, []⟩])
                           (ds := [116, 117, 118, 119, 120, 121, 122, 123, 124, 125, 126, 127, 128, 129, 130, 131, 132, 133]) (bs := [3, 5, 7, 9, 10]) (afts := [[], [], [], [], [], [], [], [], [], [], [], [], [], [], [], [], [], []]) (js := [0, 0, 0, 0]) mixed (.cons rfl (.cons rfl (.cons rfl (.cons rfl (.cons rfl .nil))))) (fun _ => rfl)
                           (by
      refine dS 1 (fun γ ρ B hb hd => op_move lb (.tmp (hb 9 _ rfl))) ?_
      refine dS 2 (fun γ ρ B hb hd => (op_call (js := []) ld cl12 (sim_law12_num k v_51 () hv_u_65) .func (.cons (.tmp (hl hd 0 116 rfl)) .nil) rfl).post (fun _ => Imp.refl)) ?_
      refine dS 3 (fun γ ρ B hb hd => op_cmpI lb (.tmp (hl hd 1 117 rfl)) .cI (congrArg some hv_v_66)) ?_
      refine dS 4 (fun γ ρ B hb hd => op_move lb (.tmp (hl hd 2 118 rfl))) ?_
      refine dC 5 (!v_66) (fun γ => ov (S (rI .i64) x_64)) (fun γ ρ B hb hd => ⟨(Guard.isF (ltB rfl) rfl (hl hd 3 119 rfl)), fun hq_25 => op_move lb (.tmp (hb 10 _ rfl))⟩) ?_
      refine DSteps.cons (j := 6) rfl (fun _ => rfl) (.skip (fun γ ρ B hb hd => ⟨.no rfl (ltB rfl) (hl hd 3 119 rfl) hc27, rfl, rfl, rfl, fun d h => by cases h; exact ltB rfl⟩)) ?_
      refine DSteps.cons (j := 7) rfl (fun _ => rfl) (.skip (fun γ ρ B hb hd => ⟨.no rfl (ltB rfl) (hl hd 3 119 rfl) hc27, rfl, rfl, rfl, fun d h => by cases h; exact ltB rfl⟩)) ?_
      refine DSteps.cons (j := 8) rfl (fun _ => rfl) (.skip (fun γ ρ B hb hd => ⟨.no rfl (ltB rfl) (hl hd 3 119 rfl) hc27, rfl, rfl, rfl, fun d h => by cases h; exact ltB rfl⟩)) ?_
      refine dS 9 (fun γ ρ B hb hd => op_pickT lb (.tmp (hl hd 3 119 rfl)) hc27 .cB) ?_
      refine dS 10 (fun γ ρ B hb hd => op_move lb (.tmp (hl hd 8 124 rfl))) ?_
      refine DSteps.cons (j := 11) rfl (fun _ => rfl) (.skip (fun γ ρ B hb hd => ⟨.no rfl (ltB rfl) (hl hd 9 125 rfl) rfl, rfl, rfl, rfl, fun d h => by cases h; exact ltB rfl⟩)) ?_
      refine DSteps.cons (j := 12) rfl (fun _ => rfl) (.skip (fun γ ρ B hb hd => ⟨.no rfl (ltB rfl) (hl hd 9 125 rfl) rfl, rfl, rfl, rfl, fun d h => by cases h; exact ltB rfl⟩)) ?_
      refine DSteps.cons (j := 13) rfl (fun _ => rfl) (.skip (fun γ ρ B hb hd => ⟨.no rfl (ltB rfl) (hl hd 9 125 rfl) rfl, rfl, rfl, rfl, fun d h => by cases h; exact ltB rfl⟩)) ?_
      refine DSteps.cons (j := 14) rfl (fun _ => rfl) (.skip (fun γ ρ B hb hd => ⟨.no rfl (ltB rfl) (hl hd 9 125 rfl) rfl, rfl, rfl, rfl, fun d h => by cases h; exact ltB rfl⟩)) ?_
      refine DSteps.cons (j := 15) rfl (fun _ => rfl) (.skip (fun γ ρ B hb hd => ⟨.no rfl (ltB rfl) (hl hd 9 125 rfl) rfl, rfl, rfl, rfl, fun d h => by cases h; exact ltB rfl⟩)) ?_
      refine DSteps.cons (j := 16) rfl (fun _ => rfl) (.skip (fun γ ρ B hb hd => ⟨.no rfl (ltB rfl) (hl hd 9 125 rfl) rfl, rfl, rfl, rfl, fun d h => by cases h; exact ltB rfl⟩)) ?_
      refine DSteps.cons (j := 17) rfl (fun _ => rfl) (.skip (fun γ ρ B hb hd => ⟨.no rfl (ltB rfl) (hl hd 9 125 rfl) rfl, rfl, rfl, rfl, fun d h => by cases h; exact ltB rfl⟩)) ?_
      refine dS 18 (fun γ ρ B hb hd => op_pickT lb (.tmp (hl hd 9 125 rfl)) rfl .cB) ?_
      exact DSteps.nil)
                           (by decide +kernel) (fun _ => rfl) rfl (fun _ => rfl) (fun _ => rfl) rfl (by decide) (by decide) (by decide +kernel) (fun _ d h => by cases h)
                           (ρ' := fun γ => [(3, ov (PTR gb_4 0)), (5, ov (HDR go_47 0 (List.length x_45) gc_48)), (7, ov (S (rI .i64) x_46)), (10, ov (S (rI .i64) x_64)), (133, ov (S rB true))])
                           (X' := fun γ => [cvar gb_4 (rP (rW (MPV go_5)) (rP (rI .i64) (rP (rI .i64) r0))) ((), ((4 : Int), (lost_40, ()))), cmap go_5 (A r_net_pair) (S (rL (rL (rU UInt8)))) (some (x_52)), cown go_47 r_api_Flight x_45 0 gc_48, cvar gb_53 r_api_Flight v_50])
                           (fun γ ρ hb hd => (.cons (hb 3 _ rfl (by decide)) (.cons (hb 5 _ rfl (by decide)) (.cons (hb 7 _ rfl (by decide)) (.cons (hb 10 _ rfl (by decide)) (.cons (hdq hd 17 133 rfl) .nil)))))) (fun _ => rfl) (fun γ => ?_)
                       refine JQ.at ⟨[(3, ov (PTR gb_4 0)), (5, ov (HDR go_47 0 (List.length x_45) gc_48)), (7, ov (S (rI .i64) x_46)), (10, ov (S (rI .i64) x_64)), (133, ov (S rB true))], [cvar gb_4 (rP (rW (MPV go_5)) (rP (rI .i64) (rP (rI .i64) r0))) ((), ((4 : Int), (lost_40, ()))), cmap go_5 (A r_net_pair) (S (rL (rL (rU UInt8)))) (some (x_52)), cown go_47 r_api_Flight x_45 0 gc_48, cvar gb_53 r_api_Flight v_50], []⟩ ?_
                       replace hx24 := Option.some.inj hx24
                       first | subst hx24 | clear hx24
                       exact JQ.join () (Imp.norm (js := [0, 0, 0]) rfl (.cons rfl (.cons rfl (.cons rfl (.cons rfl (.cons rfl .nil))))))
                     · replace hx24 := lt1_inv hx24
                       obtain ⟨v_67, hv_v_67, hx24⟩ := hx24
                       replace hx24 := iteB_inv hx24
                       rcases hx24 with ⟨hc29, hx24⟩ | ⟨hc29, hx24⟩
                       · refine JC.anyE (kl := []) (kk := 0) (base := [(3, ov (PTR gb_4 0)), (5, ov (HDR go_47 0 (List.length x_45) gc_48)), (7, ov (S (rI .i64) x_46)), (9, ov (S (rI .i64) v_51)), (10, ov (S (rI .i64) x_64))])
                             (fs := fun γ => [⟨some 116, ov (S (rI .i64) v_51)⟩, ⟨some 117, ov (S (rI .i64) v_51)⟩, ⟨some 118, ov (S rB v_66)⟩, ⟨some 119, ov (S rB v_66)⟩, ⟨some 120, bif (!v_66) then ov (S (rI .i64) x_64) else .one .und⟩, ⟨some 121, ov (HDR go_47 0 (List.length x_45) gc_48)⟩, ⟨some 122, ov (S (rI .i64) (List.length x_45 : Int))⟩, ⟨some 123, ov (S rB v_67)⟩, ⟨some 124, ov (S rB v_67)⟩, ⟨some 125, ov (S rB v_67)⟩, ⟨some 126, .one .und⟩, ⟨some 127, .one .und⟩, ⟨some 128, .one .und⟩, ⟨some 129, .one .und⟩, ⟨some 130, .one .und⟩, ⟨some 131, .one .und⟩, ⟨some 132, .one .und⟩, ⟨some 133, ov (S rB true)⟩])
                             (rs := fun γ => [⟨cvar gb_4 (rP (rW (MPV go_5)) (rP (rI .i64) (rP (rI .i64) r0))) ((), ((4 : Int), (lost_40, ()))), none, none, []⟩, ⟨cmap go_5 (A r_net_pair) (S (rL (rL (rU UInt8)))) (some (x_52)), none, none, []⟩, ⟨cown go_47 r_api_Flight x_45 0 gc_48, none, none, []⟩, ⟨cvar gb_53 r_api_Flight v_50, none, none, []⟩])
                             (ds := [116, 117, 118, 119, 120, 121, 122, 123, 124, 125, 126, 127, 128, 129, 130, 131, 132, 133]) (bs := [3, 5, 7, 9, 10]) (afts := [[], [], [], [], [], [], [], [], [], [], [], [], [], [], [], [], [], []]) (js := [0, 0, 0, 0]) mixed (.cons rfl (.cons rfl (.cons rfl (.cons rfl (.cons rfl .nil))))) (fun _ => rfl)
                             (by
      refine dS 1 (fun γ ρ B hb hd => op_move lb (.tmp (hb 9 _ rfl))) ?_
      refine dS 2 (fun γ ρ B hb hd => (op_call (js := []) ld cl12 (sim_law12_num k v_51 () hv_u_65) .func (.cons (.tmp (hl hd 0 116 rfl)) .nil) rfl).post (fun _ => Imp.refl)) ?_
      refine dS 3 (fun γ ρ B hb hd => op_cmpI lb (.tmp (hl hd 1 117 rfl)) .cI (congrArg some hv_v_66)) ?_
      refine dS 4 (fun γ ρ B hb hd => op_move lb (.tmp (hl hd 2 118 rfl))) ?_
      refine dC 5 (!v_66) (fun γ => ov (S (rI .i64) x_64)) (fun γ ρ B hb hd => ⟨(Guard.isF (ltB rfl) rfl (hl hd 3 119 rfl)), fun hq_25 => op_move lb (.tmp (hb 10 _ rfl))⟩) ?_
      refine DSteps.cons (j := 6) rfl (fun _ => rfl) (.run (fun γ ρ B hb hd => ⟨.yes rfl (ltB rfl) (hl hd 3 119 rfl) hc27, OpStep.at ⟨ρ, B, _⟩ (setO ⟨ρ, B, _⟩ _ _) (op_move lb (.tmp (hb 5 _ rfl)))⟩)) ?_
      refine DSteps.cons (j := 7) rfl (fun _ => rfl) (.run (fun γ ρ B hb hd => ⟨.yes rfl (ltB rfl) (hl hd 3 119 rfl) hc27, OpStep.at ⟨ρ, B, _⟩ (setO ⟨ρ, B, _⟩ _ _) (op_lenH lb tu30 (.tmp (hl hd 5 121 rfl)))⟩)) ?_
      refine DSteps.cons (j := 8) rfl (fun _ => rfl) (.run (fun γ ρ B hb hd => ⟨.yes rfl (ltB rfl) (hl hd 3 119 rfl) hc27, OpStep.at ⟨ρ, B, _⟩ (setO ⟨ρ, B, _⟩ _ _) (op_cmpI lb (HasO.cnd (.tmp (hl hd 4 120 rfl)) (notT hc27)) (.tmp (hl hd 6 122 rfl)) (congrArg some hv_v_67))⟩)) ?_
      refine dS 9 (fun γ ρ B hb hd => op_pickF lb (.tmp (hl hd 3 119 rfl)) hc27 (.tmp (hl hd 7 123 rfl))) ?_
      refine dS 10 (fun γ ρ B hb hd => op_move lb (.tmp (hl hd 8 124 rfl))) ?_
      refine DSteps.cons (j := 11) rfl (fun _ => rfl) (.skip (fun γ ρ B hb hd => ⟨.no rfl (ltB rfl) (hl hd 9 125 rfl) hc29, rfl, rfl, rfl, fun d h => by cases h; exact ltB rfl⟩)) ?_
      refine DSteps.cons (j := 12) rfl (fun _ => rfl) (.skip (fun γ ρ B hb hd => ⟨.no rfl (ltB rfl) (hl hd 9 125 rfl) hc29, rfl, rfl, rfl, fun d h => by cases h; exact ltB rfl⟩)) ?_
      refine DSteps.cons (j := 13) rfl (fun _ => rfl) (.skip (fun γ ρ B hb hd => ⟨.no rfl (ltB rfl) (hl hd 9 125 rfl) hc29, rfl, rfl, rfl, fun d h => by cases h; exact ltB rfl⟩)) ?_
      refine DSteps.cons (j := 14) rfl (fun _ => rfl) (.skip (fun γ ρ B hb hd => ⟨.no rfl (ltB rfl) (hl hd 9 125 rfl) hc29, rfl, rfl, rfl, fun d h => by cases h; exact ltB rfl⟩)) ?_
      refine DSteps.cons (j := 15) rfl (fun _ => rfl) (.skip (fun γ ρ B hb hd => ⟨.no rfl (ltB rfl) (hl hd 9 125 rfl) hc29, rfl, rfl, rfl, fun d h => by cases h; exact ltB rfl⟩)) ?_
      refine DSteps.cons (j := 16) rfl (fun _ => rfl) (.skip (fun γ ρ B hb hd => ⟨.no rfl (ltB rfl) (hl hd 9 125 rfl) hc29, rfl, rfl, rfl, fun d h => by cases h; exact ltB rfl⟩)) ?_
      refine DSteps.cons (j := 17) rfl (fun _ => rfl) (.skip (fun γ ρ B hb hd => ⟨.no rfl (ltB rfl) (hl hd 9 125 rfl) hc29, rfl, rfl, rfl, fun d h => by cases h; exact ltB rfl⟩)) ?_
      refine dS 18 (fun γ ρ B hb hd => op_pickT lb (.tmp (hl hd 9 125 rfl)) hc29 .cB) ?_
      exact DSteps.nil)
                             (by decide +kernel) (fun _ => rfl) rfl (fun _ => rfl) (fun _ => rfl) rfl (by decide) (by decide) (by decide +kernel) (fun _ d h => by cases h)
                             (ρ' := fun γ => [(3, ov (PTR gb_4 0)), (5, ov (HDR go_47 0 (List.length x_45) gc_48)), (7, ov (S (rI .i64) x_46)), (10, ov (S (rI .i64) x_64)), (133, ov (S rB true))])
                             (X' := fun γ => [cvar gb_4 (rP (rW (MPV go_5)) (rP (rI .i64) (rP (rI .i64) r0))) ((), ((4 : Int), (lost_40, ()))), cmap go_5 (A r_net_pair) (S (rL (rL (rU UInt8)))) (some (x_52)), cown go_47 r_api_Flight x_45 0 gc_48, cvar gb_53 r_api_Flight v_50])
                             (fun γ ρ hb hd => (.cons (hb 3 _ rfl (by decide)) (.cons (hb 5 _ rfl (by decide)) (.cons (hb 7 _ rfl (by decide)) (.cons (hb 10 _ rfl (by decide)) (.cons (hdq hd 17 133 rfl) .nil)))))) (fun _ => rfl) (fun γ => ?_)
                         refine JQ.at ⟨[(3, ov (PTR gb_4 0)), (5, ov (HDR go_47 0 (List.length x_45) gc_48)), (7, ov (S (rI .i64) x_46)), (10, ov (S (rI .i64) x_64)), (133, ov (S rB true))], [cvar gb_4 (rP (rW (MPV go_5)) (rP (rI .i64) (rP (rI .i64) r0))) ((), ((4 : Int), (lost_40, ()))), cmap go_5 (A r_net_pair) (S (rL (rL (rU UInt8)))) (some (x_52)), cown go_47 r_api_Flight x_45 0 gc_48, cvar gb_53 r_api_Flight v_50], []⟩ ?_
                         replace hx24 := Option.some.inj hx24
                         first | subst hx24 | clear hx24
                         exact JQ.join () (Imp.norm (js := [0, 0, 0]) rfl (.cons rfl (.cons rfl (.cons rfl (.cons rfl (.cons rfl .nil))))))
                       · replace hx24 := bnd_inv hx24
                         obtain ⟨i_68, hv_i_68, hx24⟩ := hx24
                         replace hx24 := bnd_inv hx24
                         obtain ⟨v_69, hv_v_69, hx24⟩ := hx24
                         replace hx24 := bnd_inv hx24
                         obtain ⟨v_70, hv_v_70, hx24⟩ := hx24
                         replace hx24 := lt1_inv hx24
                         obtain ⟨v_71, hv_v_71, hx24⟩ := hx24
                         refine JC.anyE (kl := []) (kk := 0) (base := [(3, ov (PTR gb_4 0)), (5, ov (HDR go_47 0 (List.length x_45) gc_48)), (7, ov (S (rI .i64) x_46)), (8, ov (PTR gb_53 0)), (9, ov (S (rI .i64) v_51)), (10, ov (S (rI .i64) x_64))])
                             (fs := fun γ => [⟨some 116, ov (S (rI .i64) v_51)⟩, ⟨some 117, ov (S (rI .i64) v_51)⟩, ⟨some 118, ov (S rB v_66)⟩, ⟨some 119, ov (S rB v_66)⟩, ⟨some 120, bif (!v_66) then ov (S (rI .i64) x_64) else .one .und⟩, ⟨some 121, ov (HDR go_47 0 (List.length x_45) gc_48)⟩, ⟨some 122, ov (S (rI .i64) (List.length x_45 : Int))⟩, ⟨some 123, ov (S rB v_67)⟩, ⟨some 124, ov (S rB v_67)⟩, ⟨some 125, ov (S rB v_67)⟩, ⟨some 126, ov (HDR go_47 0 (List.length x_45) gc_48)⟩, ⟨some 127, ov (S (rI .i64) x_64)⟩, ⟨some 128, ov (EPT go_47 (i_68 * 3))⟩, ⟨some 129, ov (A r_api_Flight v_69)⟩, ⟨some 130, ov (A r_api_Flight v_50)⟩, ⟨some 131, ov (S rB v_70)⟩, ⟨some 132, ov (S rB v_71)⟩, ⟨some 133, ov (S rB v_71)⟩])
                             (rs := fun γ => [⟨cvar gb_4 (rP (rW (MPV go_5)) (rP (rI .i64) (rP (rI .i64) r0))) ((), ((4 : Int), (lost_40, ()))), none, none, []⟩, ⟨cmap go_5 (A r_net_pair) (S (rL (rL (rU UInt8)))) (some (x_52)), none, none, []⟩, ⟨cown go_47 r_api_Flight x_45 0 gc_48, none, none, [12, 13]⟩, ⟨cvar gb_53 r_api_Flight v_50, none, none, [14]⟩])
                             (ds := [116, 117, 118, 119, 120, 121, 122, 123, 124, 125, 126, 127, 128, 129, 130, 131, 132, 133]) (bs := [3, 5, 7, 8, 9, 10]) (afts := [[], [], [], [], [], [], [], [], [], [], [], [], [], [], [], [], [], []]) (js := [0, 0, 0, 0]) mixed (.cons rfl (.cons rfl (.cons rfl (.cons rfl (.cons rfl (.cons rfl .nil)))))) (fun _ => rfl)
                             (by
      refine dS 1 (fun γ ρ B hb hd => op_move lb (.tmp (hb 9 _ rfl))) ?_
      refine dS 2 (fun γ ρ B hb hd => (op_call (js := []) ld cl12 (sim_law12_num k v_51 () hv_u_65) .func (.cons (.tmp (hl hd 0 116 rfl)) .nil) rfl).post (fun _ => Imp.refl)) ?_
      refine dS 3 (fun γ ρ B hb hd => op_cmpI lb (.tmp (hl hd 1 117 rfl)) .cI (congrArg some hv_v_66)) ?_
      refine dS 4 (fun γ ρ B hb hd => op_move lb (.tmp (hl hd 2 118 rfl))) ?_
      refine dC 5 (!v_66) (fun γ => ov (S (rI .i64) x_64)) (fun γ ρ B hb hd => ⟨(Guard.isF (ltB rfl) rfl (hl hd 3 119 rfl)), fun hq_25 => op_move lb (.tmp (hb 10 _ rfl))⟩) ?_
      refine DSteps.cons (j := 6) rfl (fun _ => rfl) (.run (fun γ ρ B hb hd => ⟨.yes rfl (ltB rfl) (hl hd 3 119 rfl) hc27, OpStep.at ⟨ρ, B, _⟩ (setO ⟨ρ, B, _⟩ _ _) (op_move lb (.tmp (hb 5 _ rfl)))⟩)) ?_
      refine DSteps.cons (j := 7) rfl (fun _ => rfl) (.run (fun γ ρ B hb hd => ⟨.yes rfl (ltB rfl) (hl hd 3 119 rfl) hc27, OpStep.at ⟨ρ, B, _⟩ (setO ⟨ρ, B, _⟩ _ _) (op_lenH lb tu30 (.tmp (hl hd 5 121 rfl)))⟩)) ?_
      refine DSteps.cons (j := 8) rfl (fun _ => rfl) (.run (fun γ ρ B hb hd => ⟨.yes rfl (ltB rfl) (hl hd 3 119 rfl) hc27, OpStep.at ⟨ρ, B, _⟩ (setO ⟨ρ, B, _⟩ _ _) (op_cmpI lb (HasO.cnd (.tmp (hl hd 4 120 rfl)) (notT hc27)) (.tmp (hl hd 6 122 rfl)) (congrArg some hv_v_67))⟩)) ?_
      refine dS 9 (fun γ ρ B hb hd => op_pickF lb (.tmp (hl hd 3 119 rfl)) hc27 (.tmp (hl hd 7 123 rfl))) ?_
      refine dS 10 (fun γ ρ B hb hd => op_move lb (.tmp (hl hd 8 124 rfl))) ?_
      refine DSteps.cons (j := 11) rfl (fun _ => rfl) (.run (fun γ ρ B hb hd => ⟨.yes rfl (ltB rfl) (hl hd 9 125 rfl) hc29, OpStep.at ⟨ρ, B, _⟩ (setO ⟨ρ, B, _⟩ _ _) (op_move lb (.tmp (hb 5 _ rfl)))⟩)) ?_
      refine DSteps.cons (j := 12) rfl (fun _ => rfl) (.run (fun γ ρ B hb hd => ⟨.yes rfl (ltB rfl) (hl hd 9 125 rfl) hc29, OpStep.at ⟨ρ, B, _⟩ (setO ⟨ρ, B, _⟩ _ _) (op_move lb (.tmp (hb 10 _ rfl)))⟩)) ?_
      refine DSteps.cons (j := 13) rfl (fun _ => rfl) (.run (fun γ ρ B hb hd => ⟨.yes rfl (ltB rfl) (hl hd 9 125 rfl) hc29, OpStep.at ⟨ρ, (cown go_47 r_api_Flight x_45 0 gc_48) :: B, _⟩ (setO ⟨ρ, (cown go_47 r_api_Flight x_45 0 gc_48) :: B, _⟩ _ _) (op_indexAddrOF (r := r_api_Flight) (j := 0) lb tu30 tz36 rfl (.tmp (hl hd 10 126 rfl)) (.tmp (hl hd 11 127 rfl)) hv_i_68)⟩)) ?_
      refine DSteps.cons (j := 14) rfl (fun _ => rfl) (.run (fun γ ρ B hb hd => ⟨.yes rfl (ltB rfl) (hl hd 9 125 rfl) hc29, OpStep.at ⟨ρ, (cown go_47 r_api_Flight x_45 0 gc_48) :: B, _⟩ (setO ⟨ρ, (cown go_47 r_api_Flight x_45 0 gc_48) :: B, _⟩ _ _) (op_loadOA (r := r_api_Flight) (i := i_68) (off := 0) (j := 0) lb tA36 rfl (.tmp (hl hd 12 128 rfl)) hv_v_69 (Comp.self r_api_Flight v_69) (by decide))⟩)) ?_
      refine DSteps.cons (j := 15) rfl (fun _ => rfl) (.run (fun γ ρ B hb hd => ⟨.yes rfl (ltB rfl) (hl hd 9 125 rfl) hc29, OpStep.at ⟨ρ, (cvar gb_53 r_api_Flight v_50) :: B, _⟩ (setO ⟨ρ, (cvar gb_53 r_api_Flight v_50) :: B, _⟩ _ _) (op_loadA (j := 0) lb tA36 (.tmp (hb 8 _ rfl)) rfl (Comp.self r_api_Flight v_50) rfl)⟩)) ?_
      refine DSteps.cons (j := 16) rfl (fun _ => rfl) (.run (fun γ ρ B hb hd => ⟨.yes rfl (ltB rfl) (hl hd 9 125 rfl) hc29, OpStep.at ⟨ρ, B, _⟩ (setO ⟨ρ, B, _⟩ _ _) ((op_call (js := []) ld cl17 (sim_ref12_Same k v_69 v_50 v_70 hv_v_70) .func (.cons (.tmp (hl hd 13 129 rfl)) (.cons (.tmp (hl hd 14 130 rfl)) .nil)) rfl).post (fun _ => Imp.refl))⟩)) ?_
      refine DSteps.cons (j := 17) rfl (fun _ => rfl) (.run (fun γ ρ B hb hd => ⟨.yes rfl (ltB rfl) (hl hd 9 125 rfl) hc29, OpStep.at ⟨ρ, B, _⟩ (setO ⟨ρ, B, _⟩ _ _) (op_not lb (.tmp (hl hd 15 131 rfl)) hv_v_71)⟩)) ?_
      refine dS 18 (fun γ ρ B hb hd => op_pickF lb (.tmp (hl hd 9 125 rfl)) hc29 (.tmp (hl hd 16 132 rfl))) ?_
      exact DSteps.nil)
                             (by decide +kernel) (fun _ => rfl) rfl (fun _ => rfl) (fun _ => rfl) rfl (by decide) (by decide) (by decide +kernel) (fun _ d h => by cases h)
                             (ρ' := fun γ => [(3, ov (PTR gb_4 0)), (5, ov (HDR go_47 0 (List.length x_45) gc_48)), (7, ov (S (rI .i64) x_46)), (10, ov (S (rI .i64) x_64)), (133, ov (S rB v_71))])
                             (X' := fun γ => [cvar gb_4 (rP (rW (MPV go_5)) (rP (rI .i64) (rP (rI .i64) r0))) ((), ((4 : Int), (lost_40, ()))), cmap go_5 (A r_net_pair) (S (rL (rL (rU UInt8)))) (some (x_52)), cown go_47 r_api_Flight x_45 0 gc_48, cvar gb_53 r_api_Flight v_50])
                             (fun γ ρ hb hd => (.cons (hb 3 _ rfl (by decide)) (.cons (hb 5 _ rfl (by decide)) (.cons (hb 7 _ rfl (by decide)) (.cons (hb 10 _ rfl (by decide)) (.cons (hdq hd 17 133 rfl) .nil)))))) (fun _ => rfl) (fun γ => ?_)
                         refine JQ.at ⟨[(3, ov (PTR gb_4 0)), (5, ov (HDR go_47 0 (List.length x_45) gc_48)), (7, ov (S (rI .i64) x_46)), (10, ov (S (rI .i64) x_64)), (133, ov (S rB v_71))], [cvar gb_4 (rP (rW (MPV go_5)) (rP (rI .i64) (rP (rI .i64) r0))) ((), ((4 : Int), (lost_40, ()))), cmap go_5 (A r_net_pair) (S (rL (rL (rU UInt8)))) (some (x_52)), cown go_47 r_api_Flight x_45 0 gc_48, cvar gb_53 r_api_Flight v_50], []⟩ ?_
                         replace hx24 := Option.some.inj hx24
                         first | subst hx24 | clear hx24
                         exact JQ.join () (Imp.norm (js := [0, 0, 0]) rfl (.cons rfl (.cons rfl (.cons rfl (.cons rfl (.cons rfl .nil))))))
                 · refine JC.block ?_
                   refine JC.pre ?_ (JC.loop (γ := Unit) (stf := fun s q => ⟨[(3, ov (PTR gb_4 0)), (5, ov (HDR go_47 0 (List.length x_45) gc_48)), (7, ov (S (rI .i64) x_46)), (8, ov (PTR gb_53 0)), (9, ov (S (rI .i64) v_51)), (10, ov (S (rI .i64) s))], [cvar gb_4 (rP (rW (MPV go_5)) (rP (rI .i64) (rP (rI .i64) r0))) ((), ((4 : Int), (lost_40, ()))), cmap go_5 (A r_net_pair) (S (rL (rL (rU UInt8)))) (some (x_52)), cown go_47 r_api_Flight x_45 0 gc_48, cvar gb_53 r_api_Flight v_50], []⟩) (q := ()) hx16 ?_)
                   · exact (Imp.norm (js := [0, 0, 0, 0]) rfl (.cons rfl (.cons rfl (.cons rfl (.cons rfl (.cons rfl (.cons rfl .nil)))))))
                   · intro x_54 q x hx hr
                     obtain _ := q
                     change law12_NetOrder.b3 k x_45 v_50 x_54 = some x at hx
                     unfold law12_NetOrder.b3 at hx
                     refine JC.at ⟨[(3, ov (PTR gb_4 0)), (5, ov (HDR go_47 0 (List.length x_45) gc_48)), (7, ov (S (rI .i64) x_46)), (8, ov (PTR gb_53 0)), (9, ov (S (rI .i64) v_51)), (10, ov (S (rI .i64) x_54))], [cvar gb_4 (rP (rW (MPV go_5)) (rP (rI .i64) (rP (rI .i64) r0))) ((), ((4 : Int), (lost_40, ()))), cmap go_5 (A r_net_pair) (S (rL (rL (rU UInt8)))) (some (x_52)), cown go_47 r_api_Flight x_45 0 gc_48, cvar gb_53 r_api_Flight v_50], []⟩ ?_
                     refine JC.seq ?_
                     replace hx := bnd_inv hx
                     obtain ⟨x_62, hx18, hq18⟩ := hx
                     refine JC.seqJ (γ := Unit) (stj := fun q => ⟨[(3, ov (PTR gb_4 0)), (5, ov (HDR go_47 0 (List.length x_45) gc_48)), (7, ov (S (rI .i64) x_46)), (8, ov (PTR gb_53 0)), (9, ov (S (rI .i64) v_51)), (10, ov (S (rI .i64) x_54)), (113, ov (S rB x_62))], [cvar gb_4 (rP (rW (MPV go_5)) (rP (rI .i64) (rP (rI .i64) r0))) ((), ((4 : Int), (lost_40, ()))), cmap go_5 (A r_net_pair) (S (rL (rL (rU UInt8)))) (some (x_52)), cown go_47 r_api_Flight x_45 0 gc_48, cvar gb_53 r_api_Flight v_50], []⟩) (fun q => ?_) ?_
                     · obtain _ := q
                       refine JC.at ⟨[(3, ov (PTR gb_4 0)), (5, ov (HDR go_47 0 (List.length x_45) gc_48)), (7, ov (S (rI .i64) x_46)), (8, ov (PTR gb_53 0)), (9, ov (S (rI .i64) v_51)), (10, ov (S (rI .i64) x_54)), (113, ov (S rB x_62))], [cvar gb_4 (rP (rW (MPV go_5)) (rP (rI .i64) (rP (rI .i64) r0))) ((), ((4 : Int), (lost_40, ()))), cmap go_5 (A r_net_pair) (S (rL (rL (rU UInt8)))) (some (x_52)), cown go_47 r_api_Flight x_45 0 gc_48, cvar gb_53 r_api_Flight v_50], []⟩ ?_
                       replace hq18 := iteB_inv hq18
                       rcases hq18 with ⟨hc23, hq18⟩ | ⟨hc23, hq18⟩
                       · refine JC.condT (.tmp rfl) hc23 ?_
                         refine JC.skip ?_
                         refine JQ.then ?_
                         refine JC.block ?_
                         refine JC.region ?_
                         refine jc (op_move lb (.tmp rfl)) ?_
                         replace hq18 := lt1_inv hq18
                         obtain ⟨v_63, hv_v_63, hq18⟩ := hq18
                         refine jc (op_arI lb (.tmp rfl) .cI (congrArg some hv_v_63)) ?_
                         refine jc (op_assign lb (.tmp rfl)) ?_
                         refine JL.nil ?_
                         refine JQ.outNB ?_
                         replace hq18 := Option.some.inj hq18
                         first | subst hq18 | clear hq18
                         exact JQ.next () rfl (Imp.norm (js := [0, 0, 0, 0]) rfl (.cons rfl (.cons rfl (.cons rfl (.cons rfl (.cons rfl (.cons rfl .nil)))))))
                       · refine JC.condF (.tmp rfl) hc23 ?_
                         refine JC.exit ?_
                         refine JQ.outX ?_
                         replace hq18 := Option.some.inj hq18
                         first | subst hq18 | clear hq18
                         have ht := hr _ rfl
                         have hq17 := congrArg some ht
                         clear hr ht
                         refine JQ.outX ?_
                         refine JQ.here ?_
                         replace hq17 := Option.some.inj hq17
                         first | subst hq17 | clear hq17
                         exact JQ.join () (Imp.norm (js := [0, 0, 0, 0]) rfl (.cons rfl (.cons rfl (.cons rfl (.cons rfl (.cons rfl (.cons rfl .nil)))))))
                     · replace hx18 := lt1_inv hx18
                       obtain ⟨v_55, hv_v_55, hx18⟩ := hx18
                       replace hx18 := iteB_inv hx18
                       rcases hx18 with ⟨hc20, hx18⟩ | ⟨hc20, hx18⟩
                       · replace hx18 := bnd_inv hx18
                         obtain ⟨i_56, hv_i_56, hx18⟩ := hx18
                         replace hx18 := bnd_inv hx18
                         obtain ⟨u_57, hv_u_57, hx18⟩ := hx18
                         replace hx18 := lt1_inv hx18
                         obtain ⟨v_58, hv_v_58, hx18⟩ := hx18
                         replace hx18 := iteB_inv hx18
                         rcases hx18 with ⟨hc22, hx18⟩ | ⟨hc22, hx18⟩
                         · refine JC.anyE (kl := []) (kk := 0) (base := [(3, ov (PTR gb_4 0)), (5, ov (HDR go_47 0 (List.length x_45) gc_48)), (7, ov (S (rI .i64) x_46)), (8, ov (PTR gb_53 0)), (9, ov (S (rI .i64) v_51)), (10, ov (S (rI .i64) x_54))])
                               (fs := fun γ => [⟨some 90, ov (S (rI .i64) x_54)⟩, ⟨some 91, ov (HDR go_47 0 (List.length x_45) gc_48)⟩, ⟨some 92, ov (S (rI .i64) (List.length x_45 : Int))⟩, ⟨some 93, ov (S rB v_55)⟩, ⟨some 94, ov (S rB v_55)⟩, ⟨some 95, ov (HDR go_47 0 (List.length x_45) gc_48)⟩, ⟨some 96, ov (S (rI .i64) x_54)⟩, ⟨some 97, ov (EPT go_47 (i_56 * 3))⟩, ⟨some 98, ov (EPT go_47 ((i_56 * 3) + 0))⟩, ⟨some 99, ov (S (rI .i64) u_57.From)⟩, ⟨some 100, ov (PTR gb_53 (0 + 0))⟩, ⟨some 101, ov (S (rI .i64) v_50.From)⟩, ⟨some 102, ov (S rB v_58)⟩, ⟨some 103, ov (S rB v_58)⟩, ⟨some 104, .one .und⟩, ⟨some 105, .one .und⟩, ⟨some 106, .one .und⟩, ⟨some 107, .one .und⟩, ⟨some 108, .one .und⟩, ⟨some 109, .one .und⟩, ⟨some 110, .one .und⟩, ⟨some 111, .one .und⟩, ⟨some 112, ov (S rB true)⟩, ⟨some 113, ov (S rB true)⟩])
                               (rs := fun γ => [⟨cvar gb_4 (rP (rW (MPV go_5)) (rP (rI .i64) (rP (rI .i64) r0))) ((), ((4 : Int), (lost_40, ()))), none, none, []⟩, ⟨cmap go_5 (A r_net_pair) (S (rL (rL (rU UInt8)))) (some (x_52)), none, none, []⟩, ⟨cown go_47 r_api_Flight x_45 0 gc_48, none, none, [7, 9]⟩, ⟨cvar gb_53 r_api_Flight v_50, none, none, [11]⟩])
                               (ds := [90, 91, 92, 93, 94, 95, 96, 97, 98, 99, 100, 101, 102, 103, 104, 105, 106, 107, 108, 109, 110, 111, 112, 113]) (bs := [3, 5, 7, 8, 9, 10]) (afts := [[], [], [], [], [], [], [], [], [], [], [], [], [], [], [], [], [], [], [], [], [], [], [], []]) (js := [0, 0, 0, 0]) mixed (.cons rfl (.cons rfl (.cons rfl (.cons rfl (.cons rfl (.cons rfl .nil)))))) (fun _ => rfl)
                               (by
      refine dS 1 (fun γ ρ B hb hd => op_move lb (.tmp (hb 10 _ rfl))) ?_
      refine dS 2 (fun γ ρ B hb hd => op_move lb (.tmp (hb 5 _ rfl))) ?_
      refine dS 3 (fun γ ρ B hb hd => op_lenH lb tu30 (.tmp (hl hd 1 91 rfl))) ?_
      refine dS 4 (fun γ ρ B hb hd => op_cmpI lb (.tmp (hl hd 0 90 rfl)) (.tmp (hl hd 2 92 rfl)) (congrArg some hv_v_55)) ?_
      refine dS 5 (fun γ ρ B hb hd => op_move lb (.tmp (hl hd 3 93 rfl))) ?_
      refine DSteps.cons (j := 6) rfl (fun _ => rfl) (.run (fun γ ρ B hb hd => ⟨.yes rfl (ltB rfl) (hl hd 4 94 rfl) hc20, OpStep.at ⟨ρ, B, _⟩ (setO ⟨ρ, B, _⟩ _ _) (op_move lb (.tmp (hb 5 _ rfl)))⟩)) ?_
      refine DSteps.cons (j := 7) rfl (fun _ => rfl) (.run (fun γ ρ B hb hd => ⟨.yes rfl (ltB rfl) (hl hd 4 94 rfl) hc20, OpStep.at ⟨ρ, B, _⟩ (setO ⟨ρ, B, _⟩ _ _) (op_move lb (.tmp (hb 10 _ rfl)))⟩)) ?_
      refine DSteps.cons (j := 8) rfl (fun _ => rfl) (.run (fun γ ρ B hb hd => ⟨.yes rfl (ltB rfl) (hl hd 4 94 rfl) hc20, OpStep.at ⟨ρ, (cown go_47 r_api_Flight x_45 0 gc_48) :: B, _⟩ (setO ⟨ρ, (cown go_47 r_api_Flight x_45 0 gc_48) :: B, _⟩ _ _) (op_indexAddrOF (r := r_api_Flight) (j := 0) lb tu30 tz36 rfl (.tmp (hl hd 5 95 rfl)) (.tmp (hl hd 6 96 rfl)) hv_i_56)⟩)) ?_
      refine DSteps.cons (j := 9) rfl (fun _ => rfl) (.run (fun γ ρ B hb hd => ⟨.yes rfl (ltB rfl) (hl hd 4 94 rfl) hc20, OpStep.at ⟨ρ, B, _⟩ (setO ⟨ρ, B, _⟩ _ _) (op_fieldAddrE (off := 0) lb tf36_0 (.tmp (hl hd 7 97 rfl)))⟩)) ?_
      refine DSteps.cons (j := 10) rfl (fun _ => rfl) (.run (fun γ ρ B hb hd => ⟨.yes rfl (ltB rfl) (hl hd 4 94 rfl) hc20, OpStep.at ⟨ρ, (cown go_47 r_api_Flight x_45 0 gc_48) :: B, _⟩ (setO ⟨ρ, (cown go_47 r_api_Flight x_45 0 gc_48) :: B, _⟩ _ _) (op_loadOS (r := r_api_Flight) (i := i_56) (off := 0) (j := 0) lb tS3 rfl rfl (.tmp (hl hd 8 98 rfl)) hv_u_57 (Comp.at' (Comp.trans (Comp.self r_api_Flight u_57) (comp_api_Flight_From u_57) (Nat.le_of_ble_eq_true rfl)) rfl) (by decide))⟩)) ?_
      refine DSteps.cons (j := 11) rfl (fun _ => rfl) (.run (fun γ ρ B hb hd => ⟨.yes rfl (ltB rfl) (hl hd 4 94 rfl) hc20, OpStep.at ⟨ρ, B, _⟩ (setO ⟨ρ, B, _⟩ _ _) (op_fieldAddr (off := 0) lb tf36_0 (.tmp (hb 8 _ rfl)))⟩)) ?_
      refine DSteps.cons (j := 12) rfl (fun _ => rfl) (.run (fun γ ρ B hb hd => ⟨.yes rfl (ltB rfl) (hl hd 4 94 rfl) hc20, OpStep.at ⟨ρ, (cvar gb_53 r_api_Flight v_50) :: B, _⟩ (setO ⟨ρ, (cvar gb_53 r_api_Flight v_50) :: B, _⟩ _ _) (op_loadS (j := 0) lb tS3 (.tmp (hl hd 10 100 rfl)) rfl (Comp.trans (Comp.self r_api_Flight v_50) (comp_api_Flight_From v_50) (Nat.le_of_ble_eq_true rfl)) rfl rfl)⟩)) ?_
      refine DSteps.cons (j := 13) rfl (fun _ => rfl) (.run (fun γ ρ B hb hd => ⟨.yes rfl (ltB rfl) (hl hd 4 94 rfl) hc20, OpStep.at ⟨ρ, B, _⟩ (setO ⟨ρ, B, _⟩ _ _) (op_cmpI lb (.tmp (hl hd 9 99 rfl)) (.tmp (hl hd 11 101 rfl)) (congrArg some hv_v_58))⟩)) ?_
      refine DSteps.cons (j := 14) rfl (fun _ => rfl) (.run (fun γ ρ B hb hd => ⟨.yes rfl (ltB rfl) (hl hd 4 94 rfl) hc20, OpStep.at ⟨ρ, B, _⟩ (setO ⟨ρ, B, _⟩ _ _) (op_move lb (.tmp (hl hd 12 102 rfl)))⟩)) ?_
      refine DSteps.cons (j := 15) rfl (fun _ => rfl) (.skip (fun γ ρ B hb hd => ⟨.no rfl (ltB rfl) (hl hd 13 103 rfl) hc22, rfl, rfl, rfl, fun d h => by cases h; exact ltB rfl⟩)) ?_
      refine DSteps.cons (j := 16) rfl (fun _ => rfl) (.skip (fun γ ρ B hb hd => ⟨.no rfl (ltB rfl) (hl hd 13 103 rfl) hc22, rfl, rfl, rfl, fun d h => by cases h; exact ltB rfl⟩)) ?_
      refine DSteps.cons (j := 17) rfl (fun _ => rfl) (.skip (fun γ ρ B hb hd => ⟨.no rfl (ltB rfl) (hl hd 13 103 rfl) hc22, rfl, rfl, rfl, fun d h => by cases h; exact ltB rfl⟩)) ?_
      refine DSteps.cons (j := 18) rfl (fun _ => rfl) (.skip (fun γ ρ B hb hd => ⟨.no rfl (ltB rfl) (hl hd 13 103 rfl) hc22, rfl, rfl, rfl, fun d h => by cases h; exact ltB rfl⟩)) ?_
      refine DSteps.cons (j := 19) rfl (fun _ => rfl) (.skip (fun γ ρ B hb hd => ⟨.no rfl (ltB rfl) (hl hd 13 103 rfl) hc22, rfl, rfl, rfl, fun d h => by cases h; exact ltB rfl⟩)) ?_
      refine DSteps.cons (j := 20) rfl (fun _ => rfl) (.skip (fun γ ρ B hb hd => ⟨.no rfl (ltB rfl) (hl hd 13 103 rfl) hc22, rfl, rfl, rfl, fun d h => by cases h; exact ltB rfl⟩)) ?_
      refine DSteps.cons (j := 21) rfl (fun _ => rfl) (.skip (fun γ ρ B hb hd => ⟨.no rfl (ltB rfl) (hl hd 13 103 rfl) hc22, rfl, rfl, rfl, fun d h => by cases h; exact ltB rfl⟩)) ?_
      refine DSteps.cons (j := 22) rfl (fun _ => rfl) (.skip (fun γ ρ B hb hd => ⟨.no rfl (ltB rfl) (hl hd 13 103 rfl) hc22, rfl, rfl, rfl, fun d h => by cases h; exact ltB rfl⟩)) ?_
      refine DSteps.cons (j := 23) rfl (fun _ => rfl) (.run (fun γ ρ B hb hd => ⟨.yes rfl (ltB rfl) (hl hd 4 94 rfl) hc20, OpStep.at ⟨ρ, B, _⟩ (setO ⟨ρ, B, _⟩ _ _) (op_pickT lb (.tmp (hl hd 13 103 rfl)) hc22 .cB)⟩)) ?_
      refine dS 24 (fun γ ρ B hb hd => op_pickT lb (.tmp (hl hd 4 94 rfl)) hc20 (.tmp (hl hd 22 112 rfl))) ?_
      exact DSteps.nil)
                               (by decide +kernel) (fun _ => rfl) rfl (fun _ => rfl) (fun _ => rfl) rfl (by decide) (by decide) (by decide +kernel) (fun _ d h => by cases h)
                               (ρ' := fun γ => [(3, ov (PTR gb_4 0)), (5, ov (HDR go_47 0 (List.length x_45) gc_48)), (7, ov (S (rI .i64) x_46)), (8, ov (PTR gb_53 0)), (9, ov (S (rI .i64) v_51)), (10, ov (S (rI .i64) x_54)), (113, ov (S rB true))])
                               (X' := fun γ => [cvar gb_4 (rP (rW (MPV go_5)) (rP (rI .i64) (rP (rI .i64) r0))) ((), ((4 : Int), (lost_40, ()))), cmap go_5 (A r_net_pair) (S (rL (rL (rU UInt8)))) (some (x_52)), cown go_47 r_api_Flight x_45 0 gc_48, cvar gb_53 r_api_Flight v_50])
                               (fun γ ρ hb hd => (.cons (hb 3 _ rfl (by decide)) (.cons (hb 5 _ rfl (by decide)) (.cons (hb 7 _ rfl (by decide)) (.cons (hb 8 _ rfl (by decide)) (.cons (hb 9 _ rfl (by decide)) (.cons (hb 10 _ rfl (by decide)) (.cons (hdq hd 23 113 rfl) .nil)))))))) (fun _ => rfl) (fun γ => ?_)
                           refine JQ.at ⟨[(3, ov (PTR gb_4 0)), (5, ov (HDR go_47 0 (List.length x_45) gc_48)), (7, ov (S (rI .i64) x_46)), (8, ov (PTR gb_53 0)), (9, ov (S (rI .i64) v_51)), (10, ov (S (rI .i64) x_54)), (113, ov (S rB true))], [cvar gb_4 (rP (rW (MPV go_5)) (rP (rI .i64) (rP (rI .i64) r0))) ((), ((4 : Int), (lost_40, ()))), cmap go_5 (A r_net_pair) (S (rL (rL (rU UInt8)))) (some (x_52)), cown go_47 r_api_Flight x_45 0 gc_48, cvar gb_53 r_api_Flight v_50], []⟩ ?_
                           replace hx18 := Option.some.inj hx18
                           first | subst hx18 | clear hx18
                           exact JQ.join () (Imp.norm (js := [0, 0, 0, 0]) rfl (.cons rfl (.cons rfl (.cons rfl (.cons rfl (.cons rfl (.cons rfl (.cons rfl .nil))))))))
                         · replace hx18 := bnd_inv hx18
                           obtain ⟨i_59, hv_i_59, hx18⟩ := hx18
                           replace hx18 := bnd_inv hx18
                           obtain ⟨u_60, hv_u_60, hx18⟩ := hx18
                           replace hx18 := lt1_inv hx18
                           obtain ⟨v_61, hv_v_61, hx18⟩ := hx18
                           refine JC.anyE (kl := []) (kk := 0) (base := [(3, ov (PTR gb_4 0)), (5, ov (HDR go_47 0 (List.length x_45) gc_48)), (7, ov (S (rI .i64) x_46)), (8, ov (PTR gb_53 0)), (9, ov (S (rI .i64) v_51)), (10, ov (S (rI .i64) x_54))])
                               (fs := fun γ => [⟨some 90, ov (S (rI .i64) x_54)⟩, ⟨some 91, ov (HDR go_47 0 (List.length x_45) gc_48)⟩, ⟨some 92, ov (S (rI .i64) (List.length x_45 : Int))⟩, ⟨some 93, ov (S rB v_55)⟩, ⟨some 94, ov (S rB v_55)⟩, ⟨some 95, ov (HDR go_47 0 (List.length x_45) gc_48)⟩, ⟨some 96, ov (S (rI .i64) x_54)⟩, ⟨some 97, ov (EPT go_47 (i_56 * 3))⟩, ⟨some 98, ov (EPT go_47 ((i_56 * 3) + 0))⟩, ⟨some 99, ov (S (rI .i64) u_57.From)⟩, ⟨some 100, ov (PTR gb_53 (0 + 0))⟩, ⟨some 101, ov (S (rI .i64) v_50.From)⟩, ⟨some 102, ov (S rB v_58)⟩, ⟨some 103, ov (S rB v_58)⟩, ⟨some 104, ov (HDR go_47 0 (List.length x_45) gc_48)⟩, ⟨some 105, ov (S (rI .i64) x_54)⟩, ⟨some 106, ov (EPT go_47 (i_59 * 3))⟩, ⟨some 107, ov (EPT go_47 ((i_59 * 3) + 1))⟩, ⟨some 108, ov (S (rI .i64) u_60.To)⟩, ⟨some 109, ov (PTR gb_53 (0 + 1))⟩, ⟨some 110, ov (S (rI .i64) v_50.To)⟩, ⟨some 111, ov (S rB v_61)⟩, ⟨some 112, ov (S rB v_61)⟩, ⟨some 113, ov (S rB v_61)⟩])
                               (rs := fun γ => [⟨cvar gb_4 (rP (rW (MPV go_5)) (rP (rI .i64) (rP (rI .i64) r0))) ((), ((4 : Int), (lost_40, ()))), none, none, []⟩, ⟨cmap go_5 (A r_net_pair) (S (rL (rL (rU UInt8)))) (some (x_52)), none, none, []⟩, ⟨cown go_47 r_api_Flight x_45 0 gc_48, none, none, [7, 9, 16, 18]⟩, ⟨cvar gb_53 r_api_Flight v_50, none, none, [11, 20]⟩])
                               (ds := [90, 91, 92, 93, 94, 95, 96, 97, 98, 99, 100, 101, 102, 103, 104, 105, 106, 107, 108, 109, 110, 111, 112, 113]) (bs := [3, 5, 7, 8, 9, 10]) (afts := [[], [], [], [], [], [], [], [], [], [], [], [], [], [], [], [], [], [], [], [], [], [], [], []]) (js := [0, 0, 0, 0]) mixed (.cons rfl (.cons rfl (.cons rfl (.cons rfl (.cons rfl (.cons rfl .nil)))))) (fun _ => rfl)
                               (by
      refine dS 1 (fun γ ρ B hb hd => op_move lb (.tmp (hb 10 _ rfl))) ?_
      refine dS 2 (fun γ ρ B hb hd => op_move lb (.tmp (hb 5 _ rfl))) ?_
      refine dS 3 (fun γ ρ B hb hd => op_lenH lb tu30 (.tmp (hl hd 1 91 rfl))) ?_
      refine dS 4 (fun γ ρ B hb hd => op_cmpI lb (.tmp (hl hd 0 90 rfl)) (.tmp (hl hd 2 92 rfl)) (congrArg some hv_v_55)) ?_
      refine dS 5 (fun γ ρ B hb hd => op_move lb (.tmp (hl hd 3 93 rfl))) ?_
      refine DSteps.cons (j := 6) rfl (fun _ => rfl) (.run (fun γ ρ B hb hd => ⟨.yes rfl (ltB rfl) (hl hd 4 94 rfl) hc20, OpStep.at ⟨ρ, B, _⟩ (setO ⟨ρ, B, _⟩ _ _) (op_move lb (.tmp (hb 5 _ rfl)))⟩)) ?_
      refine DSteps.cons (j := 7) rfl (fun _ => rfl) (.run (fun γ ρ B hb hd => ⟨.yes rfl (ltB rfl) (hl hd 4 94 rfl) hc20, OpStep.at ⟨ρ, B, _⟩ (setO ⟨ρ, B, _⟩ _ _) (op_move lb (.tmp (hb 10 _ rfl)))⟩)) ?_
      refine DSteps.cons (j := 8) rfl (fun _ => rfl) (.run (fun γ ρ B hb hd => ⟨.yes rfl (ltB rfl) (hl hd 4 94 rfl) hc20, OpStep.at ⟨ρ, (cown go_47 r_api_Flight x_45 0 gc_48) :: B, _⟩ (setO ⟨ρ, (cown go_47 r_api_Flight x_45 0 gc_48) :: B, _⟩ _ _) (op_indexAddrOF (r := r_api_Flight) (j := 0) lb tu30 tz36 rfl (.tmp (hl hd 5 95 rfl)) (.tmp (hl hd 6 96 rfl)) hv_i_56)⟩)) ?_
      refine DSteps.cons (j := 9) rfl (fun _ => rfl) (.run (fun γ ρ B hb hd => ⟨.yes rfl (ltB rfl) (hl hd 4 94 rfl) hc20, OpStep.at ⟨ρ, B, _⟩ (setO ⟨ρ, B, _⟩ _ _) (op_fieldAddrE (off := 0) lb tf36_0 (.tmp (hl hd 7 97 rfl)))⟩)) ?_
      refine DSteps.cons (j := 10) rfl (fun _ => rfl) (.run (fun γ ρ B hb hd => ⟨.yes rfl (ltB rfl) (hl hd 4 94 rfl) hc20, OpStep.at ⟨ρ, (cown go_47 r_api_Flight x_45 0 gc_48) :: B, _⟩ (setO ⟨ρ, (cown go_47 r_api_Flight x_45 0 gc_48) :: B, _⟩ _ _) (op_loadOS (r := r_api_Flight) (i := i_56) (off := 0) (j := 0) lb tS3 rfl rfl (.tmp (hl hd 8 98 rfl)) hv_u_57 (Comp.at' (Comp.trans (Comp.self r_api_Flight u_57) (comp_api_Flight_From u_57) (Nat.le_of_ble_eq_true rfl)) rfl) (by decide))⟩)) ?_
      refine DSteps.cons (j := 11) rfl (fun _ => rfl) (.run (fun γ ρ B hb hd => ⟨.yes rfl (ltB rfl) (hl hd 4 94 rfl) hc20, OpStep.at ⟨ρ, B, _⟩ (setO ⟨ρ, B, _⟩ _ _) (op_fieldAddr (off := 0) lb tf36_0 (.tmp (hb 8 _ rfl)))⟩)) ?_
      refine DSteps.cons (j := 12) rfl (fun _ => rfl) (.run (fun γ ρ B hb hd => ⟨.yes rfl (ltB rfl) (hl hd 4 94 rfl) hc20, OpStep.at ⟨ρ, (cvar gb_53 r_api_Flight v_50) :: B, _⟩ (setO ⟨ρ, (cvar gb_53 r_api_Flight v_50) :: B, _⟩ _ _) (op_loadS (j := 0) lb tS3 (.tmp (hl hd 10 100 rfl)) rfl (Comp.trans (Comp.self r_api_Flight v_50) (comp_api_Flight_From v_50) (Nat.le_of_ble_eq_true rfl)) rfl rfl)⟩)) ?_
      refine DSteps.cons (j := 13) rfl (fun _ => rfl) (.run (fun γ ρ B hb hd => ⟨.yes rfl (ltB rfl) (hl hd 4 94 rfl) hc20, OpStep.at ⟨ρ, B, _⟩ (setO ⟨ρ, B, _⟩ _ _) (op_cmpI lb (.tmp (hl hd 9 99 rfl)) (.tmp (hl hd 11 101 rfl)) (congrArg some hv_v_58))⟩)) ?_
      refine DSteps.cons (j := 14) rfl (fun _ => rfl) (.run (fun γ ρ B hb hd => ⟨.yes rfl (ltB rfl) (hl hd 4 94 rfl) hc20, OpStep.at ⟨ρ, B, _⟩ (setO ⟨ρ, B, _⟩ _ _) (op_move lb (.tmp (hl hd 12 102 rfl)))⟩)) ?_
      refine DSteps.cons (j := 15) rfl (fun _ => rfl) (.run (fun γ ρ B hb hd => ⟨.yes rfl (ltB rfl) (hl hd 13 103 rfl) hc22, OpStep.at ⟨ρ, B, _⟩ (setO ⟨ρ, B, _⟩ _ _) (op_move lb (.tmp (hb 5 _ rfl)))⟩)) ?_
      refine DSteps.cons (j := 16) rfl (fun _ => rfl) (.run (fun γ ρ B hb hd => ⟨.yes rfl (ltB rfl) (hl hd 13 103 rfl) hc22, OpStep.at ⟨ρ, B, _⟩ (setO ⟨ρ, B, _⟩ _ _) (op_move lb (.tmp (hb 10 _ rfl)))⟩)) ?_
      refine DSteps.cons (j := 17) rfl (fun _ => rfl) (.run (fun γ ρ B hb hd => ⟨.yes rfl (ltB rfl) (hl hd 13 103 rfl) hc22, OpStep.at ⟨ρ, (cown go_47 r_api_Flight x_45 0 gc_48) :: B, _⟩ (setO ⟨ρ, (cown go_47 r_api_Flight x_45 0 gc_48) :: B, _⟩ _ _) (op_indexAddrOF (r := r_api_Flight) (j := 0) lb tu30 tz36 rfl (.tmp (hl hd 14 104 rfl)) (.tmp (hl hd 15 105 rfl)) hv_i_59)⟩)) ?_
      refine DSteps.cons (j := 18) rfl (fun _ => rfl) (.run (fun γ ρ B hb hd => ⟨.yes rfl (ltB rfl) (hl hd 13 103 rfl) hc22, OpStep.at ⟨ρ, B, _⟩ (setO ⟨ρ, B, _⟩ _ _) (op_fieldAddrE (off := 1) lb tf36_1 (.tmp (hl hd 16 106 rfl)))⟩)) ?_
      refine DSteps.cons (j := 19) rfl (fun _ => rfl) (.run (fun γ ρ B hb hd => ⟨.yes rfl (ltB rfl) (hl hd 13 103 rfl) hc22, OpStep.at ⟨ρ, (cown go_47 r_api_Flight x_45 0 gc_48) :: B, _⟩ (setO ⟨ρ, (cown go_47 r_api_Flight x_45 0 gc_48) :: B, _⟩ _ _) (op_loadOS (r := r_api_Flight) (i := i_59) (off := 1) (j := 0) lb tS3 rfl rfl (.tmp (hl hd 17 107 rfl)) hv_u_60 (Comp.at' (Comp.trans (Comp.self r_api_Flight u_60) (comp_api_Flight_To u_60) (Nat.le_of_ble_eq_true rfl)) rfl) (by decide))⟩)) ?_
      refine DSteps.cons (j := 20) rfl (fun _ => rfl) (.run (fun γ ρ B hb hd => ⟨.yes rfl (ltB rfl) (hl hd 13 103 rfl) hc22, OpStep.at ⟨ρ, B, _⟩ (setO ⟨ρ, B, _⟩ _ _) (op_fieldAddr (off := 1) lb tf36_1 (.tmp (hb 8 _ rfl)))⟩)) ?_
      refine DSteps.cons (j := 21) rfl (fun _ => rfl) (.run (fun γ ρ B hb hd => ⟨.yes rfl (ltB rfl) (hl hd 13 103 rfl) hc22, OpStep.at ⟨ρ, (cvar gb_53 r_api_Flight v_50) :: B, _⟩ (setO ⟨ρ, (cvar gb_53 r_api_Flight v_50) :: B, _⟩ _ _) (op_loadS (j := 0) lb tS3 (.tmp (hl hd 19 109 rfl)) rfl (Comp.trans (Comp.self r_api_Flight v_50) (comp_api_Flight_To v_50) (Nat.le_of_ble_eq_true rfl)) rfl rfl)⟩)) ?_
      refine DSteps.cons (j := 22) rfl (fun _ => rfl) (.run (fun γ ρ B hb hd => ⟨.yes rfl (ltB rfl) (hl hd 13 103 rfl) hc22, OpStep.at ⟨ρ, B, _⟩ (setO ⟨ρ, B, _⟩ _ _) (op_cmpI lb (.tmp (hl hd 18 108 rfl)) (.tmp (hl hd 20 110 rfl)) (congrArg some hv_v_61))⟩)) ?_
      refine DSteps.cons (j := 23) rfl (fun _ => rfl) (.run (fun γ ρ B hb hd => ⟨.yes rfl (ltB rfl) (hl hd 4 94 rfl) hc20, OpStep.at ⟨ρ, B, _⟩ (setO ⟨ρ, B, _⟩ _ _) (op_pickF lb (.tmp (hl hd 13 103 rfl)) hc22 (.tmp (hl hd 21 111 rfl)))⟩)) ?_
      refine dS 24 (fun γ ρ B hb hd => op_pickT lb (.tmp (hl hd 4 94 rfl)) hc20 (.tmp (hl hd 22 112 rfl))) ?_
      exact DSteps.nil)
                               (by decide +kernel) (fun _ => rfl) rfl (fun _ => rfl) (fun _ => rfl) rfl (by decide) (by decide) (by decide +kernel) (fun _ d h => by cases h)
                               (ρ' := fun γ => [(3, ov (PTR gb_4 0)), (5, ov (HDR go_47 0 (List.length x_45) gc_48)), (7, ov (S (rI .i64) x_46)), (8, ov (PTR gb_53 0)), (9, ov (S (rI .i64) v_51)), (10, ov (S (rI .i64) x_54)), (113, ov (S rB v_61))])
                               (X' := fun γ => [cvar gb_4 (rP (rW (MPV go_5)) (rP (rI .i64) (rP (rI .i64) r0))) ((), ((4 : Int), (lost_40, ()))), cmap go_5 (A r_net_pair) (S (rL (rL (rU UInt8)))) (some (x_52)), cown go_47 r_api_Flight x_45 0 gc_48, cvar gb_53 r_api_Flight v_50])
                               (fun γ ρ hb hd => (.cons (hb 3 _ rfl (by decide)) (.cons (hb 5 _ rfl (by decide)) (.cons (hb 7 _ rfl (by decide)) (.cons (hb 8 _ rfl (by decide)) (.cons (hb 9 _ rfl (by decide)) (.cons (hb 10 _ rfl (by decide)) (.cons (hdq hd 23 113 rfl) .nil)))))))) (fun _ => rfl) (fun γ => ?_)
                           refine JQ.at ⟨[(3, ov (PTR gb_4 0)), (5, ov (HDR go_47 0 (List.length x_45) gc_48)), (7, ov (S (rI .i64) x_46)), (8, ov (PTR gb_53 0)), (9, ov (S (rI .i64) v_51)), (10, ov (S (rI .i64) x_54)), (113, ov (S rB v_61))], [cvar gb_4 (rP (rW (MPV go_5)) (rP (rI .i64) (rP (rI .i64) r0))) ((), ((4 : Int), (lost_40, ()))), cmap go_5 (A r_net_pair) (S (rL (rL (rU UInt8)))) (some (x_52)), cown go_47 r_api_Flight x_45 0 gc_48, cvar gb_53 r_api_Flight v_50], []⟩ ?_
                           replace hx18 := Option.some.inj hx18
                           first | subst hx18 | clear hx18
                           exact JQ.join () (Imp.norm (js := [0, 0, 0, 0]) rfl (.cons rfl (.cons rfl (.cons rfl (.cons rfl (.cons rfl (.cons rfl (.cons rfl .nil))))))))
                       · refine JC.anyE (kl := []) (kk := 0) (base := [(3, ov (PTR gb_4 0)), (5, ov (HDR go_47 0 (List.length x_45) gc_48)), (7, ov (S (rI .i64) x_46)), (8, ov (PTR gb_53 0)), (9, ov (S (rI .i64) v_51)), (10, ov (S (rI .i64) x_54))])
                             (fs := fun γ => [⟨some 90, ov (S (rI .i64) x_54)⟩, ⟨some 91, ov (HDR go_47 0 (List.length x_45) gc_48)⟩, ⟨some 92, ov (S (rI .i64) (List.length x_45 : Int))⟩, ⟨some 93, ov (S rB v_55)⟩, ⟨some 94, ov (S rB v_55)⟩, ⟨some 95, .one .und⟩, ⟨some 96, .one .und⟩, ⟨some 97, .one .und⟩, ⟨some 98, .one .und⟩, ⟨some 99, .one .und⟩, ⟨some 100, .one .und⟩, ⟨some 101, .one .und⟩, ⟨some 102, .one .und⟩, ⟨some 103, .one .und⟩, ⟨some 104, .one .und⟩, ⟨some 105, .one .und⟩, ⟨some 106, .one .und⟩, ⟨some 107, .one .und⟩, ⟨some 108, .one .und⟩, ⟨some 109, .one .und⟩, ⟨some 110, .one .und⟩, ⟨some 111, .one .und⟩, ⟨some 112, .one .und⟩, ⟨some 113, ov (S rB false)⟩])
                             (rs := fun γ => [⟨cvar gb_4 (rP (rW (MPV go_5)) (rP (rI .i64) (rP (rI .i64) r0))) ((), ((4 : Int), (lost_40, ()))), none, none, []⟩, ⟨cmap go_5 (A r_net_pair) (S (rL (rL (rU UInt8)))) (some (x_52)), none, none, []⟩, ⟨cown go_47 r_api_Flight x_45 0 gc_48, none, none, []⟩, ⟨cvar gb_53 r_api_Flight v_50, none, none, []⟩])
                             (ds := [90, 91, 92, 93, 94, 95, 96, 97, 98, 99, 100, 101, 102, 103, 104, 105, 106, 107, 108, 109, 110, 111, 112, 113]) (bs := [3, 5, 7, 8, 9, 10]) (afts := [[], [], [], [], [], [], [], [], [], [], [], [], [], [], [], [], [], [], [], [], [], [], [], []]) (js := [0, 0, 0, 0]) mixed (.cons rfl (.cons rfl (.cons rfl (.cons rfl (.cons rfl (.cons rfl .nil)))))) (fun _ => rfl)
                             (by
      refine dS 1 (fun γ ρ B hb hd => op_move lb (.tmp (hb 10 _ rfl))) ?_
      refine dS 2 (fun γ ρ B hb hd => op_move lb (.tmp (hb 5 _ rfl))) ?_
      refine dS 3 (fun γ ρ B hb hd => op_lenH lb tu30 (.tmp (hl hd 1 91 rfl))) ?_
      refine dS 4 (fun γ ρ B hb hd => op_cmpI lb (.tmp (hl hd 0 90 rfl)) (.tmp (hl hd 2 92 rfl)) (congrArg some hv_v_55)) ?_
      refine dS 5 (fun γ ρ B hb hd => op_move lb (.tmp (hl hd 3 93 rfl))) ?_
      refine DSteps.cons (j := 6) rfl (fun _ => rfl) (.skip (fun γ ρ B hb hd => ⟨.no rfl (ltB rfl) (hl hd 4 94 rfl) hc20, rfl, rfl, rfl, fun d h => by cases h; exact ltB rfl⟩)) ?_
      refine DSteps.cons (j := 7) rfl (fun _ => rfl) (.skip (fun γ ρ B hb hd => ⟨.no rfl (ltB rfl) (hl hd 4 94 rfl) hc20, rfl, rfl, rfl, fun d h => by cases h; exact ltB rfl⟩)) ?_
      refine DSteps.cons (j := 8) rfl (fun _ => rfl) (.skip (fun γ ρ B hb hd => ⟨.no rfl (ltB rfl) (hl hd 4 94 rfl) hc20, rfl, rfl, rfl, fun d h => by cases h; exact ltB rfl⟩)) ?_
      refine DSteps.cons (j := 9) rfl (fun _ => rfl) (.skip (fun γ ρ B hb hd => ⟨.no rfl (ltB rfl) (hl hd 4 94 rfl) hc20, rfl, rfl, rfl, fun d h => by cases h; exact ltB rfl⟩)) ?_
      refine DSteps.cons (j := 10) rfl (fun _ => rfl) (.skip (fun γ ρ B hb hd => ⟨.no rfl (ltB rfl) (hl hd 4 94 rfl) hc20, rfl, rfl, rfl, fun d h => by cases h; exact ltB rfl⟩)) ?_
      refine DSteps.cons (j := 11) rfl (fun _ => rfl) (.skip (fun γ ρ B hb hd => ⟨.no rfl (ltB rfl) (hl hd 4 94 rfl) hc20, rfl, rfl, rfl, fun d h => by cases h; exact ltB rfl⟩)) ?_
      refine DSteps.cons (j := 12) rfl (fun _ => rfl) (.skip (fun γ ρ B hb hd => ⟨.no rfl (ltB rfl) (hl hd 4 94 rfl) hc20, rfl, rfl, rfl, fun d h => by cases h; exact ltB rfl⟩)) ?_
      refine DSteps.cons (j := 13) rfl (fun _ => rfl) (.skip (fun γ ρ B hb hd => ⟨.no rfl (ltB rfl) (hl hd 4 94 rfl) hc20, rfl, rfl, rfl, fun d h => by cases h; exact ltB rfl⟩)) ?_
      refine DSteps.cons (j := 14) rfl (fun _ => rfl) (.skip (fun γ ρ B hb hd => ⟨.no rfl (ltB rfl) (hl hd 4 94 rfl) hc20, rfl, rfl, rfl, fun d h => by cases h; exact ltB rfl⟩)) ?_
      refine DSteps.cons (j := 15) rfl (fun _ => rfl) (.skip (fun γ ρ B hb hd => ⟨.und rfl (ltB rfl) (hl hd 13 103 rfl), rfl, rfl, rfl, fun d h => by cases h; exact ltB rfl⟩)) ?_
      refine DSteps.cons (j := 16) rfl (fun _ => rfl) (.skip (fun γ ρ B hb hd => ⟨.und rfl (ltB rfl) (hl hd 13 103 rfl), rfl, rfl, rfl, fun d h => by cases h; exact ltB rfl⟩)) ?_
      refine DSteps.cons (j := 17) rfl (fun _ => rfl) (.skip (fun γ ρ B hb hd => ⟨.und rfl (ltB rfl) (hl hd 13 103 rfl), rfl, rfl, rfl, fun d h => by cases h; exact ltB rfl⟩)) ?_
      refine DSteps.cons (j := 18) rfl (fun _ => rfl) (.skip (fun γ ρ B hb hd => ⟨.und rfl (ltB rfl) (hl hd 13 103 rfl), rfl, rfl, rfl, fun d h => by cases h; exact ltB rfl⟩)) ?_
      refine DSteps.cons (j := 19) rfl (fun _ => rfl) (.skip (fun γ ρ B hb hd => ⟨.und rfl (ltB rfl) (hl hd 13 103 rfl), rfl, rfl, rfl, fun d h => by cases h; exact ltB rfl⟩)) ?_
      refine DSteps.cons (j := 20) rfl (fun _ => rfl) (.skip (fun γ ρ B hb hd => ⟨.und rfl (ltB rfl) (hl hd 13 103 rfl), rfl, rfl, rfl, fun d h => by cases h; exact ltB rfl⟩)) ?_
      refine DSteps.cons (j := 21) rfl (fun _ => rfl) (.skip (fun γ ρ B hb hd => ⟨.und rfl (ltB rfl) (hl hd 13 103 rfl), rfl, rfl, rfl, fun d h => by cases h; exact ltB rfl⟩)) ?_
      refine DSteps.cons (j := 22) rfl (fun _ => rfl) (.skip (fun γ ρ B hb hd => ⟨.und rfl (ltB rfl) (hl hd 13 103 rfl), rfl, rfl, rfl, fun d h => by cases h; exact ltB rfl⟩)) ?_
      refine DSteps.cons (j := 23) rfl (fun _ => rfl) (.skip (fun γ ρ B hb hd => ⟨.no rfl (ltB rfl) (hl hd 4 94 rfl) hc20, rfl, rfl, rfl, fun d h => by cases h; exact ltB rfl⟩)) ?_
      refine dS 24 (fun γ ρ B hb hd => op_pickF lb (.tmp (hl hd 4 94 rfl)) hc20 .cB) ?_
      exact DSteps.nil)
                             (by decide +kernel) (fun _ => rfl) rfl (fun _ => rfl) (fun _ => rfl) rfl (by decide) (by decide) (by decide +kernel) (fun _ d h => by cases h)
                             (ρ' := fun γ => [(3, ov (PTR gb_4 0)), (5, ov (HDR go_47 0 (List.length x_45) gc_48)), (7, ov (S (rI .i64) x_46)), (8, ov (PTR gb_53 0)), (9, ov (S (rI .i64) v_51)), (10, ov (S (rI .i64) x_54)), (113, ov (S rB false))])
                             (X' := fun γ => [cvar gb_4 (rP (rW (MPV go_5)) (rP (rI .i64) (rP (rI .i64) r0))) ((), ((4 : Int), (lost_40, ()))), cmap go_5 (A r_net_pair) (S (rL (rL (rU UInt8)))) (some (x_52)), cown go_47 r_api_Flight x_45 0 gc_48, cvar gb_53 r_api_Flight v_50])
                             (fun γ ρ hb hd => (.cons (hb 3 _ rfl (by decide)) (.cons (hb 5 _ rfl (by decide)) (.cons (hb 7 _ rfl (by decide)) (.cons (hb 8 _ rfl (by decide)) (.cons (hb 9 _ rfl (by decide)) (.cons (hb 10 _ rfl (by decide)) (.cons (hdq hd 23 113 rfl) .nil)))))))) (fun _ => rfl) (fun γ => ?_)
                         refine JQ.at ⟨[(3, ov (PTR gb_4 0)), (5, ov (HDR go_47 0 (List.length x_45) gc_48)), (7, ov (S (rI .i64) x_46)), (8, ov (PTR gb_53 0)), (9, ov (S (rI .i64) v_51)), (10, ov (S (rI .i64) x_54)), (113, ov (S rB false))], [cvar gb_4 (rP (rW (MPV go_5)) (rP (rI .i64) (rP (rI .i64) r0))) ((), ((4 : Int), (lost_40, ()))), cmap go_5 (A r_net_pair) (S (rL (rL (rU UInt8)))) (some (x_52)), cown go_47 r_api_Flight x_45 0 gc_48, cvar gb_53 r_api_Flight v_50], []⟩ ?_
                         replace hx18 := Option.some.inj hx18
                         first | subst hx18 | clear hx18
                         exact JQ.join () (Imp.norm (js := [0, 0, 0, 0]) rfl (.cons rfl (.cons rfl (.cons rfl (.cons rfl (.cons rfl (.cons rfl (.cons rfl .nil))))))))
             · refine JC.condF (.tmp rfl) hc14 ?_
               refine JC.exit ?_
               refine JQ.outX ?_
               replace hx := Option.some.inj hx
               first | subst hx | clear hx
               have ht := hr _ rfl
               clear hr
               first | subst ht | clear ht
               dsimp only at hq13
               refine JQ.outX ?_
               refine JQ.here ?_
               replace hq13 := Option.some.inj hq13
               first | subst hq13 | clear hq13
               exact JQ.joinK x_44 () rfl (Imp.norm (js := [0, 0]) rfl (.cons rfl .nil))
       · refine JC.seq ?_
         refine JC.region ?_
         refine jc (op_assign lb .cI) ?_
         refine JL.nil ?_
         refine JQ.then ?_
         refine JC.block ?_
         refine JC.pre (Imp.nilown r_api_Flight) ?_
         refine JC.pre ?_ (JC.loop (γ := Option Nat × Nat) (stf := fun s q => ⟨[(0, ov (S (rL r_law12_Act) t_1)), (3, ov (PTR gb_4 0)), (5, ov (HDR q.1 0 (List.length s.2.2.1) q.2)), (6, ov (S (rI .i64) s.2.2.2))], [cvar gb_4 (rP (rW (MPV go_5)) (rP (rI .i64) (rP (rI .i64) r0))) ((), ((4 : Int), (s.2.1, ()))), cmap go_5 (A r_net_pair) (S (rL (rL (rU UInt8)))) (some s.1), cown q.1 r_api_Flight s.2.2.1 0 q.2], []⟩) (q := (none, 0)) hx4 ?_)
         · exact (Imp.norm (js := [0, 0, 0]) rfl (.cons rfl (.cons rfl (.cons rfl (.cons rfl .nil)))))
         · intro s q x hx hr
           obtain ⟨x_7, lost_8, x_9, x_10⟩ := s
           obtain ⟨go_11, gc_12⟩ := q
           change law12_NetOrder.b1 k t_1 x_7 lost_8 x_9 x_10 = some x at hx
           unfold law12_NetOrder.b1 at hx
           refine JC.at ⟨[(0, ov (S (rL r_law12_Act) t_1)), (3, ov (PTR gb_4 0)), (5, ov (HDR go_11 0 (List.length x_9) gc_12)), (6, ov (S (rI .i64) x_10))], [cvar gb_4 (rP (rW (MPV go_5)) (rP (rI .i64) (rP (rI .i64) r0))) ((), ((4 : Int), (lost_8, ()))), cmap go_5 (A r_net_pair) (S (rL (rL (rU UInt8)))) (some x_7), cown go_11 r_api_Flight x_9 0 gc_12], []⟩ ?_
           refine JC.seq ?_
           refine JC.seq ?_
           refine JC.region ?_
           refine jc (op_move lb (.tmp rfl)) ?_
           refine jc (op_move lb (.tmp rfl)) ?_
           refine jc (op_lenL lb tu22 (.tmp rfl)) ?_
           replace hx := lt1_inv hx
           obtain ⟨v_13, hv_v_13, hx⟩ := hx
           refine jc (op_cmpI lb (.tmp rfl) (.tmp rfl) (congrArg some hv_v_13)) ?_
           refine JL.nil ?_
           refine JQ.then ?_
           replace hx := iteB_inv hx
           rcases hx with ⟨hc6, hx⟩ | ⟨hc6, hx⟩
           · refine JC.condT (.tmp rfl) hc6 ?_
             refine JC.skip ?_
             refine JQ.then ?_
             replace hx := bnd_inv hx
             obtain ⟨⟨x_33, lost_34, x_35⟩, hx7, hq7⟩ := hx
             refine JC.seqJ (γ := Option Nat × Nat) (stj := fun q => ⟨[(0, ov (S (rL r_law12_Act) t_1)), (3, ov (PTR gb_4 0)), (5, ov (HDR q.1 0 (List.length x_35) q.2)), (6, ov (S (rI .i64) x_10))], [cvar gb_4 (rP (rW (MPV go_5)) (rP (rI .i64) (rP (rI .i64) r0))) ((), ((4 : Int), (lost_34, ()))), cmap go_5 (A r_net_pair) (S (rL (rL (rU UInt8)))) (some x_33), cown q.1 r_api_Flight x_35 0 q.2], []⟩) (fun q => ?_) ?_
             · obtain ⟨go_36, gc_37⟩ := q
               refine JC.at ⟨[(0, ov (S (rL r_law12_Act) t_1)), (3, ov (PTR gb_4 0)), (5, ov (HDR go_36 0 (List.length x_35) gc_37)), (6, ov (S (rI .i64) x_10))], [cvar gb_4 (rP (rW (MPV go_5)) (rP (rI .i64) (rP (rI .i64) r0))) ((), ((4 : Int), (lost_34, ()))), cmap go_5 (A r_net_pair) (S (rL (rL (rU UInt8)))) (some x_33), cown go_36 r_api_Flight x_35 0 gc_37], []⟩ ?_
               refine JC.region ?_
               refine jc (op_move lb (.tmp rfl)) ?_
               replace hq7 := lt1_inv hq7
               obtain ⟨v_38, hv_v_38, hq7⟩ := hq7
               refine jc (op_arI lb (.tmp rfl) .cI (congrArg some hv_v_38)) ?_
               refine jc (op_assign lb (.tmp rfl)) ?_
               refine JL.nil ?_
               replace hq7 := Option.some.inj hq7
               first | subst hq7 | clear hq7
               exact JQ.next (go_36, gc_37) rfl (Imp.norm (js := [0, 0, 0]) rfl (.cons rfl (.cons rfl (.cons rfl (.cons rfl .nil)))))
             · refine JC.block ?_
               replace hx7 := bnd_inv hx7
               obtain ⟨⟨x_24, lost_25, x_26⟩, hx8, hq8⟩ := hx7
               refine JC.seqJ (γ := Unit) (stj := fun q => ⟨[(0, ov (S (rL r_law12_Act) t_1)), (3, ov (PTR gb_4 0)), (5, ov (HDR go_11 0 (List.length x_9) gc_12)), (6, ov (S (rI .i64) x_10)), (59, ov (S rB x_26))], [cvar gb_4 (rP (rW (MPV go_5)) (rP (rI .i64) (rP (rI .i64) r0))) ((), ((4 : Int), (lost_25, ()))), cmap go_5 (A r_net_pair) (S (rL (rL (rU UInt8)))) (some x_24), cown go_11 r_api_Flight x_9 0 gc_12], []⟩) (fun q => ?_) ?_
               · obtain _ := q
                 refine JC.at ⟨[(0, ov (S (rL r_law12_Act) t_1)), (3, ov (PTR gb_4 0)), (5, ov (HDR go_11 0 (List.length x_9) gc_12)), (6, ov (S (rI .i64) x_10)), (59, ov (S rB x_26))], [cvar gb_4 (rP (rW (MPV go_5)) (rP (rI .i64) (rP (rI .i64) r0))) ((), ((4 : Int), (lost_25, ()))), cmap go_5 (A r_net_pair) (S (rL (rL (rU UInt8)))) (some x_24), cown go_11 r_api_Flight x_9 0 gc_12], []⟩ ?_
                 replace hq8 := iteB_inv hq8
                 rcases hq8 with ⟨hc11, hq8⟩ | ⟨hc11, hq8⟩
                 · refine JC.condT (.tmp rfl) hc11 ?_
                   replace hq8 := bnd_inv hq8
                   obtain ⟨v_27, hv_v_27, hq8⟩ := hq8
                   replace hq8 := bnd_inv hq8
                   obtain ⟨v_28, hv_v_28, hq8⟩ := hq8
                   replace hq8 := bnd_inv hq8
                   obtain ⟨v_29, hv_v_29, hq8⟩ := hq8
                   replace hq8 := bnd_inv hq8
                   obtain ⟨x_30, hv_x_30, hq8⟩ := hq8
                   refine JC.anyE (kl := [5]) (kk := 19) (base := [(0, ov (S (rL r_law12_Act) t_1)), (3, ov (PTR gb_4 0)), (5, ov (HDR go_11 0 (List.length x_9) gc_12)), (6, ov (S (rI .i64) x_10))])
                       (fs := fun γ => [⟨some 60, ov (HDR go_11 0 (List.length x_9) gc_12)⟩, ⟨some 61, ov (S (rL r_law12_Act) t_1)⟩, ⟨some 62, ov (S (rI .i64) x_10)⟩, ⟨some 63, ov (PT r_law12_Act v_27)⟩, ⟨some 64, ov (PT (rI .i64) v_27.A)⟩, ⟨some 65, ov (S (rI .i64) v_27.A)⟩, ⟨some 66, ov (S (rL r_law12_Act) t_1)⟩, ⟨some 67, ov (S (rI .i64) x_10)⟩, ⟨some 68, ov (PT r_law12_Act v_28)⟩, ⟨some 69, ov (PT (rI .i64) v_28.B)⟩, ⟨some 70, ov (S (rI .i64) v_28.B)⟩, ⟨some 71, ov (S (rL r_law12_Act) t_1)⟩, ⟨some 72, ov (S (rI .i64) x_10)⟩, ⟨some 73, ov (PT r_law12_Act v_29)⟩, ⟨some 74, ov (PT (rL (rU UInt8)) v_29.Bytes)⟩, ⟨some 75, ov (S (rL (rU UInt8)) v_29.Bytes)⟩, ⟨some 76, ov (A (rP (rI .i64) (rP (rI .i64) (rP (rL (rU UInt8)) r0))) (v_27.A, (v_28.B, (v_29.Bytes, ()))))⟩, ⟨some 77, ov (S (rL r_api_Flight) ([(api_Flight.mk v_27.A v_28.B v_29.Bytes)] : (List api_Flight)))⟩, ⟨some 78, ov (HDR (deo (γ 18 0)) 0 (List.length x_30) (γ 18 1))⟩, ⟨some 5, ov (HDR (deo (γ 18 0)) 0 (List.length x_30) (γ 18 1))⟩])
                       (rs := fun γ => [⟨cvar gb_4 (rP (rW (MPV go_5)) (rP (rI .i64) (rP (rI .i64) r0))) ((), ((4 : Int), (lost_25, ()))), none, none, []⟩, ⟨cmap go_5 (A r_net_pair) (S (rL (rL (rU UInt8)))) (some x_24), none, none, []⟩, ⟨cown go_11 r_api_Flight x_9 0 gc_12, none, (some 18), []⟩, ⟨cown (deo (γ 18 0)) r_api_Flight x_30 0 (γ 18 1), (some 18), none, []⟩])
                       (ds := [60, 61, 62, 63, 64, 65, 66, 67, 68, 69, 70, 71, 72, 73, 74, 75, 76, 77, 78, 5]) (bs := [0, 3, 5, 6]) (afts := [[], [], [], [], [], [], [], [], [], [], [], [], [], [], [], [], [], [], [18, 19], []]) (js := [0, 0, 0]) mixed (.cons rfl (.cons rfl (.cons rfl (.cons rfl .nil)))) (fun _ => rfl)
                       (by
      refine dS 1 (fun γ ρ B hb hd => op_move lb (.tmp (hb 5 _ rfl))) ?_
      refine dS 2 (fun γ ρ B hb hd => op_move lb (.tmp (hb 0 _ rfl))) ?_
      refine dS 3 (fun γ ρ B hb hd => op_move lb (.tmp (hb 6 _ rfl))) ?_
      refine dS 4 (fun γ ρ B hb hd => op_indexAddrLg lb tu22 tz33 (.tmp (hl hd 1 61 rfl)) (.tmp (hl hd 2 62 rfl)) hv_v_27) ?_
      refine dS 5 (fun γ ρ B hb hd => op_fieldAddrP lb tf33_1 (.tmp (hl hd 3 63 rfl)) (comp_law12_Act_A v_27)) ?_
      refine dS 6 (fun γ ρ B hb hd => op_loadPSg lb tS3 rfl (.tmp (hl hd 4 64 rfl)) rfl) ?_
      refine dS 7 (fun γ ρ B hb hd => op_move lb (.tmp (hb 0 _ rfl))) ?_
      refine dS 8 (fun γ ρ B hb hd => op_move lb (.tmp (hb 6 _ rfl))) ?_
      refine dS 9 (fun γ ρ B hb hd => op_indexAddrLg lb tu22 tz33 (.tmp (hl hd 6 66 rfl)) (.tmp (hl hd 7 67 rfl)) hv_v_28) ?_
      refine dS 10 (fun γ ρ B hb hd => op_fieldAddrP lb tf33_2 (.tmp (hl hd 8 68 rfl)) (comp_law12_Act_B v_28)) ?_
      refine dS 11 (fun γ ρ B hb hd => op_loadPSg lb tS3 rfl (.tmp (hl hd 9 69 rfl)) rfl) ?_
      refine dS 12 (fun γ ρ B hb hd => op_move lb (.tmp (hb 0 _ rfl))) ?_
      refine dS 13 (fun γ ρ B hb hd => op_move lb (.tmp (hb 6 _ rfl))) ?_
      refine dS 14 (fun γ ρ B hb hd => op_indexAddrLg lb tu22 tz33 (.tmp (hl hd 11 71 rfl)) (.tmp (hl hd 12 72 rfl)) hv_v_29) ?_
      refine dS 15 (fun γ ρ B hb hd => op_fieldAddrP lb tf33_3 (.tmp (hl hd 13 73 rfl)) (comp_law12_Act_Bytes v_29)) ?_
      refine dS 16 (fun γ ρ B hb hd => op_loadPSg lb tS31 rfl (.tmp (hl hd 14 74 rfl)) rfl) ?_
      refine dS 17 (fun γ ρ B hb hd => op_build lb tZ36 zr36 tp36 (.S (off := 0) rfl (.tmp (hl hd 5 65 rfl)) rfl ((UpdR.fst (UpdR.self (by rfl))).at (by rfl)) (.S (off := 1) rfl (.tmp (hl hd 10 70 rfl)) rfl ((UpdR.snd (UpdR.fst (UpdR.self (by rfl)))).at (by rfl)) (.S (off := 2) rfl (.tmp (hl hd 15 75 rfl)) rfl ((UpdR.snd (UpdR.snd (UpdR.fst (UpdR.self (by rfl))))).at (by rfl)) .nil))) rfl) ?_
      refine dS 18 (fun γ ρ B hb hd => op_buildF (r := r_api_Flight) lb tu30 tz36 tZ36 rfl (Nat.le_of_ble_eq_true rfl) (.A (HasO.wk (q := A r_api_Flight (api_Flight.mk v_27.A v_28.B v_29.Bytes)) (.tmp (hl hd 16 76 rfl)) (wkAK (Wk.st Wk.refl))) .nil) rfl) ?_
      refine DSteps.cons (j := 19) rfl (fun _ => rfl) (.runX (fun _ _ => rfl) (fun γ ρ B hb hd => ⟨.none, OpX.ghost (γ := Option Nat × Nat) (st' := fun q => setO ⟨ρ, (cown q.1 r_api_Flight x_30 0 q.2) :: B, _⟩ (some 78) (ov (HDR q.1 0 (List.length x_30) q.2))) (fun q c => bif Nat.beq c 0 then eno q.1 else q.2) (op_appendL (j := 0) lb tu30 tu30 rfl tB36 rfl (Nat.lt_of_lt_of_le Nat.zero_lt_one (Nat.le_of_ble_eq_true rfl)) (Nat.lt_of_lt_of_le Nat.zero_lt_one (Nat.le_of_ble_eq_true rfl))  rfl (.tmp (hl hd 0 60 rfl)) (.tmp (hl hd 17 77 rfl)) hv_x_30) (fun q => by obtain ⟨q0, q1⟩ := q; cases q0 <;> exact Imp.refl)⟩) (fun _ _ => rfl) (fun _ _ => rfl)) ?_
      refine dS 20 (fun γ ρ B hb hd => op_assign lb (.tmp (hl hd 18 78 rfl))) ?_
      exact DSteps.nil)
                       (by decide +kernel) (fun _ => rfl) rfl (fun _ => rfl) (fun _ => rfl) rfl (by decide) (by decide) (by decide +kernel) (fun _ d h => by simp at h; subst h; exact ⟨_, rfl, rfl⟩)
                       (ρ' := fun γ => [(0, ov (S (rL r_law12_Act) t_1)), (3, ov (PTR gb_4 0)), (5, ov (HDR (deo (γ 18 0)) 0 (List.length x_30) (γ 18 1))), (6, ov (S (rI .i64) x_10))])
                       (X' := fun γ => [cvar gb_4 (rP (rW (MPV go_5)) (rP (rI .i64) (rP (rI .i64) r0))) ((), ((4 : Int), (lost_25, ()))), cmap go_5 (A r_net_pair) (S (rL (rL (rU UInt8)))) (some x_24), cown (deo (γ 18 0)) r_api_Flight x_30 0 (γ 18 1)])
                       (fun γ ρ hb hd => (.cons (hb 0 _ rfl (by decide)) (.cons (hb 3 _ rfl (by decide)) (.cons (hdq hd 19 5 rfl) (.cons (hb 6 _ rfl (by decide)) .nil))))) (fun _ => rfl) (fun γ => ?_)
                   generalize (deo (γ 18 0)) = go_31
                   generalize (γ 18 1) = gc_32
                   clear γ
                   refine JQ.at ⟨[(0, ov (S (rL r_law12_Act) t_1)), (3, ov (PTR gb_4 0)), (5, ov (HDR go_31 0 (List.length x_30) gc_32)), (6, ov (S (rI .i64) x_10))], [cvar gb_4 (rP (rW (MPV go_5)) (rP (rI .i64) (rP (rI .i64) r0))) ((), ((4 : Int), (lost_25, ()))), cmap go_5 (A r_net_pair) (S (rL (rL (rU UInt8)))) (some x_24), cown go_31 r_api_Flight x_30 0 gc_32], []⟩ ?_
                   refine JQ.outNB ?_
                   replace hq8 := Option.some.inj hq8
                   replace hq8 := Prod.mk.inj hq8
                   obtain ⟨hq8_a, hq8⟩ := hq8
                   first | subst hq8_a | clear hq8_a
                   replace hq8 := Prod.mk.inj hq8
                   obtain ⟨hq8_a, hq8⟩ := hq8
                   first | subst hq8_a | clear hq8_a
                   first | subst hq8 | clear hq8
                   exact JQ.join (go_31, gc_32) (Imp.norm (js := [0, 0, 0]) rfl (.cons rfl (.cons rfl (.cons rfl (.cons rfl .nil)))))
                 · refine JC.condF (.tmp rfl) hc11 ?_
                   refine JC.skip ?_
                   refine JQ.outNB ?_
                   replace hq8 := Option.some.inj hq8
                   replace hq8 := Prod.mk.inj hq8
                   obtain ⟨hq8_a, hq8⟩ := hq8
                   first | subst hq8_a | clear hq8_a
                   replace hq8 := Prod.mk.inj hq8
                   obtain ⟨hq8_a, hq8⟩ := hq8
                   first | subst hq8_a | clear hq8_a
                   first | subst hq8 | clear hq8
                   exact JQ.join (go_11, gc_12) (Imp.norm (js := [0, 0, 0]) rfl (.cons rfl (.cons rfl (.cons rfl (.cons rfl .nil)))))
               · replace hx8 := bnd_inv hx8
                 obtain ⟨v_14, hv_v_14, hx8⟩ := hx8
                 replace hx8 := lt1_inv hx8
                 obtain ⟨v_15, hv_v_15, hx8⟩ := hx8
                 replace hx8 := iteB_inv hx8
                 rcases hx8 with ⟨hc10, hx8⟩ | ⟨hc10, hx8⟩
                 · replace hx8 := bnd_inv hx8
                   obtain ⟨v_16, hv_v_16, hx8⟩ := hx8
                   replace hx8 := bnd_inv hx8
                   obtain ⟨v_17, hv_v_17, hx8⟩ := hx8
                   replace hx8 := bnd_inv hx8
                   obtain ⟨v_18, hv_v_18, hx8⟩ := hx8
                   replace hx8 := bnd_inv hx8
                   obtain ⟨⟨v_19, x_20, x_21⟩, hv_v_19, hx8⟩ := hx8
                   replace hx8 := bnd_inv hx8
                   obtain ⟨_, hv_u_22, hx8⟩ := hx8
                   replace hx8 := lt1_inv hx8
                   obtain ⟨v_23, hv_v_23, hx8⟩ := hx8
                   refine JC.anyE (kl := []) (kk := 0) (base := [(0, ov (S (rL r_law12_Act) t_1)), (3, ov (PTR gb_4 0)), (5, ov (HDR go_11 0 (List.length x_9) gc_12)), (6, ov (S (rI .i64) x_10))])
                       (fs := fun γ => [⟨some 33, ov (S (rL r_law12_Act) t_1)⟩, ⟨some 34, ov (S (rI .i64) x_10)⟩, ⟨some 35, ov (PT r_law12_Act v_14)⟩, ⟨some 36, ov (PT (rI .i64) v_14.Kind)⟩, ⟨some 37, ov (S (rI .i64) v_14.Kind)⟩, ⟨some 38, ov (S rB v_15)⟩, ⟨some 39, ov (S rB v_15)⟩, ⟨some 40, ov (PTR gb_4 0)⟩, ⟨some 41, ov (S (rL r_law12_Act) t_1)⟩, ⟨some 42, ov (S (rI .i64) x_10)⟩, ⟨some 43, ov (PT r_law12_Act v_16)⟩, ⟨some 44, ov (PT (rI .i64) v_16.A)⟩, ⟨some 45, ov (S (rI .i64) v_16.A)⟩, ⟨some 46, ov (S (rL r_law12_Act) t_1)⟩, ⟨some 47, ov (S (rI .i64) x_10)⟩, ⟨some 48, ov (PT r_law12_Act v_17)⟩, ⟨some 49, ov (PT (rI .i64) v_17.B)⟩, ⟨some 50, ov (S (rI .i64) v_17.B)⟩, ⟨some 51, ov (S (rL r_law12_Act) t_1)⟩, ⟨some 52, ov (S (rI .i64) x_10)⟩, ⟨some 53, ov (PT r_law12_Act v_18)⟩, ⟨some 54, ov (PT (rL (rU UInt8)) v_18.Bytes)⟩, ⟨some 55, ov (S (rL (rU UInt8)) v_18.Bytes)⟩, ⟨some 56, ov (S (rI .i64) v_19)⟩, ⟨some 57, ov (S (rI .i64) v_19)⟩, ⟨some 58, ov (S rB v_23)⟩, ⟨some 59, ov (S rB v_23)⟩])
                       (rs := fun γ => [⟨cvar gb_4 (rP (rW (MPV go_5)) (rP (rI .i64) (rP (rI .i64) r0))) ((), ((4 : Int), (lost_8, ()))), none, (some 23), []⟩, ⟨cmap go_5 (A r_net_pair) (S (rL (rL (rU UInt8)))) (some x_7), none, (some 23), []⟩, ⟨cown go_11 r_api_Flight x_9 0 gc_12, none, none, []⟩, ⟨cvar gb_4 (rP (rW (MPV go_5)) (rP (rI .i64) (rP (rI .i64) r0))) ((), ((4 : Int), (x_21, ()))), (some 23), none, []⟩, ⟨cmap go_5 (A r_net_pair) (S (rL (rL (rU UInt8)))) (some (x_20)), (some 23), none, []⟩])
                       (ds := [33, 34, 35, 36, 37, 38, 39, 40, 41, 42, 43, 44, 45, 46, 47, 48, 49, 50, 51, 52, 53, 54, 55, 56, 57, 58, 59]) (bs := [0, 3, 5, 6]) (afts := [[], [], [], [], [], [], [], [], [], [], [], [], [], [], [], [], [], [], [], [], [], [], [], [], [], [], []]) (js := [0, 0, 0]) mixed (.cons rfl (.cons rfl (.cons rfl (.cons rfl .nil)))) (fun _ => rfl)
                       (by
      refine dS 1 (fun γ ρ B hb hd => op_move lb (.tmp (hb 0 _ rfl))) ?_
      refine dS 2 (fun γ ρ B hb hd => op_move lb (.tmp (hb 6 _ rfl))) ?_
      refine dS 3 (fun γ ρ B hb hd => op_indexAddrLg lb tu22 tz33 (.tmp (hl hd 0 33 rfl)) (.tmp (hl hd 1 34 rfl)) hv_v_14) ?_
      refine dS 4 (fun γ ρ B hb hd => op_fieldAddrP lb tf33_0 (.tmp (hl hd 2 35 rfl)) (comp_law12_Act_Kind v_14)) ?_
      refine dS 5 (fun γ ρ B hb hd => op_loadPSg lb tS3 rfl (.tmp (hl hd 3 36 rfl)) rfl) ?_
      refine dS 6 (fun γ ρ B hb hd => op_cmpI lb (.tmp (hl hd 4 37 rfl)) .cI (congrArg some hv_v_15)) ?_
      refine dS 7 (fun γ ρ B hb hd => op_move lb (.tmp (hl hd 5 38 rfl))) ?_
      refine DSteps.cons (j := 8) rfl (fun _ => rfl) (.run (fun γ ρ B hb hd => ⟨.yes rfl (ltB rfl) (hl hd 6 39 rfl) hc10, OpStep.at ⟨ρ, B, _⟩ (setO ⟨ρ, B, _⟩ _ _) (op_move lb (.tmp (hb 3 _ rfl)))⟩)) ?_
      refine DSteps.cons (j := 9) rfl (fun _ => rfl) (.run (fun γ ρ B hb hd => ⟨.yes rfl (ltB rfl) (hl hd 6 39 rfl) hc10, OpStep.at ⟨ρ, B, _⟩ (setO ⟨ρ, B, _⟩ _ _) (op_move lb (.tmp (hb 0 _ rfl)))⟩)) ?_
      refine DSteps.cons (j := 10) rfl (fun _ => rfl) (.run (fun γ ρ B hb hd => ⟨.yes rfl (ltB rfl) (hl hd 6 39 rfl) hc10, OpStep.at ⟨ρ, B, _⟩ (setO ⟨ρ, B, _⟩ _ _) (op_move lb (.tmp (hb 6 _ rfl)))⟩)) ?_
      refine DSteps.cons (j := 11) rfl (fun _ => rfl) (.run (fun γ ρ B hb hd => ⟨.yes rfl (ltB rfl) (hl hd 6 39 rfl) hc10, OpStep.at ⟨ρ, B, _⟩ (setO ⟨ρ, B, _⟩ _ _) (op_indexAddrLg lb tu22 tz33 (.tmp (hl hd 8 41 rfl)) (.tmp (hl hd 9 42 rfl)) hv_v_16)⟩)) ?_
      refine DSteps.cons (j := 12) rfl (fun _ => rfl) (.run (fun γ ρ B hb hd => ⟨.yes rfl (ltB rfl) (hl hd 6 39 rfl) hc10, OpStep.at ⟨ρ, B, _⟩ (setO ⟨ρ, B, _⟩ _ _) (op_fieldAddrP lb tf33_1 (.tmp (hl hd 10 43 rfl)) (comp_law12_Act_A v_16))⟩)) ?_
      refine DSteps.cons (j := 13) rfl (fun _ => rfl) (.run (fun γ ρ B hb hd => ⟨.yes rfl (ltB rfl) (hl hd 6 39 rfl) hc10, OpStep.at ⟨ρ, B, _⟩ (setO ⟨ρ, B, _⟩ _ _) (op_loadPSg lb tS3 rfl (.tmp (hl hd 11 44 rfl)) rfl)⟩)) ?_
      refine DSteps.cons (j := 14) rfl (fun _ => rfl) (.run (fun γ ρ B hb hd => ⟨.yes rfl (ltB rfl) (hl hd 6 39 rfl) hc10, OpStep.at ⟨ρ, B, _⟩ (setO ⟨ρ, B, _⟩ _ _) (op_move lb (.tmp (hb 0 _ rfl)))⟩)) ?_
      refine DSteps.cons (j := 15) rfl (fun _ => rfl) (.run (fun γ ρ B hb hd => ⟨.yes rfl (ltB rfl) (hl hd 6 39 rfl) hc10, OpStep.at ⟨ρ, B, _⟩ (setO ⟨ρ, B, _⟩ _ _) (op_move lb (.tmp (hb 6 _ rfl)))⟩)) ?_
      refine DSteps.cons (j := 16) rfl (fun _ => rfl) (.run (fun γ ρ B hb hd => ⟨.yes rfl (ltB rfl) (hl hd 6 39 rfl) hc10, OpStep.at ⟨ρ, B, _⟩ (setO ⟨ρ, B, _⟩ _ _) (op_indexAddrLg lb tu22 tz33 (.tmp (hl hd 13 46 rfl)) (.tmp (hl hd 14 47 rfl)) hv_v_17)⟩)) ?_
      refine DSteps.cons (j := 17) rfl (fun _ => rfl) (.run (fun γ ρ B hb hd => ⟨.yes rfl (ltB rfl) (hl hd 6 39 rfl) hc10, OpStep.at ⟨ρ, B, _⟩ (setO ⟨ρ, B, _⟩ _ _) (op_fieldAddrP lb tf33_2 (.tmp (hl hd 15 48 rfl)) (comp_law12_Act_B v_17))⟩)) ?_
      refine DSteps.cons (j := 18) rfl (fun _ => rfl) (.run (fun γ ρ B hb hd => ⟨.yes rfl (ltB rfl) (hl hd 6 39 rfl) hc10, OpStep.at ⟨ρ, B, _⟩ (setO ⟨ρ, B, _⟩ _ _) (op_loadPSg lb tS3 rfl (.tmp (hl hd 16 49 rfl)) rfl)⟩)) ?_
      refine DSteps.cons (j := 19) rfl (fun _ => rfl) (.run (fun γ ρ B hb hd => ⟨.yes rfl (ltB rfl) (hl hd 6 39 rfl) hc10, OpStep.at ⟨ρ, B, _⟩ (setO ⟨ρ, B, _⟩ _ _) (op_move lb (.tmp (hb 0 _ rfl)))⟩)) ?_
      refine DSteps.cons (j := 20) rfl (fun _ => rfl) (.run (fun γ ρ B hb hd => ⟨.yes rfl (ltB rfl) (hl hd 6 39 rfl) hc10, OpStep.at ⟨ρ, B, _⟩ (setO ⟨ρ, B, _⟩ _ _) (op_move lb (.tmp (hb 6 _ rfl)))⟩)) ?_
      refine DSteps.cons (j := 21) rfl (fun _ => rfl) (.run (fun γ ρ B hb hd => ⟨.yes rfl (ltB rfl) (hl hd 6 39 rfl) hc10, OpStep.at ⟨ρ, B, _⟩ (setO ⟨ρ, B, _⟩ _ _) (op_indexAddrLg lb tu22 tz33 (.tmp (hl hd 18 51 rfl)) (.tmp (hl hd 19 52 rfl)) hv_v_18)⟩)) ?_
      refine DSteps.cons (j := 22) rfl (fun _ => rfl) (.run (fun γ ρ B hb hd => ⟨.yes rfl (ltB rfl) (hl hd 6 39 rfl) hc10, OpStep.at ⟨ρ, B, _⟩ (setO ⟨ρ, B, _⟩ _ _) (op_fieldAddrP lb tf33_3 (.tmp (hl hd 20 53 rfl)) (comp_law12_Act_Bytes v_18))⟩)) ?_
      refine DSteps.cons (j := 23) rfl (fun _ => rfl) (.run (fun γ ρ B hb hd => ⟨.yes rfl (ltB rfl) (hl hd 6 39 rfl) hc10, OpStep.at ⟨ρ, B, _⟩ (setO ⟨ρ, B, _⟩ _ _) (op_loadPSg lb tS31 rfl (.tmp (hl hd 21 54 rfl)) rfl)⟩)) ?_
      refine DSteps.cons (j := 24) rfl (fun _ => rfl) (.run (fun γ ρ B hb hd => ⟨.yes rfl (ltB rfl) (hl hd 6 39 rfl) hc10, OpStep.at ⟨ρ, (cvar gb_4 (rP (rW (MPV go_5)) (rP (rI .i64) (rP (rI .i64) r0))) ((), ((4 : Int), (lost_8, ())))) :: (cmap go_5 (A r_net_pair) (S (rL (rL (rU UInt8)))) (some x_7)) :: B, _⟩ (setO ⟨ρ, (cvar gb_4 (rP (rW (MPV go_5)) (rP (rI .i64) (rP (rI .i64) r0))) ((), ((4 : Int), (x_21, ())))) :: (cmap go_5 (A r_net_pair) (S (rL (rL (rU UInt8)))) (some (x_20))) :: B, _⟩ _ _) ((op_call (js := [0, 0]) ld cl13 (sim_net_Net_Send k v_16.A v_17.B v_18.Bytes (4 : Int) lost_8 x_7 gb_4 go_5 (v_19, x_20, x_21) hv_v_19) .func (.cons (.tmp (hl hd 7 40 rfl)) (.cons (.tmp (hl hd 12 45 rfl)) (.cons (.tmp (hl hd 17 50 rfl)) (.cons (.tmp (hl hd 22 55 rfl)) .nil)))) rfl).post (fun _ => Imp.refl))⟩)) ?_
      refine DSteps.cons (j := 25) rfl (fun _ => rfl) (.run (fun γ ρ B hb hd => ⟨.yes rfl (ltB rfl) (hl hd 6 39 rfl) hc10, OpStep.at ⟨ρ, B, _⟩ (setO ⟨ρ, B, _⟩ _ _) ((op_call (js := []) ld cl12 (sim_law12_num k v_19 () hv_u_22) .func (.cons (.tmp (hl hd 23 56 rfl)) .nil) rfl).post (fun _ => Imp.refl))⟩)) ?_
      refine DSteps.cons (j := 26) rfl (fun _ => rfl) (.run (fun γ ρ B hb hd => ⟨.yes rfl (ltB rfl) (hl hd 6 39 rfl) hc10, OpStep.at ⟨ρ, B, _⟩ (setO ⟨ρ, B, _⟩ _ _) (op_cmpI lb (.tmp (hl hd 24 57 rfl)) .cI (congrArg some hv_v_23))⟩)) ?_
      refine dS 27 (fun γ ρ B hb hd => op_pickT lb (.tmp (hl hd 6 39 rfl)) hc10 (.tmp (hl hd 25 58 rfl))) ?_
      exact DSteps.nil)
                       (by decide +kernel) (fun _ => rfl) rfl (fun _ => rfl) (fun _ => rfl) rfl (by decide) (by decide) (by decide +kernel) (fun _ d h => by cases h)
                       (ρ' := fun γ => [(0, ov (S (rL r_law12_Act) t_1)), (3, ov (PTR gb_4 0)), (5, ov (HDR go_11 0 (List.length x_9) gc_12)), (6, ov (S (rI .i64) x_10)), (59, ov (S rB v_23))])
                       (X' := fun γ => [cown go_11 r_api_Flight x_9 0 gc_12, cvar gb_4 (rP (rW (MPV go_5)) (rP (rI .i64) (rP (rI .i64) r0))) ((), ((4 : Int), (x_21, ()))), cmap go_5 (A r_net_pair) (S (rL (rL (rU UInt8)))) (some (x_20))])
                       (fun γ ρ hb hd => (.cons (hb 0 _ rfl (by decide)) (.cons (hb 3 _ rfl (by decide)) (.cons (hb 5 _ rfl (by decide)) (.cons (hb 6 _ rfl (by decide)) (.cons (hdq hd 26 59 rfl) .nil)))))) (fun _ => rfl) (fun γ => ?_)
                   refine JQ.at ⟨[(0, ov (S (rL r_law12_Act) t_1)), (3, ov (PTR gb_4 0)), (5, ov (HDR go_11 0 (List.length x_9) gc_12)), (6, ov (S (rI .i64) x_10)), (59, ov (S rB v_23))], [cown go_11 r_api_Flight x_9 0 gc_12, cvar gb_4 (rP (rW (MPV go_5)) (rP (rI .i64) (rP (rI .i64) r0))) ((), ((4 : Int), (x_21, ()))), cmap go_5 (A r_net_pair) (S (rL (rL (rU UInt8)))) (some (x_20))], []⟩ ?_
                   replace hx8 := Option.some.inj hx8
                   replace hx8 := Prod.mk.inj hx8
                   obtain ⟨hx8_a, hx8⟩ := hx8
                   first | subst hx8_a | clear hx8_a
                   replace hx8 := Prod.mk.inj hx8
                   obtain ⟨hx8_a, hx8⟩ := hx8
                   first | subst hx8_a | clear hx8_a
                   first | subst hx8 | clear hx8
                   exact JQ.join () (Imp.norm (js := [1, 1, 0]) rfl (.cons rfl (.cons rfl (.cons rfl (.cons rfl (.cons rfl .nil))))))
                 · refine JC.anyE (kl := []) (kk := 0) (base := [(0, ov (S (rL r_law12_Act) t_1)), (3, ov (PTR gb_4 0)), (5, ov (HDR go_11 0 (List.length x_9) gc_12)), (6, ov (S (rI .i64) x_10))])
                       (fs := fun γ => [⟨some 33, ov (S (rL r_law12_Act) t_1)⟩, ⟨some 34, ov (S (rI .i64) x_10)⟩, ⟨some 35, ov (PT r_law12_Act v_14)⟩, ⟨some 36, ov (PT (rI .i64) v_14.Kind)⟩, ⟨some 37, ov (S (rI .i64) v_14.Kind)⟩, ⟨some 38, ov (S rB v_15)⟩, ⟨some 39, ov (S rB v_15)⟩, ⟨some 40, .one .und⟩, ⟨some 41, .one .und⟩, ⟨some 42, .one .und⟩, ⟨some 43, .one .und⟩, ⟨some 44, .one .und⟩, ⟨some 45, .one .und⟩, ⟨some 46, .one .und⟩, ⟨some 47, .one .und⟩, ⟨some 48, .one .und⟩, ⟨some 49, .one .und⟩, ⟨some 50, .one .und⟩, ⟨some 51, .one .und⟩, ⟨some 52, .one .und⟩, ⟨some 53, .one .und⟩, ⟨some 54, .one .und⟩, ⟨some 55, .one .und⟩, ⟨some 56, .one .und⟩, ⟨some 57, .one .und⟩, ⟨some 58, .one .und⟩, ⟨some 59, ov (S rB false)⟩])
                       (rs := fun γ => [⟨cvar gb_4 (rP (rW (MPV go_5)) (rP (rI .i64) (rP (rI .i64) r0))) ((), ((4 : Int), (lost_8, ()))), none, none, []⟩, ⟨cmap go_5 (A r_net_pair) (S (rL (rL (rU UInt8)))) (some x_7), none, none, []⟩, ⟨cown go_11 r_api_Flight x_9 0 gc_12, none, none, []⟩])
                       (ds := [33, 34, 35, 36, 37, 38, 39, 40, 41, 42, 43, 44, 45, 46, 47, 48, 49, 50, 51, 52, 53, 54, 55, 56, 57, 58, 59]) (bs := [0, 3, 5, 6]) (afts := [[], [], [], [], [], [], [], [], [], [], [], [], [], [], [], [], [], [], [], [], [], [], [], [], [], [], []]) (js := [0, 0, 0]) mixed (.cons rfl (.cons rfl (.cons rfl (.cons rfl .nil)))) (fun _ => rfl)
                       (by
      refine dS 1 (fun γ ρ B hb hd => op_move lb (.tmp (hb 0 _ rfl))) ?_
      refine dS 2 (fun γ ρ B hb hd => op_move lb (.tmp (hb 6 _ rfl))) ?_
      refine dS 3 (fun γ ρ B hb hd => op_indexAddrLg lb tu22 tz33 (.tmp (hl hd 0 33 rfl)) (.tmp (hl hd 1 34 rfl)) hv_v_14) ?_
      refine dS 4 (fun γ ρ B hb hd => op_fieldAddrP lb tf33_0 (.tmp (hl hd 2 35 rfl)) (comp_law12_Act_Kind v_14)) ?_
      refine dS 5 (fun γ ρ B hb hd => op_loadPSg lb tS3 rfl (.tmp (hl hd 3 36 rfl)) rfl) ?_
      refine dS 6 (fun γ ρ B hb hd => op_cmpI lb (.tmp (hl hd 4 37 rfl)) .cI (congrArg some hv_v_15)) ?_
      refine dS 7 (fun γ ρ B hb hd => op_move lb (.tmp (hl hd 5 38 rfl))) ?_
      refine DSteps.cons (j := 8) rfl (fun _ => rfl) (.skip (fun γ ρ B hb hd => ⟨.no rfl (ltB rfl) (hl hd 6 39 rfl) hc10, rfl, rfl, rfl, fun d h => by cases h; exact ltB rfl⟩)) ?_
      refine DSteps.cons (j := 9) rfl (fun _ => rfl) (.skip (fun γ ρ B hb hd => ⟨.no rfl (ltB rfl) (hl hd 6 39 rfl) hc10, rfl, rfl, rfl, fun d h => by cases h; exact ltB rfl⟩)) ?_
      refine DSteps.cons (j := 10) rfl (fun _ => rfl) (.skip (fun γ ρ B hb hd => ⟨.no rfl (ltB rfl) (hl hd 6 39 rfl) hc10, rfl, rfl, rfl, fun d h => by cases h; exact ltB rfl⟩)) ?_
      refine DSteps.cons (j := 11) rfl (fun _ => rfl) (.skip (fun γ ρ B hb hd => ⟨.no rfl (ltB rfl) (hl hd 6 39 rfl) hc10, rfl, rfl, rfl, fun d h => by cases h; exact ltB rfl⟩)) ?_
      refine DSteps.cons (j := 12) rfl (fun _ => rfl) (.skip (fun γ ρ B hb hd => ⟨.no rfl (ltB rfl) (hl hd 6 39 rfl) hc10, rfl, rfl, rfl, fun d h => by cases h; exact ltB rfl⟩)) ?_
      refine DSteps.cons (j := 13) rfl (fun _ => rfl) (.skip (fun γ ρ B hb hd => ⟨.no rfl (ltB rfl) (hl hd 6 39 rfl) hc10, rfl, rfl, rfl, fun d h => by cases h; exact ltB rfl⟩)) ?_
      refine DSteps.cons (j := 14) rfl (fun _ => rfl) (.skip (fun γ ρ B hb hd => ⟨.no rfl (ltB rfl) (hl hd 6 39 rfl) hc10, rfl, rfl, rfl, fun d h => by cases h; exact ltB rfl⟩)) ?_
      refine DSteps.cons (j := 15) rfl (fun _ => rfl) (.skip (fun γ ρ B hb hd => ⟨.no rfl (ltB rfl) (hl hd 6 39 rfl) hc10, rfl, rfl, rfl, fun d h => by cases h; exact ltB rfl⟩)) ?_
      refine DSteps.cons (j := 16) rfl (fun _ => rfl) (.skip (fun γ ρ B hb hd => ⟨.no rfl (ltB rfl) (hl hd 6 39 rfl) hc10, rfl, rfl, rfl, fun d h => by cases h; exact ltB rfl⟩)) ?_
      refine DSteps.cons (j := 17) rfl (fun _ => rfl) (.skip (fun γ ρ B hb hd => ⟨.no rfl (ltB rfl) (hl hd 6 39 rfl) hc10, rfl, rfl, rfl, fun d h => by cases h; exact ltB rfl⟩)) ?_
      refine DSteps.cons (j := 18) rfl (fun _ => rfl) (.skip (fun γ ρ B hb hd => ⟨.no rfl (ltB rfl) (hl hd 6 39 rfl) hc10, rfl, rfl, rfl, fun d h => by cases h; exact ltB rfl⟩)) ?_
      refine DSteps.cons (j := 19) rfl (fun _ => rfl) (.skip (fun γ ρ B hb hd => ⟨.no rfl (ltB rfl) (hl hd 6 39 rfl) hc10, rfl, rfl, rfl, fun d h => by cases h; exact ltB rfl⟩)) ?_
      refine DSteps.cons (j := 20) rfl (fun _ => rfl) (.skip (fun γ ρ B hb hd => ⟨.no rfl (ltB rfl) (hl hd 6 39 rfl) hc10, rfl, rfl, rfl, fun d h => by cases h; exact ltB rfl⟩)) ?_
      refine DSteps.cons (j := 21) rfl (fun _ => rfl) (.skip (fun γ ρ B hb hd => ⟨.no rfl (ltB rfl) (hl hd 6 39 rfl) hc10, rfl, rfl, rfl, fun d h => by cases h; exact ltB rfl⟩)) ?_
      refine DSteps.cons (j := 22) rfl (fun _ => rfl) (.skip (fun γ ρ B hb hd => ⟨.no rfl (ltB rfl) (hl hd 6 39 rfl) hc10, rfl, rfl, rfl, fun d h => by cases h; exact ltB rfl⟩)) ?_
      refine DSteps.cons (j := 23) rfl (fun _ => rfl) (.skip (fun γ ρ B hb hd => ⟨.no rfl (ltB rfl) (hl hd 6 39 rfl) hc10, rfl, rfl, rfl, fun d h => by cases h; exact ltB rfl⟩)) ?_
      refine DSteps.cons (j := 24) rfl (fun _ => rfl) (.skip (fun γ ρ B hb hd => ⟨.no rfl (ltB rfl) (hl hd 6 39 rfl) hc10, rfl, rfl, rfl, fun d h => by cases h; exact ltB rfl⟩)) ?_
      refine DSteps.cons (j := 25) rfl (fun _ => rfl) (.skip (fun γ ρ B hb hd => ⟨.no rfl (ltB rfl) (hl hd 6 39 rfl) hc10, rfl, rfl, rfl, fun d h => by cases h; exact ltB rfl⟩)) ?_
      refine DSteps.cons (j := 26) rfl (fun _ => rfl) (.skip (fun γ ρ B hb hd => ⟨.no rfl (ltB rfl) (hl hd 6 39 rfl) hc10, rfl, rfl, rfl, fun d h => by cases h; exact ltB rfl⟩)) ?_
      refine dS 27 (fun γ ρ B hb hd => op_pickF lb (.tmp (hl hd 6 39 rfl)) hc10 .cB) ?_
      exact DSteps.nil)
                       (by decide +kernel) (fun _ => rfl) rfl (fun _ => rfl) (fun _ => rfl) rfl (by decide) (by decide) (by decide +kernel) (fun _ d h => by cases h)
                       (ρ' := fun γ => [(0, ov (S (rL r_law12_Act) t_1)), (3, ov (PTR gb_4 0)), (5, ov (HDR go_11 0 (List.length x_9) gc_12)), (6, ov (S (rI .i64) x_10)), (59, ov (S rB false))])
                       (X' := fun γ => [cvar gb_4 (rP (rW (MPV go_5)) (rP (rI .i64) (rP (rI .i64) r0))) ((), ((4 : Int), (lost_8, ()))), cmap go_5 (A r_net_pair) (S (rL (rL (rU UInt8)))) (some x_7), cown go_11 r_api_Flight x_9 0 gc_12])
                       (fun γ ρ hb hd => (.cons (hb 0 _ rfl (by decide)) (.cons (hb 3 _ rfl (by decide)) (.cons (hb 5 _ rfl (by decide)) (.cons (hb 6 _ rfl (by decide)) (.cons (hdq hd 26 59 rfl) .nil)))))) (fun _ => rfl) (fun γ => ?_)
                   refine JQ.at ⟨[(0, ov (S (rL r_law12_Act) t_1)), (3, ov (PTR gb_4 0)), (5, ov (HDR go_11 0 (List.length x_9) gc_12)), (6, ov (S (rI .i64) x_10)), (59, ov (S rB false))], [cvar gb_4 (rP (rW (MPV go_5)) (rP (rI .i64) (rP (rI .i64) r0))) ((), ((4 : Int), (lost_8, ()))), cmap go_5 (A r_net_pair) (S (rL (rL (rU UInt8)))) (some x_7), cown go_11 r_api_Flight x_9 0 gc_12], []⟩ ?_
                   replace hx8 := Option.some.inj hx8
                   replace hx8 := Prod.mk.inj hx8
                   obtain ⟨hx8_a, hx8⟩ := hx8
                   first | subst hx8_a | clear hx8_a
                   replace hx8 := Prod.mk.inj hx8
                   obtain ⟨hx8_a, hx8⟩ := hx8
                   first | subst hx8_a | clear hx8_a
                   first | subst hx8 | clear hx8
                   exact JQ.join () (Imp.norm (js := [0, 0, 0]) rfl (.cons rfl (.cons rfl (.cons rfl (.cons rfl (.cons rfl .nil))))))
           · refine JC.condF (.tmp rfl) hc6 ?_
             refine JC.exit ?_
             refine JQ.outX ?_
             replace hx := Option.some.inj hx
             first | subst hx | clear hx
             have ht := hr _ rfl
             have hq5 := congrArg some ht
             clear hr ht
             refine JQ.outX ?_
             refine JQ.here ?_
             replace hq5 := Option.some.inj hq5
             replace hq5 := Prod.mk.inj hq5
             obtain ⟨hq5_a, hq5⟩ := hq5
             first | subst hq5_a | clear hq5_a
             replace hq5 := Prod.mk.inj hq5
             obtain ⟨hq5_a, hq5⟩ := hq5
             first | subst hq5_a | clear hq5_a
             first | subst hq5 | clear hq5
             exact JQ.join (go_11, gc_12) (Imp.norm (js := [0, 0, 0]) rfl (.cons rfl (.cons rfl .nil)))
     · refine JC.region ?_
       refine jc (op_move lb (.tmp rfl)) ?_
       refine JL.sub ⟨[(0, ov (S (rL r_law12_Act) t_1)), (3, ov (PTR gb_4 0)), (4, ov (S (rI .i64) (0 : Int))), (20, ov (PTR gb_4 0))], [cvar gb_4 (rP (rW (MPV go_5)) (rP (rI .i64) (rP (rI .i64) r0))) ((), ((4 : Int), ((0 : Int), ()))), cmap go_5 (A r_net_pair) (S (rL (rL (rU UInt8)))) (some ([] : (List (net_pair × (List (List UInt8))))))], []⟩ (.cons rfl (.cons rfl (.cons rfl (.cons rfl .nil)))) rfl rfl ?_
       refine jc (op_nilP (neg := false) lb tu25 (.tmp rfl) (HasO.const (p := PTO none) fun _ => rfl)) ?_
       refine jc (op_move lb (.tmp rfl)) ?_
       refine JL.run (.yes rfl (ltB rfl) rfl rfl) (op_move lb (.tmp rfl)) ?_
       replace hx3 := bnd_inv hx3
       obtain ⟨_, hv_u_6, hx3⟩ := hx3
       refine JL.runX (.yes rfl (ltB rfl) rfl rfl) (op_call (js := []) ld cl12 (sim_law12_num k (0 : Int) () hv_u_6) .func (.cons (.tmp rfl) .nil) rfl) (fun _ => ?_)
       refine JL.run (.yes rfl (ltB rfl) rfl rfl) (op_cmpI lb (.tmp rfl) .cI (congrArg some (by decide : ((0 : Int) != (0 : Int)) = false))) ?_
       refine jc (op_pickF lb (.tmp rfl) rfl (.tmp rfl)) ?_
       refine JL.nil ?_
       exact JQ.join () (Imp.norm (js := [0, 0]) rfl (.cons rfl (.cons rfl (.cons rfl .nil))))
   · obtain _ := ts2
     dsimp only at hm
     refine jx (op_call (js := []) ld cl11 (sim_net_New_v1 k (4 : Int) () hs2) .func (.cons .cI .nil) rfl) (fun _ => ?_)
     refine jc (op_move lb (.tmp rfl)) ?_
     refine jc (op_extract (i := 0) lb (.tmp rfl) rfl) ?_
     refine jc (op_extract (i := 1) lb (.tmp rfl) rfl) ?_
     refine jc (op_assign lb (.tmp rfl)) ?_
     refine jc (op_assign lb (.tmp rfl)) ?_
     refine JL.nil ?_
     refine JQ.then ?_
     refine JC.seq ?_
     replace hm := bnd_inv hm
     obtain ⟨_, hx36, hq36⟩ := hm
     refine JC.seqJ (γ := Unit) (stj := fun q => ⟨[(0, ov (S (rL r_law12_Act) t_1)), (3, ov (PTO none)), (26, ov (S rB true))], [], []⟩) (fun q => ?_) ?_
     · obtain _ := q
       refine JC.at ⟨[(0, ov (S (rL r_law12_Act) t_1)), (3, ov (PTO none)), (26, ov (S rB true))], [], []⟩ ?_
       refine JC.condT (.tmp rfl) rfl ?_
       refine JC.seq ?_
       refine JC.region ?_
       refine jc (op_assign lb .cB) ?_
       refine JL.nil ?_
       refine JQ.then ?_
       refine JC.ret ?_
       refine JQ.outR ?_
       replace hq36 := Option.some.inj hq36
       subst hq36
       exact JQ.done (js := []) (ss := [.val (S rB false)]) () (.inl rfl) (.nil rfl) rfl (.cons (.tmp rfl) .nil) rfl rfl rfl
     · refine JC.region ?_
       refine jc (op_move lb (.tmp rfl)) ?_
       refine JL.sub ⟨[(0, ov (S (rL r_law12_Act) t_1)), (3, ov (PTO none)), (4, ov (S (rI .i64) (2 : Int))), (20, ov (PTO none))], [], []⟩ (.cons rfl (.cons rfl (.cons rfl (.cons rfl .nil)))) rfl rfl ?_
       refine jc (op_nilO (neg := false) (ob := none) lb tu25 (.tmp rfl) (HasO.const (p := PTO none) fun _ => rfl) rfl) ?_
       refine jc (op_move lb (.tmp rfl)) ?_
       refine JL.skip (.no rfl (ltB rfl) rfl rfl) (fun d h => by cases h; exact ltB rfl) ?_
       refine JL.skip (.no rfl (ltB rfl) rfl rfl) (fun d h => by cases h; exact ltB rfl) ?_
       refine JL.skip (.no rfl (ltB rfl) rfl rfl) (fun d h => by cases h; exact ltB rfl) ?_
       refine jc (op_pickT lb (.tmp rfl) rfl .cB) ?_
       refine JL.nil ?_
       exact JQ.join () (Imp.norm (js := []) rfl (.cons rfl (.cons rfl (.cons rfl .nil))))

end Go.Proofs.Ytnadeehdnmgebaa
