/- Walks. -/
import Derived.Test.YtnadeehdnmgebaaT
import Derived.Test.YtnadeehdnmgebaaW0
import Derived.Test.YtnadeehdnmgebaaW10
import Derived.Test.YtnadeehdnmgebaaW14
import Derived.Test.YtnadeehdnmgebaaW4
import Derived.Test.YtnadeehdnmgebaaW5
import Derived.Test.YtnadeehdnmgebaaW6
namespace Go.Proofs.Ytnadeehdnmgebaa
open Go Fw
set_option linter.unusedVariables false
set_option maxRecDepth 100000
set_option maxHeartbeats 4000000

theorem sim_law12_NetLines (k : Nat) (t_1 : (List law12_Act)) (a_2 : Int) (r : Bool) (hm : law12_NetLines k t_1 a_2 = some r) : Sim Try.prog 5 [S (rL r_law12_Act) t_1, S (rI .i64) a_2] [] (γ := Unit) (fun q => []) (fun q => .one (.val (S rB r))) := by
 unfold law12_NetLines at hm
 refine Sim.of Try.func5 rfl rfl (Nat.le_of_ble_eq_true rfl) (fun e0 w0 => ?_)
 refine JC.at ⟨[(0, ov (S (rL r_law12_Act) t_1)), (1, ov (S (rI .i64) a_2))], [], []⟩ ?_
 refine JC.seq ?_
 refine JC.region ?_
 refine jc (op_assign lb .cB) ?_
 refine JL.nil ?_
 refine JQ.then ?_
 refine JC.seq ?_
 refine JC.seq ?_
 refine JC.region ?_
 refine jc (op_move lb (.tmp rfl)) ?_
 replace hm := bnd_inv hm
 obtain ⟨v_3, hv_v_3, hm⟩ := hm
 refine jx (op_call (js := []) ld cl10 (sim_law12_much k t_1 v_3 hv_v_3) .func (.cons (.tmp rfl) .nil) rfl) (fun _ => ?_)
 refine JL.nil ?_
 refine JQ.then ?_
 replace hm := iteB_inv hm
 rcases hm with ⟨hc1, hm⟩ | ⟨hc1, hm⟩
 · refine JC.condT (.tmp rfl) hc1 ?_
   refine JC.seq ?_
   refine JC.region ?_
   replace hm := bnd_inv hm
   obtain ⟨v_4, hv_v_4, hm⟩ := hm
   refine jx (op_call (js := []) ld cl9 (sim_law12_known'2 k v_4 hv_v_4) .func .nil rfl) (fun _ => ?_)
   refine jc (op_assign lb (.tmp rfl)) ?_
   refine JL.nil ?_
   refine JQ.then ?_
   refine JC.ret ?_
   refine JQ.outR ?_
   replace hm := Option.some.inj hm
   subst hm
   exact JQ.done (js := []) (ss := [.val (S rB v_4)]) () (.inl rfl) (.nil rfl) rfl (.cons (.tmp rfl) .nil) rfl rfl rfl
 · refine JC.condF (.tmp rfl) hc1 ?_
   refine JC.skip ?_
   refine JQ.then ?_
   refine JC.seq ?_
   refine JC.region ?_
   replace hm := bnd_inv hm
   obtain ⟨ts2, hs2, hm⟩ := hm
   rcases ts2 with ts2 | ts2
   · obtain _ := ts2
     dsimp only at hm
     refine jx (op_call (js := []) ld cl11 (sim_net_New_v0 k (4 : Int) () hs2) .func (.cons .cI .nil) rfl) (fun q => ?_)
     obtain ⟨gb_5, go_6⟩ := q
     refine jc (op_move lb (.tmp rfl)) ?_
     refine jc (op_extract (i := 0) lb (.tmp rfl) rfl) ?_
     refine jc (op_extract (i := 1) lb (.tmp rfl) rfl) ?_
     refine jc (op_assign lb (.tmp rfl)) ?_
     refine jc (op_assign lb (.tmp rfl)) ?_
     refine JL.nil ?_
     refine JQ.then ?_
     refine JC.seq ?_
     refine JC.region ?_
     refine jc (op_build lb tZ43 zr43 tp43 (.S (off := 1) rfl .cI rfl ((UpdR.snd (UpdR.fst (UpdR.self (by rfl)))).at (by rfl)) .nil) rfl) ?_
     refine JL.sub ⟨[(0, ov (S (rL r_law12_Act) t_1)), (1, ov (S (rI .i64) a_2)), (5, ov (PTR gb_5 0)), (6, ov (S (rI .i64) (0 : Int))), (23, ov (A (rP (rW (HDR none 0 0 0)) (rP (rI .i64) (rP (rI .i64) r0))) ((), ((4 : Int), ((0 : Int), ())))))], [cvar gb_5 (rP (rW (MPV go_6)) (rP (rI .i64) (rP (rI .i64) r0))) ((), ((4 : Int), ((0 : Int), ()))), cmap go_6 (A r_net_pair) (S (rL (rL (rU UInt8)))) (some ([] : (List (net_pair × (List (List UInt8))))))], []⟩ (.cons rfl (.cons rfl (.cons rfl (.cons rfl (.cons rfl .nil))))) rfl rfl ?_
     refine jx (op_boxA lb (.tmp rfl)) (fun q => ?_)
     obtain ⟨gb_7, hqq⟩ : ∃ z, z = q := ⟨_, rfl⟩
     subst hqq
     refine jc (op_assign lb (.tmp rfl)) ?_
     refine JL.nil ?_
     refine JQ.then ?_
     refine JC.seq ?_
     replace hm := bnd_inv hm
     obtain ⟨_, hx3, hq3⟩ := hm
     refine JC.seqJ (γ := Unit) (stj := fun q => ⟨[(0, ov (S (rL r_law12_Act) t_1)), (1, ov (S (rI .i64) a_2)), (5, ov (PTR gb_5 0)), (7, ov (PTR gb_7 0)), (31, ov (S rB false))], [cvar gb_5 (rP (rW (MPV go_6)) (rP (rI .i64) (rP (rI .i64) r0))) ((), ((4 : Int), ((0 : Int), ()))), cmap go_6 (A r_net_pair) (S (rL (rL (rU UInt8)))) (some ([] : (List (net_pair × (List (List UInt8)))))), cvar gb_7 (rP (rW (HDR none 0 0 0)) (rP (rI .i64) (rP (rI .i64) r0))) ((), ((4 : Int), ((0 : Int), ())))], []⟩) (fun q => ?_) ?_
     · obtain _ := q
       refine JC.at ⟨[(0, ov (S (rL r_law12_Act) t_1)), (1, ov (S (rI .i64) a_2)), (5, ov (PTR gb_5 0)), (7, ov (PTR gb_7 0)), (31, ov (S rB false))], [cvar gb_5 (rP (rW (MPV go_6)) (rP (rI .i64) (rP (rI .i64) r0))) ((), ((4 : Int), ((0 : Int), ()))), cmap go_6 (A r_net_pair) (S (rL (rL (rU UInt8)))) (some ([] : (List (net_pair × (List (List UInt8)))))), cvar gb_7 (rP (rW (HDR none 0 0 0)) (rP (rI .i64) (rP (rI .i64) r0))) ((), ((4 : Int), ((0 : Int), ())))], []⟩ ?_
       refine JC.condF (.tmp rfl) rfl ?_
       refine JC.skip ?_
       refine JQ.then ?_
       replace hq3 := bnd_inv hq3
       obtain ⟨tv4, hx4, hq4⟩ := hq3
       refine JC.seqK (α := (List (net_pair × (List (List UInt8)))) × Int) (γ := Unit) (stj := fun v q => ⟨[(1, ov (S (rI .i64) a_2)), (5, ov (PTR gb_5 0))], [cvar gb_5 (rP (rW (MPV go_6)) (rP (rI .i64) (rP (rI .i64) r0))) ((), ((4 : Int), (v.2, ()))), cmap go_6 (A r_net_pair) (S (rL (rL (rU UInt8)))) (some v.1)], []⟩) (p := fun v => tv4 = (.inl v)) (fun v q hv => ?_) ?_
       · subst hv
         obtain ⟨x_29, lost_30⟩ := v
         obtain _ := q
         dsimp only at hq4
         refine JC.at ⟨[(1, ov (S (rI .i64) a_2)), (5, ov (PTR gb_5 0))], [cvar gb_5 (rP (rW (MPV go_6)) (rP (rI .i64) (rP (rI .i64) r0))) ((), ((4 : Int), (lost_30, ()))), cmap go_6 (A r_net_pair) (S (rL (rL (rU UInt8)))) (some x_29)], []⟩ ?_
         refine JC.seq ?_
         refine JC.region ?_
         refine jc (op_assign lb .cI) ?_
         refine JL.nil ?_
         refine JQ.then ?_
         refine JC.seq ?_
         refine JC.region ?_
         refine jc (op_assign lb .cI) ?_
         refine JL.nil ?_
         refine JQ.then ?_
         replace hq4 := bnd_inv hq4
         obtain ⟨tv8, hx8, hq8⟩ := hq4
         refine JC.seqK (α := Int × Int) (γ := Unit) (stj := fun v q => ⟨[(1, ov (S (rI .i64) a_2)), (5, ov (PTR gb_5 0)), (9, ov (S (rI .i64) v.1)), (10, ov (S (rI .i64) v.2))], [cvar gb_5 (rP (rW (MPV go_6)) (rP (rI .i64) (rP (rI .i64) r0))) ((), ((4 : Int), (lost_30, ()))), cmap go_6 (A r_net_pair) (S (rL (rL (rU UInt8)))) (some x_29)], []⟩) (p := fun v => tv8 = (.inl v)) (fun v q hv => ?_) ?_
         · subst hv
           obtain ⟨x_61, x_62⟩ := v
           obtain _ := q
           dsimp only at hq8
           refine JC.at ⟨[(1, ov (S (rI .i64) a_2)), (5, ov (PTR gb_5 0)), (9, ov (S (rI .i64) x_61)), (10, ov (S (rI .i64) x_62))], [cvar gb_5 (rP (rW (MPV go_6)) (rP (rI .i64) (rP (rI .i64) r0))) ((), ((4 : Int), (lost_30, ()))), cmap go_6 (A r_net_pair) (S (rL (rL (rU UInt8)))) (some x_29)], []⟩ ?_
           refine JC.seq ?_
           refine JC.seq ?_
           refine JC.region ?_
           refine jc (op_move lb (.tmp rfl)) ?_
           refine jc (op_move lb (.tmp rfl)) ?_
           replace hq8 := bnd_inv hq8
           obtain ⟨v_63, hv_v_63, hq8⟩ := hq8
           refine jx (op_call (js := [0, 0]) ld cl16 (sim_net_Net_Len k (4 : Int) lost_30 x_29 gb_5 go_6 v_63 hv_v_63) .func (.cons (.tmp rfl) .nil) rfl) (fun _ => ?_)
           replace hq8 := lt1_inv hq8
           obtain ⟨v_64, hv_v_64, hq8⟩ := hq8
           refine jc (op_cmpI lb (.tmp rfl) (.tmp rfl) (congrArg some hv_v_64)) ?_
           refine JL.nil ?_
           refine JQ.then ?_
           replace hq8 := iteB_inv hq8
           rcases hq8 with ⟨hc30, hq8⟩ | ⟨hc30, hq8⟩
           · refine JC.condT (.tmp rfl) hc30 ?_
             refine JC.seq ?_
             refine JC.region ?_
             refine jc (op_assign lb .cB) ?_
             refine JL.nil ?_
             refine JQ.then ?_
             refine JC.ret ?_
             refine JQ.outR ?_
             replace hq8 := Option.some.inj hq8
             subst hq8
             exact JQ.done (js := []) (ss := [.val (S rB false)]) () (.inl rfl) (.nil rfl) rfl (.cons (.tmp rfl) .nil) rfl rfl rfl
           · refine JC.condF (.tmp rfl) hc30 ?_
             refine JC.skip ?_
             refine JQ.then ?_
             refine JC.seq ?_
             refine JC.region ?_
             refine jc (op_move lb (.tmp rfl)) ?_
             refine jc (op_move lb (.tmp rfl)) ?_
             replace hq8 := bnd_inv hq8
             obtain ⟨⟨v_65, x_66⟩, hv_v_65, hq8⟩ := hq8
             refine jx (op_call (js := [0, 0]) ld cl20 (sim_net_Net_Clear k a_2 (4 : Int) lost_30 x_29 gb_5 go_6 (v_65, x_66) hv_v_65) .func (.cons (.tmp rfl) (.cons (.tmp rfl) .nil)) rfl) (fun _ => ?_)
             refine jc (op_assign lb (.tmp rfl)) ?_
             refine JL.nil ?_
             refine JQ.then ?_
             replace hq8 := bnd_inv hq8
             obtain ⟨tv31, hx31, hq31⟩ := hq8
             refine JC.seqK (α := Unit) (γ := Unit) (stj := fun v q => ⟨[(5, ov (PTR gb_5 0)), (9, ov (S (rI .i64) x_61)), (10, ov (S (rI .i64) x_62)), (14, ov (S (rI .i64) v_65))], [cvar gb_5 (rP (rW (MPV go_6)) (rP (rI .i64) (rP (rI .i64) r0))) ((), ((4 : Int), (lost_30, ()))), cmap go_6 (A r_net_pair) (S (rL (rL (rU UInt8)))) (some (x_66))], []⟩) (p := fun v => tv31 = (.inl v)) (fun v q hv => ?_) ?_
             · subst hv
               skip
               obtain _ := q
               dsimp only at hq31
               refine JC.at ⟨[(5, ov (PTR gb_5 0)), (9, ov (S (rI .i64) x_61)), (10, ov (S (rI .i64) x_62)), (14, ov (S (rI .i64) v_65))], [cvar gb_5 (rP (rW (MPV go_6)) (rP (rI .i64) (rP (rI .i64) r0))) ((), ((4 : Int), (lost_30, ()))), cmap go_6 (A r_net_pair) (S (rL (rL (rU UInt8)))) (some (x_66))], []⟩ ?_
               replace hq31 := bnd_inv hq31
               obtain ⟨x_78, hx35, hq35⟩ := hq31
               refine JC.seqJ (γ := Unit) (stj := fun q => ⟨[(4, ov (S rB x_78))], [], []⟩) (fun q => ?_) ?_
               · obtain _ := q
                 refine JC.at ⟨[(4, ov (S rB x_78))], [], []⟩ ?_
                 refine JC.ret ?_
                 replace hq35 := Option.some.inj hq35
                 subst hq35
                 exact JQ.done (js := []) (ss := [.val (S rB x_78)]) () (.inl rfl) (.nil rfl) rfl (.cons (.tmp rfl) .nil) rfl rfl rfl
               · refine JC.region ?_
                 refine jc (op_move lb (.tmp rfl)) ?_
                 refine jc (op_move lb (.tmp rfl)) ?_
                 replace hx35 := lt1_inv hx35
                 obtain ⟨v_72, hv_v_72, hx35⟩ := hx35
                 refine jc (op_cmpI lb (.tmp rfl) (.tmp rfl) (congrArg some hv_v_72)) ?_
                 refine jc (op_move lb (.tmp rfl)) ?_
                 replace hx35 := iteB_inv hx35
                 rcases hx35 with ⟨hc37, hx35⟩ | ⟨hc37, hx35⟩
                 · refine JL.run (.yes rfl (ltB rfl) rfl hc37) (op_move lb (.tmp rfl)) ?_
                   replace hx35 := bnd_inv hx35
                   obtain ⟨v_73, hv_v_73, hx35⟩ := hx35
                   refine JL.runX (.yes rfl (ltB rfl) rfl hc37) (op_call (js := [0, 0]) ld cl16 (sim_net_Net_Len k (4 : Int) lost_30 (x_66) gb_5 go_6 v_73 hv_v_73) .func (.cons (.tmp rfl) .nil) rfl) (fun _ => ?_)
                   refine JL.run (.yes rfl (ltB rfl) rfl hc37) (op_move lb (.tmp rfl)) ?_
                   refine JL.run (.yes rfl (ltB rfl) rfl hc37) (op_move lb (.tmp rfl)) ?_
                   replace hx35 := lt1_inv hx35
                   obtain ⟨v_74, hv_v_74, hx35⟩ := hx35
                   refine JL.run (.yes rfl (ltB rfl) rfl hc37) (op_arI lb (.tmp rfl) (.tmp rfl) (congrArg some hv_v_74)) ?_
                   replace hx35 := lt1_inv hx35
                   obtain ⟨v_75, hv_v_75, hx35⟩ := hx35
                   refine JL.run (.yes rfl (ltB rfl) rfl hc37) (op_cmpI lb (.tmp rfl) (.tmp rfl) (congrArg some hv_v_75)) ?_
                   refine jc (op_pickT lb (.tmp rfl) hc37 (.tmp rfl)) ?_
                   refine jc (op_move lb (.tmp rfl)) ?_
                   refine JL.nrm ⟨[(109, ov (S rB v_75))], [], []⟩ [] rfl (.cons rfl .nil) rfl ?_
                   replace hx35 := bnd_inv hx35
                   obtain ⟨v_76, hv_v_76, hx35⟩ := hx35
                   refine JL.cnd (sv := ov (S rB v_76)) (Guard.isT (ltB rfl) rfl rfl) rfl (ltB rfl) (fun hq_38 => (op_call (js := []) ld cl9 (sim_law12_known'2 k v_76 (ifT hv_v_76 hq_38)) .func .nil rfl).post (fun _ => Imp.refl)) ?_
                   replace hx35 := lt1_inv hx35
                   obtain ⟨v_77, hv_v_77, hx35⟩ := hx35
                   refine jc (op_pickCS lb (.tmp rfl) (fun hb39 => (HasO.cnd (.tmp rfl) hb39)) (fun hb39 => .cB) hv_v_77) ?_
                   refine jc (op_assign lb (.tmp rfl)) ?_
                   refine JL.nil ?_
                   replace hx35 := Option.some.inj hx35
                   first | subst hx35 | clear hx35
                   exact JQ.join () (Imp.norm (js := []) rfl (.cons rfl .nil))
                 · refine JL.skip (.no rfl (ltB rfl) rfl hc37) (fun d h => by cases h; exact ltB rfl) ?_
                   refine JL.skip (.no rfl (ltB rfl) rfl hc37) (fun d h => by cases h; exact ltB rfl) ?_
                   refine JL.skip (.no rfl (ltB rfl) rfl hc37) (fun d h => by cases h; exact ltB rfl) ?_
                   refine JL.skip (.no rfl (ltB rfl) rfl hc37) (fun d h => by cases h; exact ltB rfl) ?_
                   refine JL.skip (.no rfl (ltB rfl) rfl hc37) (fun d h => by cases h; exact ltB rfl) ?_
                   refine JL.skip (.no rfl (ltB rfl) rfl hc37) (fun d h => by cases h; exact ltB rfl) ?_
                   refine jc (op_pickF lb (.tmp rfl) hc37 .cB) ?_
                   refine jc (op_move lb (.tmp rfl)) ?_
                   refine JL.skip (.no rfl (ltB rfl) rfl rfl) (fun d h => by cases h; exact ltB rfl) ?_
                   refine jc (op_pickF lb (.tmp rfl) rfl .cB) ?_
                   refine jc (op_assign lb (.tmp rfl)) ?_
                   refine JL.nil ?_
                   replace hx35 := Option.some.inj hx35
                   first | subst hx35 | clear hx35
                   exact JQ.join () (Imp.norm (js := []) rfl (.cons rfl .nil))
             · refine JC.seq ?_
               refine JC.region ?_
               refine jc (op_assign lb .cI) ?_
               refine JL.nil ?_
               refine JQ.then ?_
               refine JC.block ?_
               replace hx31 := bnd_inv hx31
               obtain ⟨tv32, hL32, hq32⟩ := hx31
               refine JC.pre ?_ (JC.loop (γ := Unit) (stf := fun s q => ⟨[(1, ov (S (rI .i64) a_2)), (5, ov (PTR gb_5 0)), (9, ov (S (rI .i64) x_61)), (10, ov (S (rI .i64) x_62)), (14, ov (S (rI .i64) v_65)), (15, ov (S (rI .i64) s))], [cvar gb_5 (rP (rW (MPV go_6)) (rP (rI .i64) (rP (rI .i64) r0))) ((), ((4 : Int), (lost_30, ()))), cmap go_6 (A r_net_pair) (S (rL (rL (rU UInt8)))) (some (x_66))], []⟩) (q := ()) hL32 ?_)
               · exact (Imp.norm (js := [0, 0]) rfl (.cons rfl (.cons rfl (.cons rfl (.cons rfl (.cons rfl (.cons rfl .nil)))))))
               · intro x_67 q x hx hr
                 obtain _ := q
                 change law12_NetLines.b4 k a_2 lost_30 x_66 x_67 = some x at hx
                 unfold law12_NetLines.b4 at hx
                 refine JC.at ⟨[(1, ov (S (rI .i64) a_2)), (5, ov (PTR gb_5 0)), (9, ov (S (rI .i64) x_61)), (10, ov (S (rI .i64) x_62)), (14, ov (S (rI .i64) v_65)), (15, ov (S (rI .i64) x_67))], [cvar gb_5 (rP (rW (MPV go_6)) (rP (rI .i64) (rP (rI .i64) r0))) ((), ((4 : Int), (lost_30, ()))), cmap go_6 (A r_net_pair) (S (rL (rL (rU UInt8)))) (some (x_66))], []⟩ ?_
                 refine JC.seq ?_
                 refine JC.seq ?_
                 refine JC.region ?_
                 refine jc (op_move lb (.tmp rfl)) ?_
                 replace hx := lt1_inv hx
                 obtain ⟨v_68, hv_v_68, hx⟩ := hx
                 refine jc (op_cmpI lb (.tmp rfl) .cI (congrArg some hv_v_68)) ?_
                 refine JL.nil ?_
                 refine JQ.then ?_
                 replace hx := iteB_inv hx
                 rcases hx with ⟨hc33, hx⟩ | ⟨hc33, hx⟩
                 · refine JC.condT (.tmp rfl) hc33 ?_
                   refine JC.skip ?_
                   refine JQ.then ?_
                   refine JC.seq ?_
                   refine JC.block ?_
                   refine JC.seq ?_
                   refine JC.region ?_
                   refine jc (op_move lb (.tmp rfl)) ?_
                   refine jc (op_move lb (.tmp rfl)) ?_
                   refine jc (op_move lb (.tmp rfl)) ?_
                   replace hx := bnd_inv hx
                   obtain ⟨v_69, hv_v_69, hx⟩ := hx
                   refine jx (op_call (js := [0, 0]) ld cl19 (sim_net_Net_Line k x_67 a_2 (4 : Int) lost_30 (x_66) gb_5 go_6 v_69 hv_v_69) .func (.cons (.tmp rfl) (.cons (.tmp rfl) (.cons (.tmp rfl) .nil))) rfl) (fun _ => ?_)
                   replace hx := lt1_inv hx
                   obtain ⟨v_70, hv_v_70, hx⟩ := hx
                   refine jc (op_cmpI lb (.tmp rfl) .cI (congrArg some hv_v_70)) ?_
                   refine JL.nil ?_
                   refine JQ.then ?_
                   replace hx := iteB_inv hx
                   rcases hx with ⟨hc34, hx⟩ | ⟨hc34, hx⟩
                   · refine JC.condT (.tmp rfl) hc34 ?_
                     refine JC.seq ?_
                     refine JC.region ?_
                     refine jc (op_assign lb .cB) ?_
                     refine JL.nil ?_
                     refine JQ.then ?_
                     refine JC.ret ?_
                     refine JQ.outRB ?_
                     refine JQ.outR ?_
                     replace hx := Option.some.inj hx
                     first | subst hx | clear hx
                     have ht := hr _ rfl
                     clear hr
                     first | subst ht | clear ht
                     dsimp only at hq32
                     refine JQ.outR ?_
                     refine JQ.outRB ?_
                     replace hq32 := Option.some.inj hq32
                     first | subst hq32 | clear hq32
                     dsimp only at hq31
                     refine JQ.outR ?_
                     replace hq31 := Option.some.inj hq31
                     subst hq31
                     exact JQ.done (js := []) (ss := [.val (S rB false)]) () (.inl rfl) (.nil rfl) rfl (.cons (.tmp rfl) .nil) rfl rfl rfl
                   · refine JC.condF (.tmp rfl) hc34 ?_
                     refine JC.skip ?_
                     refine JQ.outNB ?_
                     refine JQ.then ?_
                     refine JC.region ?_
                     refine jc (op_move lb (.tmp rfl)) ?_
                     replace hx := lt1_inv hx
                     obtain ⟨v_71, hv_v_71, hx⟩ := hx
                     refine jc (op_arI lb (.tmp rfl) .cI (congrArg some hv_v_71)) ?_
                     refine jc (op_assign lb (.tmp rfl)) ?_
                     refine JL.nil ?_
                     replace hx := Option.some.inj hx
                     first | subst hx | clear hx
                     exact JQ.next () rfl (Imp.norm (js := [0, 0]) rfl (.cons rfl (.cons rfl (.cons rfl (.cons rfl (.cons rfl (.cons rfl .nil)))))))
                 · refine JC.condF (.tmp rfl) hc33 ?_
                   refine JC.exit ?_
                   refine JQ.outX ?_
                   replace hx := Option.some.inj hx
                   first | subst hx | clear hx
                   have ht := hr _ rfl
                   clear hr
                   first | subst ht | clear ht
                   dsimp only at hq32
                   refine JQ.outX ?_
                   refine JQ.here ?_
                   replace hq32 := Option.some.inj hq32
                   first | subst hq32 | clear hq32
                   exact JQ.joinK () () rfl (Imp.norm (js := [0, 0]) rfl (.cons rfl (.cons rfl (.cons rfl (.cons rfl .nil)))))
         · refine JC.seq ?_
           refine JC.region ?_
           refine jc (op_assign lb .cI) ?_
           refine JL.nil ?_
           refine JQ.then ?_
           refine JC.block ?_
           replace hx8 := bnd_inv hx8
           obtain ⟨tv9, hL9, hq9⟩ := hx8
           refine JC.pre ?_ (JC.loop (γ := Unit) (stf := fun s q => ⟨[(1, ov (S (rI .i64) a_2)), (5, ov (PTR gb_5 0)), (9, ov (S (rI .i64) s.1)), (10, ov (S (rI .i64) s.2.1)), (11, ov (S (rI .i64) s.2.2))], [cvar gb_5 (rP (rW (MPV go_6)) (rP (rI .i64) (rP (rI .i64) r0))) ((), ((4 : Int), (lost_30, ()))), cmap go_6 (A r_net_pair) (S (rL (rL (rU UInt8)))) (some x_29)], []⟩) (q := ()) hL9 ?_)
           · exact (Imp.norm (js := [0, 0]) rfl (.cons rfl (.cons rfl (.cons rfl (.cons rfl (.cons rfl .nil))))))
           · intro s q x hx hr
             obtain ⟨x_31, x_32, x_33⟩ := s
             obtain _ := q
             change law12_NetLines.b2 k lost_30 x_29 a_2 x_31 x_32 x_33 = some x at hx
             unfold law12_NetLines.b2 at hx
             refine JC.at ⟨[(1, ov (S (rI .i64) a_2)), (5, ov (PTR gb_5 0)), (9, ov (S (rI .i64) x_31)), (10, ov (S (rI .i64) x_32)), (11, ov (S (rI .i64) x_33))], [cvar gb_5 (rP (rW (MPV go_6)) (rP (rI .i64) (rP (rI .i64) r0))) ((), ((4 : Int), (lost_30, ()))), cmap go_6 (A r_net_pair) (S (rL (rL (rU UInt8)))) (some x_29)], []⟩ ?_
             refine JC.seq ?_
             refine JC.seq ?_
             refine JC.region ?_
             refine jc (op_move lb (.tmp rfl)) ?_
             replace hx := lt1_inv hx
             obtain ⟨v_34, hv_v_34, hx⟩ := hx
             refine jc (op_cmpI lb (.tmp rfl) .cI (congrArg some hv_v_34)) ?_
             refine JL.nil ?_
             refine JQ.then ?_
             replace hx := iteB_inv hx
             rcases hx with ⟨hc10, hx⟩ | ⟨hc10, hx⟩
             · refine JC.condT (.tmp rfl) hc10 ?_
               refine JC.skip ?_
               refine JQ.then ?_
               replace hx := bnd_inv hx
               obtain ⟨tv11, hx11, hq11⟩ := hx
               refine JC.seqK (α := Int × Int) (γ := Unit) (stj := fun v q => ⟨[(1, ov (S (rI .i64) a_2)), (5, ov (PTR gb_5 0)), (9, ov (S (rI .i64) v.1)), (10, ov (S (rI .i64) v.2)), (11, ov (S (rI .i64) x_33))], [cvar gb_5 (rP (rW (MPV go_6)) (rP (rI .i64) (rP (rI .i64) r0))) ((), ((4 : Int), (lost_30, ()))), cmap go_6 (A r_net_pair) (S (rL (rL (rU UInt8)))) (some x_29)], []⟩) (p := fun v => tv11 = (.inl v)) (fun v q hv => ?_) ?_
               · subst hv
                 obtain ⟨x_56, x_57⟩ := v
                 obtain _ := q
                 dsimp only at hq11
                 refine JC.at ⟨[(1, ov (S (rI .i64) a_2)), (5, ov (PTR gb_5 0)), (9, ov (S (rI .i64) x_56)), (10, ov (S (rI .i64) x_57)), (11, ov (S (rI .i64) x_33))], [cvar gb_5 (rP (rW (MPV go_6)) (rP (rI .i64) (rP (rI .i64) r0))) ((), ((4 : Int), (lost_30, ()))), cmap go_6 (A r_net_pair) (S (rL (rL (rU UInt8)))) (some x_29)], []⟩ ?_
                 refine JC.region ?_
                 refine jc (op_move lb (.tmp rfl)) ?_
                 replace hq11 := lt1_inv hq11
                 obtain ⟨v_58, hv_v_58, hq11⟩ := hq11
                 refine jc (op_arI lb (.tmp rfl) .cI (congrArg some hv_v_58)) ?_
                 refine jc (op_assign lb (.tmp rfl)) ?_
                 refine JL.nil ?_
                 replace hq11 := Option.some.inj hq11
                 first | subst hq11 | clear hq11
                 exact JQ.next () rfl (Imp.norm (js := [0, 0]) rfl (.cons rfl (.cons rfl (.cons rfl (.cons rfl (.cons rfl .nil))))))
               · refine JC.block ?_
                 refine JC.seq ?_
                 refine JC.region ?_
                 refine jc (op_assign lb .cI) ?_
                 refine JL.nil ?_
                 refine JQ.then ?_
                 refine JC.block ?_
                 replace hx11 := bnd_inv hx11
                 obtain ⟨tv12, hL12, hq12⟩ := hx11
                 refine JC.pre ?_ (JC.loop (γ := Unit) (stf := fun s q => ⟨[(1, ov (S (rI .i64) a_2)), (5, ov (PTR gb_5 0)), (9, ov (S (rI .i64) s.1)), (10, ov (S (rI .i64) s.2.1)), (11, ov (S (rI .i64) x_33)), (12, ov (S (rI .i64) s.2.2))], [cvar gb_5 (rP (rW (MPV go_6)) (rP (rI .i64) (rP (rI .i64) r0))) ((), ((4 : Int), (lost_30, ()))), cmap go_6 (A r_net_pair) (S (rL (rL (rU UInt8)))) (some x_29)], []⟩) (q := ()) hL12 ?_)
                 · exact (Imp.norm (js := [0, 0]) rfl (.cons rfl (.cons rfl (.cons rfl (.cons rfl (.cons rfl (.cons rfl .nil)))))))
                 · intro s q x hx hr
                   obtain ⟨x_35, x_36, x_37⟩ := s
                   obtain _ := q
                   change law12_NetLines.b3 k x_33 lost_30 x_29 a_2 x_35 x_36 x_37 = some x at hx
                   unfold law12_NetLines.b3 at hx
                   refine JC.at ⟨[(1, ov (S (rI .i64) a_2)), (5, ov (PTR gb_5 0)), (9, ov (S (rI .i64) x_35)), (10, ov (S (rI .i64) x_36)), (11, ov (S (rI .i64) x_33)), (12, ov (S (rI .i64) x_37))], [cvar gb_5 (rP (rW (MPV go_6)) (rP (rI .i64) (rP (rI .i64) r0))) ((), ((4 : Int), (lost_30, ()))), cmap go_6 (A r_net_pair) (S (rL (rL (rU UInt8)))) (some x_29)], []⟩ ?_
                   refine JC.seq ?_
                   refine JC.seq ?_
                   refine JC.region ?_
                   refine jc (op_move lb (.tmp rfl)) ?_
                   replace hx := lt1_inv hx
                   obtain ⟨v_38, hv_v_38, hx⟩ := hx
                   refine jc (op_cmpI lb (.tmp rfl) .cI (congrArg some hv_v_38)) ?_
                   refine JL.nil ?_
                   refine JQ.then ?_
                   replace hx := iteB_inv hx
                   rcases hx with ⟨hc13, hx⟩ | ⟨hc13, hx⟩
                   · refine JC.condT (.tmp rfl) hc13 ?_
                     refine JC.skip ?_
                     refine JQ.then ?_
                     replace hx := bnd_inv hx
                     obtain ⟨tv14, hx14, hq14⟩ := hx
                     refine JC.seqK (α := Int × Int) (γ := Unit) (stj := fun v q => ⟨[(1, ov (S (rI .i64) a_2)), (5, ov (PTR gb_5 0)), (9, ov (S (rI .i64) v.1)), (10, ov (S (rI .i64) v.2)), (11, ov (S (rI .i64) x_33)), (12, ov (S (rI .i64) x_37))], [cvar gb_5 (rP (rW (MPV go_6)) (rP (rI .i64) (rP (rI .i64) r0))) ((), ((4 : Int), (lost_30, ()))), cmap go_6 (A r_net_pair) (S (rL (rL (rU UInt8)))) (some x_29)], []⟩) (p := fun v => tv14 = (.inl v)) (fun v q hv => ?_) ?_
                     · subst hv
                       obtain ⟨x_51, x_52⟩ := v
                       obtain _ := q
                       dsimp only at hq14
                       refine JC.at ⟨[(1, ov (S (rI .i64) a_2)), (5, ov (PTR gb_5 0)), (9, ov (S (rI .i64) x_51)), (10, ov (S (rI .i64) x_52)), (11, ov (S (rI .i64) x_33)), (12, ov (S (rI .i64) x_37))], [cvar gb_5 (rP (rW (MPV go_6)) (rP (rI .i64) (rP (rI .i64) r0))) ((), ((4 : Int), (lost_30, ()))), cmap go_6 (A r_net_pair) (S (rL (rL (rU UInt8)))) (some x_29)], []⟩ ?_
                       refine JC.region ?_
                       refine jc (op_move lb (.tmp rfl)) ?_
                       replace hq14 := lt1_inv hq14
                       obtain ⟨v_53, hv_v_53, hq14⟩ := hq14
                       refine jc (op_arI lb (.tmp rfl) .cI (congrArg some hv_v_53)) ?_
                       refine jc (op_assign lb (.tmp rfl)) ?_
                       refine JL.nil ?_
                       replace hq14 := Option.some.inj hq14
                       first | subst hq14 | clear hq14
                       exact JQ.next () rfl (Imp.norm (js := [0, 0]) rfl (.cons rfl (.cons rfl (.cons rfl (.cons rfl (.cons rfl (.cons rfl .nil)))))))
                     · refine JC.block ?_
                       refine JC.seq ?_
                       refine JC.region ?_
                       refine jc (op_move lb (.tmp rfl)) ?_
                       refine jc (op_move lb (.tmp rfl)) ?_
                       refine jc (op_move lb (.tmp rfl)) ?_
                       replace hx14 := bnd_inv hx14
                       obtain ⟨v_39, hv_v_39, hx14⟩ := hx14
                       refine jx (op_call (js := [0, 0]) ld cl19 (sim_net_Net_Line k x_33 x_37 (4 : Int) lost_30 x_29 gb_5 go_6 v_39 hv_v_39) .func (.cons (.tmp rfl) (.cons (.tmp rfl) (.cons (.tmp rfl) .nil))) rfl) (fun _ => ?_)
                       refine jc (op_assign lb (.tmp rfl)) ?_
                       refine JL.nil ?_
                       refine JQ.then ?_
                       refine JC.seq ?_
                       replace hx14 := bnd_inv hx14
                       obtain ⟨x_47, hx15, hq15⟩ := hx14
                       refine JC.seqJ (γ := Unit) (stj := fun q => ⟨[(1, ov (S (rI .i64) a_2)), (5, ov (PTR gb_5 0)), (9, ov (S (rI .i64) x_35)), (10, ov (S (rI .i64) x_36)), (11, ov (S (rI .i64) x_33)), (12, ov (S (rI .i64) x_37)), (13, ov (S (rI .i64) v_39)), (72, ov (S rB x_47))], [cvar gb_5 (rP (rW (MPV go_6)) (rP (rI .i64) (rP (rI .i64) r0))) ((), ((4 : Int), (lost_30, ()))), cmap go_6 (A r_net_pair) (S (rL (rL (rU UInt8)))) (some x_29)], []⟩) (fun q => ?_) ?_
                       · obtain _ := q
                         refine JC.at ⟨[(1, ov (S (rI .i64) a_2)), (5, ov (PTR gb_5 0)), (9, ov (S (rI .i64) x_35)), (10, ov (S (rI .i64) x_36)), (11, ov (S (rI .i64) x_33)), (12, ov (S (rI .i64) x_37)), (13, ov (S (rI .i64) v_39)), (72, ov (S rB x_47))], [cvar gb_5 (rP (rW (MPV go_6)) (rP (rI .i64) (rP (rI .i64) r0))) ((), ((4 : Int), (lost_30, ()))), cmap go_6 (A r_net_pair) (S (rL (rL (rU UInt8)))) (some x_29)], []⟩ ?_
                         replace hq15 := iteB_inv hq15
                         rcases hq15 with ⟨hc28, hq15⟩ | ⟨hc28, hq15⟩
                         · refine JC.condT (.tmp rfl) hc28 ?_
                           refine JC.seq ?_
                           refine JC.region ?_
                           refine jc (op_assign lb .cB) ?_
                           refine JL.nil ?_
                           refine JQ.then ?_
                           refine JC.ret ?_
                           refine JQ.outR ?_
                           refine JQ.outRB ?_
                           replace hq15 := Option.some.inj hq15
                           first | subst hq15 | clear hq15
                           dsimp only at hq14
                           refine JQ.outR ?_
                           replace hq14 := Option.some.inj hq14
                           first | subst hq14 | clear hq14
                           have ht := hr _ rfl
                           clear hr
                           first | subst ht | clear ht
                           dsimp only at hq12
                           refine JQ.outR ?_
                           refine JQ.outRB ?_
                           refine JQ.outRB ?_
                           replace hq12 := Option.some.inj hq12
                           first | subst hq12 | clear hq12
                           dsimp only at hq11
                           refine JQ.outR ?_
                           replace hq11 := Option.some.inj hq11
                           first | subst hq11 | clear hq11
                           have ht := hr _ rfl
                           clear hr
                           first | subst ht | clear ht
                           dsimp only at hq9
                           refine JQ.outR ?_
                           refine JQ.outRB ?_
                           replace hq9 := Option.some.inj hq9
                           first | subst hq9 | clear hq9
                           dsimp only at hq8
                           refine JQ.outR ?_
                           replace hq8 := Option.some.inj hq8
                           subst hq8
                           exact JQ.done (js := []) (ss := [.val (S rB false)]) () (.inl rfl) (.nil rfl) rfl (.cons (.tmp rfl) .nil) rfl rfl rfl
                         · refine JC.condF (.tmp rfl) hc28 ?_
                           refine JC.skip ?_
                           refine JQ.then ?_
                           refine JC.seq ?_
                           refine JC.region ?_
                           refine jc (op_move lb (.tmp rfl)) ?_
                           refine jc (op_move lb (.tmp rfl)) ?_
                           replace hq15 := lt1_inv hq15
                           obtain ⟨v_48, hv_v_48, hq15⟩ := hq15
                           refine jc (op_arI lb (.tmp rfl) (.tmp rfl) (congrArg some hv_v_48)) ?_
                           refine jc (op_assign lb (.tmp rfl)) ?_
                           refine JL.nil ?_
                           refine JQ.then ?_
                           refine JC.seq ?_
                           refine JC.region ?_
                           refine jc (op_move lb (.tmp rfl)) ?_
                           refine jc (op_move lb (.tmp rfl)) ?_
                           replace hq15 := lt1_inv hq15
                           obtain ⟨v_49, hv_v_49, hq15⟩ := hq15
                           refine jc (op_cmpI lb (.tmp rfl) (.tmp rfl) (congrArg some hv_v_49)) ?_
                           refine JL.nil ?_
                           refine JQ.then ?_
                           replace hq15 := iteB_inv hq15
                           rcases hq15 with ⟨hc29, hq15⟩ | ⟨hc29, hq15⟩
                           · refine JC.condT (.tmp rfl) hc29 ?_
                             refine JC.region ?_
                             refine jc (op_move lb (.tmp rfl)) ?_
                             refine jc (op_move lb (.tmp rfl)) ?_
                             replace hq15 := lt1_inv hq15
                             obtain ⟨v_50, hv_v_50, hq15⟩ := hq15
                             refine jc (op_arI lb (.tmp rfl) (.tmp rfl) (congrArg some hv_v_50)) ?_
                             refine jc (op_assign lb (.tmp rfl)) ?_
                             refine JL.nil ?_
                             refine JQ.outNB ?_
                             replace hq15 := Option.some.inj hq15
                             first | subst hq15 | clear hq15
                             exact JQ.joinK (v_48, v_50) () rfl (Imp.norm (js := [0, 0]) rfl (.cons rfl (.cons rfl (.cons rfl (.cons rfl (.cons rfl (.cons rfl .nil)))))))
                           · refine JC.condF (.tmp rfl) hc29 ?_
                             refine JC.skip ?_
                             refine JQ.outNB ?_
                             replace hq15 := Option.some.inj hq15
                             first | subst hq15 | clear hq15
                             exact JQ.joinK (v_48, x_36) () rfl (Imp.norm (js := [0, 0]) rfl (.cons rfl (.cons rfl (.cons rfl (.cons rfl (.cons rfl (.cons rfl .nil)))))))
                       · refine JC.region ?_
                         refine jc (op_move lb (.tmp rfl)) ?_
                         replace hx15 := lt1_inv hx15
                         obtain ⟨v_40, hv_v_40, hx15⟩ := hx15
                         refine jc (op_cmpI lb (.tmp rfl) .cI (congrArg some hv_v_40)) ?_
                         refine jc (op_move lb (.tmp rfl)) ?_
                         refine JL.cnd (sv := ov (S (rI .i64) v_39)) (Guard.isF (ltB rfl) rfl rfl) rfl (ltB rfl) (fun hq_16 => op_move lb (.tmp rfl)) ?_
                         replace hx15 := lt1_inv hx15
                         obtain ⟨v_41, hv_v_41, hx15⟩ := hx15
                         refine JL.cnd (sv := ov (S rB v_41)) (Guard.isF (ltB rfl) rfl rfl) rfl (ltB rfl) (fun hq_17 => op_cmpI lb (HasO.cnd (.tmp rfl) (notT (notF hq_17))) .cI (congrArg some hv_v_41)) ?_
                         refine JL.sub ⟨[(1, ov (S (rI .i64) a_2)), (5, ov (PTR gb_5 0)), (9, ov (S (rI .i64) x_35)), (10, ov (S (rI .i64) x_36)), (11, ov (S (rI .i64) x_33)), (12, ov (S (rI .i64) x_37)), (13, ov (S (rI .i64) v_39)), (60, ov (S rB v_40)), (62, bif (!v_40) then ov (S rB v_41) else .one .und)], [cvar gb_5 (rP (rW (MPV go_6)) (rP (rI .i64) (rP (rI .i64) r0))) ((), ((4 : Int), (lost_30, ()))), cmap go_6 (A r_net_pair) (S (rL (rL (rU UInt8)))) (some x_29)], []⟩ (.cons rfl (.cons rfl (.cons rfl (.cons rfl (.cons rfl (.cons rfl (.cons rfl (.cons rfl (.cons rfl .nil))))))))) rfl rfl ?_
                         replace hx15 := lt1_inv hx15
                         obtain ⟨v_42, hv_v_42, hx15⟩ := hx15
                         refine jc (op_pickCS lb (.tmp rfl) (fun hb18 => .cB) (fun hb18 => (HasO.cnd (.tmp rfl) (notT hb18))) hv_v_42) ?_
                         refine jc (op_move lb (.tmp rfl)) ?_
                         refine JL.cnd (sv := ov (S (rI .i64) x_33)) (Guard.isF (ltB rfl) rfl rfl) rfl (ltB rfl) (fun hq_19 => op_move lb (.tmp rfl)) ?_
                         refine JL.cnd (sv := ov (S (rI .i64) x_37)) (Guard.isF (ltB rfl) rfl rfl) rfl (ltB rfl) (fun hq_20 => op_move lb (.tmp rfl)) ?_
                         replace hx15 := lt1_inv hx15
                         obtain ⟨v_43, hv_v_43, hx15⟩ := hx15
                         refine JL.cnd (sv := ov (S rB v_43)) (Guard.isF (ltB rfl) rfl rfl) rfl (ltB rfl) (fun hq_21 => op_cmpI lb (HasO.cnd (.tmp rfl) (notT (notF hq_21))) (HasO.cnd (.tmp rfl) (notT (notF hq_21))) (congrArg some hv_v_43)) ?_
                         refine JL.cnd (sv := ov (S rB v_43)) (Guard.isF (ltB rfl) rfl rfl) rfl (ltB rfl) (fun hq_22 => op_move lb (HasO.cnd (.tmp rfl) (notT (notF hq_22)))) ?_
                         refine JL.cnd (sv := ov (S (rI .i64) v_39)) (Guard.cT (q := (!v_42)) (ltB rfl) rfl rfl) rfl (ltB rfl) (fun hq_23 => op_move lb (.tmp rfl)) ?_
                         replace hx15 := lt1_inv hx15
                         obtain ⟨v_44, hv_v_44, hx15⟩ := hx15
                         refine JL.cnd (sv := ov (S rB v_44)) (Guard.cT (q := (!v_42)) (ltB rfl) rfl rfl) rfl (ltB rfl) (fun hq_24 => op_cmpI lb (HasO.cnd (.tmp rfl) (andI (notT (notF (andL hq_24))) (andR hq_24))) .cI (congrArg some hv_v_44)) ?_
                         replace hx15 := lt1_inv hx15
                         obtain ⟨v_45, hv_v_45, hx15⟩ := hx15
                         refine JL.cnd (sv := ov (S rB v_45)) (Guard.isF (ltB rfl) rfl rfl) rfl (ltB rfl) (fun hq_25 => op_pickCS lb (HasO.cnd (.tmp rfl) (notT (notF hq_25))) (fun hb26 => (HasO.cnd (.tmp rfl) (andI (notT (notF hq_25)) hb26))) (fun hb26 => .cB) hv_v_45) ?_
                         replace hx15 := lt1_inv hx15
                         obtain ⟨v_46, hv_v_46, hx15⟩ := hx15
                         refine jc (op_pickCS lb (.tmp rfl) (fun hb27 => .cB) (fun hb27 => (HasO.cnd (.tmp rfl) (notT hb27))) hv_v_46) ?_
                         refine JL.nil ?_
                         replace hx15 := Option.some.inj hx15
                         first | subst hx15 | clear hx15
                         exact JQ.join () (Imp.norm (js := [0, 0]) rfl (.cons rfl (.cons rfl (.cons rfl (.cons rfl (.cons rfl (.cons rfl (.cons rfl (.cons rfl .nil)))))))))
                   · refine JC.condF (.tmp rfl) hc13 ?_
                     refine JC.exit ?_
                     refine JQ.outX ?_
                     replace hx := Option.some.inj hx
                     first | subst hx | clear hx
                     have ht := hr _ rfl
                     clear hr
                     first | subst ht | clear ht
                     dsimp only at hq12
                     refine JQ.outX ?_
                     refine JQ.here ?_
                     refine JQ.outNB ?_
                     replace hq12 := Option.some.inj hq12
                     first | subst hq12 | clear hq12
                     exact JQ.joinK (x_35, x_36) () rfl (Imp.norm (js := [0, 0]) rfl (.cons rfl (.cons rfl (.cons rfl (.cons rfl (.cons rfl .nil))))))
             · refine JC.condF (.tmp rfl) hc10 ?_
               refine JC.exit ?_
               refine JQ.outX ?_
               replace hx := Option.some.inj hx
               first | subst hx | clear hx
               have ht := hr _ rfl
               clear hr
               first | subst ht | clear ht
               dsimp only at hq9
               refine JQ.outX ?_
               refine JQ.here ?_
               replace hq9 := Option.some.inj hq9
               first | subst hq9 | clear hq9
               exact JQ.joinK (x_31, x_32) () rfl (Imp.norm (js := [0, 0]) rfl (.cons rfl (.cons rfl (.cons rfl (.cons rfl .nil)))))
       · refine JC.seq ?_
         refine JC.region ?_
         refine jc (op_assign lb .cI) ?_
         refine JL.nil ?_
         refine JQ.then ?_
         refine JC.block ?_
         replace hx4 := bnd_inv hx4
         obtain ⟨tv5, hL5, hq5⟩ := hx4
         refine JC.pre (Imp.nilown r_api_Flight) ?_
         refine JC.pre ?_ (JC.loop (γ := Option Nat × Nat) (stf := fun s q => ⟨[(0, ov (S (rL r_law12_Act) t_1)), (1, ov (S (rI .i64) a_2)), (5, ov (PTR gb_5 0)), (7, ov (PTR gb_7 0)), (8, ov (S (rI .i64) s.2.2.2.2))], [cvar gb_5 (rP (rW (MPV go_6)) (rP (rI .i64) (rP (rI .i64) r0))) ((), ((4 : Int), (s.2.1, ()))), cmap go_6 (A r_net_pair) (S (rL (rL (rU UInt8)))) (some s.1), cvar gb_7 (rP (rW (HDR q.1 0 (List.length s.2.2.1) q.2)) (rP (rI .i64) (rP (rI .i64) r0))) ((), ((4 : Int), (s.2.2.2.1, ()))), cown q.1 r_api_Flight s.2.2.1 0 q.2], []⟩) (q := (none, 0)) hL5 ?_)
         · exact (Imp.norm (js := [0, 0, 0, 0]) rfl (.cons rfl (.cons rfl (.cons rfl (.cons rfl (.cons rfl .nil))))))
         · intro s q x hx hr
           obtain ⟨x_9, lost_10, L_11, Lost_12, x_13⟩ := s
           obtain ⟨go_14, gc_15⟩ := q
           change law12_NetLines.b1 k t_1 x_9 lost_10 L_11 Lost_12 x_13 = some x at hx
           unfold law12_NetLines.b1 at hx
           refine JC.at ⟨[(0, ov (S (rL r_law12_Act) t_1)), (1, ov (S (rI .i64) a_2)), (5, ov (PTR gb_5 0)), (7, ov (PTR gb_7 0)), (8, ov (S (rI .i64) x_13))], [cvar gb_5 (rP (rW (MPV go_6)) (rP (rI .i64) (rP (rI .i64) r0))) ((), ((4 : Int), (lost_10, ()))), cmap go_6 (A r_net_pair) (S (rL (rL (rU UInt8)))) (some x_9), cvar gb_7 (rP (rW (HDR go_14 0 (List.length L_11) gc_15)) (rP (rI .i64) (rP (rI .i64) r0))) ((), ((4 : Int), (Lost_12, ()))), cown go_14 r_api_Flight L_11 0 gc_15], []⟩ ?_
           refine JC.seq ?_
           refine JC.seq ?_
           refine JC.region ?_
           refine jc (op_move lb (.tmp rfl)) ?_
           refine jc (op_move lb (.tmp rfl)) ?_
           refine jc (op_lenL lb tu22 (.tmp rfl)) ?_
           replace hx := lt1_inv hx
           obtain ⟨v_16, hv_v_16, hx⟩ := hx
           refine jc (op_cmpI lb (.tmp rfl) (.tmp rfl) (congrArg some hv_v_16)) ?_
           refine JL.nil ?_
           refine JQ.then ?_
           replace hx := iteB_inv hx
           rcases hx with ⟨hc6, hx⟩ | ⟨hc6, hx⟩
           · refine JC.condT (.tmp rfl) hc6 ?_
             refine JC.skip ?_
             refine JQ.then ?_
             refine JC.seq ?_
             refine JC.block ?_
             refine JC.seq ?_
             refine JC.region ?_
             refine jc (op_move lb (.tmp rfl)) ?_
             refine jc (op_move lb (.tmp rfl)) ?_
             refine jc (op_move lb (.tmp rfl)) ?_
             refine jc (op_move lb (.tmp rfl)) ?_
             replace hx := bnd_inv hx
             obtain ⟨v_17, hv_v_17, hx⟩ := hx
             refine jc (op_indexAddrLg lb tu22 tz33 (.tmp rfl) (.tmp rfl) hv_v_17) ?_
             refine jc (op_loadPAg lb tA33 (.tmp rfl) rfl) ?_
             replace hx := bnd_inv hx
             obtain ⟨⟨v_18, x_19, x_20, x_21, x_22⟩, hv_v_18, hx⟩ := hx
             refine jx (op_call (js := [0, 0, 0, 0]) ld cl18 (sim_law12_do'2 k v_17 (4 : Int) lost_10 x_9 (4 : Int) Lost_12 L_11 gb_5 go_6 gb_7 go_14 gc_15 (v_18, x_19, x_20, x_21, x_22) hv_v_18) .func (.cons (.tmp rfl) (.cons (.tmp rfl) (.cons (.tmp rfl) .nil))) rfl) (fun q => ?_)
             obtain ⟨go_23, gc_24⟩ := q
             refine JL.sub ⟨[(0, ov (S (rL r_law12_Act) t_1)), (1, ov (S (rI .i64) a_2)), (5, ov (PTR gb_5 0)), (7, ov (PTR gb_7 0)), (8, ov (S (rI .i64) x_13)), (44, ov (S rB v_18))], [cvar gb_5 (rP (rW (MPV go_6)) (rP (rI .i64) (rP (rI .i64) r0))) ((), ((4 : Int), (x_20, ()))), cmap go_6 (A r_net_pair) (S (rL (rL (rU UInt8)))) (some (x_19)), cvar gb_7 (rP (rW (HDR go_23 0 (List.length x_21) gc_24)) (rP (rI .i64) (rP (rI .i64) r0))) ((), ((4 : Int), (x_22, ()))), cown go_23 r_api_Flight x_21 0 gc_24], []⟩ (.cons rfl (.cons rfl (.cons rfl (.cons rfl (.cons rfl (.cons rfl .nil)))))) rfl rfl ?_
             replace hx := lt1_inv hx
             obtain ⟨v_25, hv_v_25, hx⟩ := hx
             refine jc (op_not lb (.tmp rfl) hv_v_25) ?_
             refine JL.nil ?_
             refine JQ.then ?_
             replace hx := iteB_inv hx
             rcases hx with ⟨hc7, hx⟩ | ⟨hc7, hx⟩
             · refine JC.condT (.tmp rfl) hc7 ?_
               refine JC.seq ?_
               refine JC.region ?_
               refine jc (op_assign lb .cB) ?_
               refine JL.nil ?_
               refine JQ.then ?_
               refine JC.ret ?_
               refine JQ.outRB ?_
               refine JQ.outR ?_
               replace hx := Option.some.inj hx
               first | subst hx | clear hx
               have ht := hr _ rfl
               clear hr
               first | subst ht | clear ht
               dsimp only at hq5
               refine JQ.outR ?_
               refine JQ.outRB ?_
               replace hq5 := Option.some.inj hq5
               first | subst hq5 | clear hq5
               dsimp only at hq4
               refine JQ.outR ?_
               replace hq4 := Option.some.inj hq4
               subst hq4
               exact JQ.done (js := []) (ss := [.val (S rB false)]) () (.inl rfl) (.nil rfl) rfl (.cons (.tmp rfl) .nil) rfl rfl rfl
             · refine JC.condF (.tmp rfl) hc7 ?_
               refine JC.skip ?_
               refine JQ.outNB ?_
               refine JQ.then ?_
               refine JC.region ?_
               refine jc (op_move lb (.tmp rfl)) ?_
               replace hx := lt1_inv hx
               obtain ⟨v_26, hv_v_26, hx⟩ := hx
               refine jc (op_arI lb (.tmp rfl) .cI (congrArg some hv_v_26)) ?_
               refine jc (op_assign lb (.tmp rfl)) ?_
               refine JL.nil ?_
               replace hx := Option.some.inj hx
               first | subst hx | clear hx
               exact JQ.next (go_23, gc_24) rfl (Imp.norm (js := [0, 0, 0, 0]) rfl (.cons rfl (.cons rfl (.cons rfl (.cons rfl (.cons rfl .nil))))))
           · refine JC.condF (.tmp rfl) hc6 ?_
             refine JC.exit ?_
             refine JQ.outX ?_
             replace hx := Option.some.inj hx
             first | subst hx | clear hx
             have ht := hr _ rfl
             clear hr
             first | subst ht | clear ht
             dsimp only at hq5
             refine JQ.outX ?_
             refine JQ.here ?_
             replace hq5 := Option.some.inj hq5
             first | subst hq5 | clear hq5
             exact JQ.joinK (x_9, lost_10) () rfl (Imp.norm (js := [0, 0]) rfl (.cons rfl (.cons rfl .nil)))
     · refine JC.region ?_
       refine jc (op_move lb (.tmp rfl)) ?_
       refine jc (op_nilP (neg := false) lb tu25 (.tmp rfl) (HasO.const (p := PTO none) fun _ => rfl)) ?_
       refine jc (op_move lb (.tmp rfl)) ?_
       refine JL.run (.yes rfl (ltB rfl) rfl rfl) (op_move lb (.tmp rfl)) ?_
       replace hx3 := bnd_inv hx3
       obtain ⟨_, hv_u_8, hx3⟩ := hx3
       refine JL.runX (.yes rfl (ltB rfl) rfl rfl) (op_call (js := []) ld cl12 (sim_law12_num k (0 : Int) () hv_u_8) .func (.cons (.tmp rfl) .nil) rfl) (fun _ => ?_)
       refine JL.run (.yes rfl (ltB rfl) rfl rfl) (op_cmpI lb (.tmp rfl) .cI (congrArg some (by decide : ((0 : Int) != (0 : Int)) = false))) ?_
       refine jc (op_pickF lb (.tmp rfl) rfl (.tmp rfl)) ?_
       refine JL.nil ?_
       exact JQ.join () (Imp.norm (js := [0, 0, 0]) rfl (.cons rfl (.cons rfl (.cons rfl (.cons rfl (.cons rfl .nil))))))
   · obtain _ := ts2
     dsimp only at hm
     refine jx (op_call (js := []) ld cl11 (sim_net_New_v1 k (4 : Int) () hs2) .func (.cons .cI .nil) rfl) (fun _ => ?_)
     refine jc (op_move lb (.tmp rfl)) ?_
     refine jc (op_extract (i := 0) lb (.tmp rfl) rfl) ?_
     refine jc (op_extract (i := 1) lb (.tmp rfl) rfl) ?_
     refine jc (op_assign lb (.tmp rfl)) ?_
     refine jc (op_assign lb (.tmp rfl)) ?_
     refine JL.nil ?_
     refine JQ.then ?_
     refine JC.seq ?_
     refine JC.region ?_
     refine jc (op_build lb tZ43 zr43 tp43 (.S (off := 1) rfl .cI rfl ((UpdR.snd (UpdR.fst (UpdR.self (by rfl)))).at (by rfl)) .nil) rfl) ?_
     refine JL.sub ⟨[(0, ov (S (rL r_law12_Act) t_1)), (1, ov (S (rI .i64) a_2)), (5, ov (PTO none)), (6, ov (S (rI .i64) (2 : Int))), (23, ov (A (rP (rW (HDR none 0 0 0)) (rP (rI .i64) (rP (rI .i64) r0))) ((), ((4 : Int), ((0 : Int), ())))))], [], []⟩ (.cons rfl (.cons rfl (.cons rfl (.cons rfl (.cons rfl .nil))))) rfl rfl ?_
     refine jx (op_boxA lb (.tmp rfl)) (fun q => ?_)
     obtain ⟨gb_79, hqq⟩ : ∃ z, z = q := ⟨_, rfl⟩
     subst hqq
     refine jc (op_assign lb (.tmp rfl)) ?_
     refine JL.nil ?_
     refine JQ.then ?_
     refine JC.seq ?_
     replace hm := bnd_inv hm
     obtain ⟨_, hx40, hq40⟩ := hm
     refine JC.seqJ (γ := Unit) (stj := fun q => ⟨[(0, ov (S (rL r_law12_Act) t_1)), (1, ov (S (rI .i64) a_2)), (5, ov (PTO none)), (7, ov (PTR gb_79 0)), (31, ov (S rB true))], [cvar gb_79 (rP (rW (HDR none 0 0 0)) (rP (rI .i64) (rP (rI .i64) r0))) ((), ((4 : Int), ((0 : Int), ())))], []⟩) (fun q => ?_) ?_
     · obtain _ := q
       refine JC.at ⟨[(0, ov (S (rL r_law12_Act) t_1)), (1, ov (S (rI .i64) a_2)), (5, ov (PTO none)), (7, ov (PTR gb_79 0)), (31, ov (S rB true))], [cvar gb_79 (rP (rW (HDR none 0 0 0)) (rP (rI .i64) (rP (rI .i64) r0))) ((), ((4 : Int), ((0 : Int), ())))], []⟩ ?_
       refine JC.condT (.tmp rfl) rfl ?_
       refine JC.seq ?_
       refine JC.region ?_
       refine jc (op_assign lb .cB) ?_
       refine JL.nil ?_
       refine JQ.then ?_
       refine JC.ret ?_
       refine JQ.outR ?_
       replace hq40 := Option.some.inj hq40
       subst hq40
       exact JQ.done (js := []) (ss := [.val (S rB false)]) () (.inl rfl) (.nil rfl) rfl (.cons (.tmp rfl) .nil) rfl rfl rfl
     · refine JC.region ?_
       refine jc (op_move lb (.tmp rfl)) ?_
       refine jc (op_nilO (neg := false) (ob := none) lb tu25 (.tmp rfl) (HasO.const (p := PTO none) fun _ => rfl) rfl) ?_
       refine jc (op_move lb (.tmp rfl)) ?_
       refine JL.skip (.no rfl (ltB rfl) rfl rfl) (fun d h => by cases h; exact ltB rfl) ?_
       refine JL.skip (.no rfl (ltB rfl) rfl rfl) (fun d h => by cases h; exact ltB rfl) ?_
       refine JL.skip (.no rfl (ltB rfl) rfl rfl) (fun d h => by cases h; exact ltB rfl) ?_
       refine jc (op_pickT lb (.tmp rfl) rfl .cB) ?_
       refine JL.nil ?_
       exact JQ.join () (Imp.norm (js := [0]) rfl (.cons rfl (.cons rfl (.cons rfl (.cons rfl (.cons rfl .nil))))))

end Go.Proofs.Ytnadeehdnmgebaa
