/- Walks. -/
import Derived.Test.YthoggbomakolkaaT
import Derived.Test.YthoggbomakolkaaW0
import Derived.Test.YthoggbomakolkaaW14
import Derived.Test.YthoggbomakolkaaW17
import Derived.Test.YthoggbomakolkaaW18
import Derived.Test.YthoggbomakolkaaW2
import Derived.Test.YthoggbomakolkaaW4
import Derived.Test.YthoggbomakolkaaW5
import Derived.Test.YthoggbomakolkaaW7
import Derived.Test.YthoggbomakolkaaW9
namespace Go.Proofs.Ythoggbomakolkaa
open Go Fw
set_option linter.unusedVariables false
set_option maxRecDepth 100000
set_option maxHeartbeats 4000000

theorem sim_law09_EventBytes'2 (k : Nat) (t_1 : api_Event) (a_2 : (List UInt8)) (r : Bool) (hm : law09_EventBytes'2 k t_1 a_2 = some r) : Sim Try.prog 6 [A r_api_Event t_1, S (rL (rU UInt8)) a_2] [] (γ := Unit) (fun q => []) (fun q => .one (.val (S rB r))) := by
 unfold law09_EventBytes'2 at hm
 refine Sim.of Try.func6 rfl rfl (Nat.le_of_ble_eq_true rfl) (fun e0 w0 => ?_)
 refine JC.at ⟨[(0, ov (A r_api_Event t_1)), (1, ov (S (rL (rU UInt8)) a_2))], [], []⟩ ?_
 refine JC.seq ?_
 refine JC.region ?_
 refine jx (op_boxA lb (.tmp rfl)) (fun q => ?_)
 obtain ⟨gb_3, hqq⟩ : ∃ z, z = q := ⟨_, rfl⟩
 subst hqq
 refine jc (op_assign lb .cB) ?_
 refine JL.nil ?_
 refine JQ.then ?_
 refine JC.seq ?_
 replace hm := bnd_inv hm
 obtain ⟨x_7, hx1, hq1⟩ := hm
 refine JC.seqJ (γ := Unit) (stj := fun q => ⟨[(1, ov (S (rL (rU UInt8)) a_2)), (2, ov (PTR gb_3 0)), (19, ov (S rB x_7))], [cvar gb_3 r_api_Event t_1], []⟩) (fun q => ?_) ?_
 · obtain _ := q
   refine JC.at ⟨[(1, ov (S (rL (rU UInt8)) a_2)), (2, ov (PTR gb_3 0)), (19, ov (S rB x_7))], [cvar gb_3 r_api_Event t_1], []⟩ ?_
   replace hq1 := iteB_inv hq1
   rcases hq1 with ⟨hc6, hq1⟩ | ⟨hc6, hq1⟩
   · refine JC.condT (.tmp rfl) hc6 ?_
     refine JC.seq ?_
     refine JC.region ?_
     replace hq1 := bnd_inv hq1
     obtain ⟨v_8, hv_v_8, hq1⟩ := hq1
     refine jx (op_call (js := []) ld cl10 (sim_law09_known k v_8 hv_v_8) .func .nil rfl) (fun _ => ?_)
     refine jc (op_assign lb (.tmp rfl)) ?_
     refine JL.nil ?_
     refine JQ.then ?_
     refine JC.ret ?_
     refine JQ.outR ?_
     replace hq1 := Option.some.inj hq1
     subst hq1
     exact JQ.done (js := []) (ss := [.val (S rB v_8)]) () (.inl rfl) (.nil rfl) rfl (.cons (.tmp rfl) .nil) rfl rfl rfl
   · refine JC.condF (.tmp rfl) hc6 ?_
     refine JC.skip ?_
     refine JQ.then ?_
     refine JC.seq ?_
     refine JC.region ?_
     refine jc (op_loadA (j := 0) lb tA38 (.tmp rfl) rfl (Comp.self r_api_Event t_1) rfl) ?_
     replace hq1 := bnd_inv hq1
     obtain ⟨⟨v_9, v_10⟩, hv_v_9, hq1⟩ := hq1
     refine jx (op_call (js := []) ld cl16 (sim_event_Bytes k t_1 (v_9, v_10) hv_v_9) .func (.cons (.tmp rfl) .nil) rfl) (fun q => ?_)
     obtain ⟨go_11, gc_12⟩ := q
     refine jc (op_move lb (.tmp rfl)) ?_
     refine jc (op_extract (i := 0) lb (.tmp rfl) rfl) ?_
     refine jc (op_extract (i := 1) lb (.tmp rfl) rfl) ?_
     refine jc (op_assign lb (.tmp rfl)) ?_
     refine jc (op_assign lb (.tmp rfl)) ?_
     refine JL.nil ?_
     refine JQ.then ?_
     refine JC.seq ?_
     refine JC.seq ?_
     replace hq1 := bnd_inv hq1
     obtain ⟨v_13, hv_v_13, hq1⟩ := hq1
     replace hq1 := bnd_inv hq1
     obtain ⟨v_14, hv_v_14, hq1⟩ := hq1
     replace hq1 := lt1_inv hq1
     obtain ⟨v_15, hv_v_15, hq1⟩ := hq1
     refine JC.anyE (kl := []) (kk := 0) (base := [(1, ov (S (rL (rU UInt8)) a_2)), (2, ov (PTR gb_3 0)), (5, ov (HDR go_11 0 (List.length v_9) gc_12)), (6, ov (S (rI .i64) v_10))])
         (fs := fun γ => [⟨some 26, ov (A r_api_Event t_1)⟩, ⟨some 27, ov (S rB v_13)⟩, ⟨some 28, ov (A r_api_Event t_1)⟩, ⟨some 29, ov (S rB v_14)⟩, ⟨some 30, ov (S rB v_15)⟩])
         (rs := fun γ => [⟨cown go_11 (rU UInt8) v_9 0 gc_12, none, none, []⟩, ⟨cvar gb_3 r_api_Event t_1, none, none, [0, 2]⟩])
         (ds := [26, 27, 28, 29, 30]) (bs := [1, 2, 5, 6]) (afts := [[], [], [], [], []]) (js := [0, 0]) mixed (.cons rfl (.cons rfl (.cons rfl (.cons rfl .nil)))) (fun _ => rfl)
         (by
      refine DSteps.cons (j := 1) rfl (fun _ => rfl) (.run (fun γ ρ B hb hd => ⟨.none, OpStep.at ⟨ρ, (cvar gb_3 r_api_Event t_1) :: B, _⟩ (setO ⟨ρ, (cvar gb_3 r_api_Event t_1) :: B, _⟩ _ _) (op_loadA (j := 0) lb tA38 (.tmp (hb 2 _ rfl)) rfl (Comp.self r_api_Event t_1) rfl)⟩)) ?_
      refine dS 2 (fun γ ρ B hb hd => (op_call (js := []) ld cl17 (sim_event_May k t_1 v_13 hv_v_13) .func (.cons (.tmp (hl hd 0 26 rfl)) .nil) rfl).post (fun _ => Imp.refl)) ?_
      refine DSteps.cons (j := 3) rfl (fun _ => rfl) (.run (fun γ ρ B hb hd => ⟨.none, OpStep.at ⟨ρ, (cvar gb_3 r_api_Event t_1) :: B, _⟩ (setO ⟨ρ, (cvar gb_3 r_api_Event t_1) :: B, _⟩ _ _) (op_loadA (j := 0) lb tA38 (.tmp (hb 2 _ rfl)) rfl (Comp.self r_api_Event t_1) rfl)⟩)) ?_
      refine dS 4 (fun γ ρ B hb hd => (op_call (js := []) ld cl18 (sim_ref09_May k t_1 v_14 hv_v_14) .func (.cons (.tmp (hl hd 2 28 rfl)) .nil) rfl).post (fun _ => Imp.refl)) ?_
      refine dS 5 (fun γ ρ B hb hd => op_neB lb tu4 (.tmp (hl hd 1 27 rfl)) (.tmp (hl hd 3 29 rfl)) hv_v_15) ?_
      exact DSteps.nil)
         (by decide +kernel) (fun _ => rfl) rfl (fun _ => rfl) (fun _ => rfl) rfl (by decide) (by decide) (by decide +kernel) (fun _ d h => by cases h)
         (ρ' := fun γ => [(1, ov (S (rL (rU UInt8)) a_2)), (2, ov (PTR gb_3 0)), (5, ov (HDR go_11 0 (List.length v_9) gc_12)), (6, ov (S (rI .i64) v_10)), (30, ov (S rB v_15))])
         (X' := fun γ => [cown go_11 (rU UInt8) v_9 0 gc_12, cvar gb_3 r_api_Event t_1])
         (fun γ ρ hb hd => (.cons (hb 1 _ rfl (by decide)) (.cons (hb 2 _ rfl (by decide)) (.cons (hb 5 _ rfl (by decide)) (.cons (hb 6 _ rfl (by decide)) (.cons (hdq hd 4 30 rfl) .nil)))))) (fun _ => rfl) (fun γ => ?_)
     refine JQ.at ⟨[(1, ov (S (rL (rU UInt8)) a_2)), (2, ov (PTR gb_3 0)), (5, ov (HDR go_11 0 (List.length v_9) gc_12)), (6, ov (S (rI .i64) v_10)), (30, ov (S rB v_15))], [cown go_11 (rU UInt8) v_9 0 gc_12, cvar gb_3 r_api_Event t_1], []⟩ ?_
     refine JQ.then ?_
     replace hq1 := iteB_inv hq1
     rcases hq1 with ⟨hc7, hq1⟩ | ⟨hc7, hq1⟩
     · refine JC.condT (.tmp rfl) hc7 ?_
       refine JC.seq ?_
       refine JC.region ?_
       refine jc (op_assign lb .cB) ?_
       refine JL.nil ?_
       refine JQ.then ?_
       refine JC.ret ?_
       refine JQ.outR ?_
       replace hq1 := Option.some.inj hq1
       subst hq1
       exact JQ.done (js := []) (ss := [.val (S rB false)]) () (.inl rfl) (.nil rfl) rfl (.cons (.tmp rfl) .nil) rfl rfl rfl
     · refine JC.condF (.tmp rfl) hc7 ?_
       refine JC.skip ?_
       refine JQ.then ?_
       replace hq1 := bnd_inv hq1
       obtain ⟨tv8, hx8, hq8⟩ := hq1
       refine JC.seqK (α := Unit) (γ := Unit) (stj := fun v q => ⟨[(1, ov (S (rL (rU UInt8)) a_2))], [], []⟩) (p := fun v => tv8 = (.inl v)) (fun v q hv => ?_) ?_
       · subst hv
         skip
         obtain _ := q
         dsimp only at hq8
         refine JC.at ⟨[(1, ov (S (rL (rU UInt8)) a_2))], [], []⟩ ?_
         refine JC.seq ?_
         refine JC.region ?_
         refine jc (op_move lb (.tmp rfl)) ?_
         refine jc (op_convBS lb tu35 tu5 tu9 (.tmp rfl)) ?_
         refine jc (op_assign lb (.tmp rfl)) ?_
         refine JL.nil ?_
         refine JQ.then ?_
         refine JC.seq ?_
         refine JC.region ?_
         refine jc (op_move lb (.tmp rfl)) ?_
         replace hq8 := bnd_inv hq8
         obtain ⟨⟨v_30, v_31, x_32, x_33, x_34, x_35, x_36, x_37⟩, hv_v_30, hq8⟩ := hq8
         refine jx (op_call (js := []) ld cl21 (sim_event_Of'2 k a_2 (v_30, v_31, x_32, x_33, x_34, x_35, x_36, x_37) hv_v_30) .func (.cons (.tmp rfl) .nil) rfl) (fun q => ?_)
         obtain ⟨go_38, gc_39, go_40, gc_41⟩ := q
         refine jc (op_move lb (.tmp rfl)) ?_
         refine jc (op_extract (i := 0) lb (.tmp rfl) rfl) ?_
         refine jc (op_extract (i := 1) lb (.tmp rfl) rfl) ?_
         refine jx (op_alloc lb tZ38 zr38) (fun q => ?_)
         obtain ⟨gb_42, hqq⟩ : ∃ z, z = q := ⟨_, rfl⟩
         subst hqq
         refine JL.sub ⟨[(1, ov (S (rL (rU UInt8)) a_2)), (7, ov (S rS a_2)), (8, ov (PTR gb_42 0)), (57, ov (A (rP r_api_Dot (rP rS (rP (rW (HDX go_38 (x_33 * 1) x_34)) (rP (rV 16 (rU UInt64)) (rP (rW (HDR go_40 0 (List.length x_36) gc_41)) r0))))) (v_30, (v_31, ((), (x_35, ((), ()))))))), (58, ov (S (rI .i64) x_37))], [cown go_38 (rU UInt8) x_32 0 gc_39, cown go_40 r_api_Dest x_36 (List.length x_36) gc_41, cvar gb_42 (rP r_api_Dot (rP rS (rP (rW (HDR none 0 0 0)) (rP (rV 16 (rU UInt64)) (rP (rW (HDR none 0 0 0)) r0))))) ((api_Dot.mk (0 : Int) (0 : UInt64)), (([] : (List UInt8)), ((), ((Vector.replicate 16 (0 : UInt64)), ((), ())))))], []⟩ (.cons rfl (.cons rfl (.cons rfl (.cons rfl (.cons rfl .nil))))) rfl rfl ?_
         refine jc (op_storeA (j := 2) tA38 (.tmp rfl) (.tmp rfl) rfl (UpdR.self (by rfl)) rfl) ?_
         refine jc (op_assign lb (.tmp rfl)) ?_
         refine JL.nil ?_
         refine JQ.then ?_
         refine JC.seq ?_
         refine JC.region ?_
         refine jc (op_move lb (.tmp rfl)) ?_
         refine jc (op_convSB lb tu9 tu35 tu5 (.tmp rfl)) ?_
         replace hq8 := bnd_inv hq8
         obtain ⟨⟨v_43, v_44⟩, hv_v_43, hq8⟩ := hq8
         refine jx (op_call (js := []) ld cl22 (sim_ref09_Of k a_2 (v_43, v_44) hv_v_43) .func (.cons (.tmp rfl) .nil) rfl) (fun _ => ?_)
         refine jc (op_move lb (.tmp rfl)) ?_
         refine jc (op_extract (i := 0) lb (.tmp rfl) rfl) ?_
         refine jc (op_extract (i := 1) lb (.tmp rfl) rfl) ?_
         refine jx (op_alloc lb tZ38 zr38) (fun q => ?_)
         obtain ⟨gb_45, hqq⟩ : ∃ z, z = q := ⟨_, rfl⟩
         subst hqq
         refine JL.sub ⟨[(1, ov (S (rL (rU UInt8)) a_2)), (7, ov (S rS a_2)), (8, ov (PTR gb_42 0)), (9, ov (S (rI .i64) x_37)), (10, ov (PTR gb_45 0)), (63, ov (A r_api_Event v_43)), (64, ov (S rB v_44))], [cown go_38 (rU UInt8) x_32 0 gc_39, cown go_40 r_api_Dest x_36 (List.length x_36) gc_41, cvar gb_42 (rP r_api_Dot (rP rS (rP (rW (HDX go_38 (x_33 * 1) x_34)) (rP (rV 16 (rU UInt64)) (rP (rW (HDR go_40 0 (List.length x_36) gc_41)) r0))))) (v_30, (v_31, ((), (x_35, ((), ()))))), cvar gb_45 (rP r_api_Dot (rP rS (rP (rW (HDR none 0 0 0)) (rP (rV 16 (rU UInt64)) (rP (rW (HDR none 0 0 0)) r0))))) ((api_Dot.mk (0 : Int) (0 : UInt64)), (([] : (List UInt8)), ((), ((Vector.replicate 16 (0 : UInt64)), ((), ())))))], []⟩ (.cons rfl (.cons rfl (.cons rfl (.cons rfl (.cons rfl (.cons rfl (.cons rfl .nil))))))) rfl rfl ?_
         refine jc (op_storeA (j := 3) tA38 (.tmp rfl) (.tmp rfl) rfl (UpdR.self (by rfl)) rfl) ?_
         refine jc (op_assign lb (.tmp rfl)) ?_
         refine JL.nil ?_
         refine JQ.then ?_
         refine JC.seq ?_
         replace hq8 := bnd_inv hq8
         obtain ⟨x_57, hx22, hq22⟩ := hq8
         refine JC.seqJ (γ := Unit) (stj := fun q => ⟨[(1, ov (S (rL (rU UInt8)) a_2)), (7, ov (S rS a_2)), (8, ov (PTR gb_42 0)), (84, ov (S rB x_57))], [cvar gb_42 (rP r_api_Dot (rP rS (rP (rW (HDX go_38 (x_33 * 1) x_34)) (rP (rV 16 (rU UInt64)) (rP (rW (HDR go_40 0 (List.length x_36) gc_41)) r0))))) (v_30, (v_31, ((), (x_35, ((), ()))))), cown go_38 (rU UInt8) x_32 0 gc_39, cown go_40 r_api_Dest x_36 (List.length x_36) gc_41], []⟩) (fun q => ?_) ?_
         · obtain _ := q
           refine JC.at ⟨[(1, ov (S (rL (rU UInt8)) a_2)), (7, ov (S rS a_2)), (8, ov (PTR gb_42 0)), (84, ov (S rB x_57))], [cvar gb_42 (rP r_api_Dot (rP rS (rP (rW (HDX go_38 (x_33 * 1) x_34)) (rP (rV 16 (rU UInt64)) (rP (rW (HDR go_40 0 (List.length x_36) gc_41)) r0))))) (v_30, (v_31, ((), (x_35, ((), ()))))), cown go_38 (rU UInt8) x_32 0 gc_39, cown go_40 r_api_Dest x_36 (List.length x_36) gc_41], []⟩ ?_
           replace hq22 := iteB_inv hq22
           rcases hq22 with ⟨hc38, hq22⟩ | ⟨hc38, hq22⟩
           · refine JC.condT (.tmp rfl) hc38 ?_
             refine JC.seq ?_
             refine JC.region ?_
             refine jc (op_assign lb .cB) ?_
             refine JL.nil ?_
             refine JQ.then ?_
             refine JC.ret ?_
             refine JQ.outR ?_
             replace hq22 := Option.some.inj hq22
             subst hq22
             exact JQ.done (js := []) (ss := [.val (S rB false)]) () (.inl rfl) (.nil rfl) rfl (.cons (.tmp rfl) .nil) rfl rfl rfl
           · refine JC.condF (.tmp rfl) hc38 ?_
             refine JC.skip ?_
             refine JQ.then ?_
             replace hq22 := bnd_inv hq22
             obtain ⟨_, hx39, hq39⟩ := hq22
             refine JC.seqJ (γ := Unit) (stj := fun q => ⟨[(1, ov (S (rL (rU UInt8)) a_2)), (7, ov (S rS a_2))], [], []⟩) (fun q => ?_) ?_
             · obtain _ := q
               refine JC.at ⟨[(1, ov (S (rL (rU UInt8)) a_2)), (7, ov (S rS a_2))], [], []⟩ ?_
               replace hq39 := bnd_inv hq39
               obtain ⟨x_67, hx42, hq42⟩ := hq39
               refine JC.seqJ (γ := Unit) (stj := fun q => ⟨[(4, ov (S rB x_67))], [], []⟩) (fun q => ?_) ?_
               · obtain _ := q
                 refine JC.at ⟨[(4, ov (S rB x_67))], [], []⟩ ?_
                 refine JC.ret ?_
                 replace hq42 := Option.some.inj hq42
                 subst hq42
                 exact JQ.done (js := []) (ss := [.val (S rB x_67)]) () (.inl rfl) (.nil rfl) rfl (.cons (.tmp rfl) .nil) rfl rfl rfl
               · refine JC.region ?_
                 refine jc (op_move lb (.tmp rfl)) ?_
                 refine jc (op_convBS lb tu35 tu5 tu9 (.tmp rfl)) ?_
                 refine jc (op_move lb (.tmp rfl)) ?_
                 replace hx42 := lt1_inv hx42
                 obtain ⟨v_64, hv_v_64, hx42⟩ := hx42
                 refine jc (op_cmpS lb (.tmp rfl) (.tmp rfl) (congrArg some hv_v_64)) ?_
                 refine jc (op_move lb (.tmp rfl)) ?_
                 replace hx42 := bnd_inv hx42
                 obtain ⟨v_65, hv_v_65, hx42⟩ := hx42
                 refine JL.cnd (sv := ov (S rB v_65)) (Guard.isT (ltB rfl) rfl rfl) rfl (ltB rfl) (fun hq_43 => (op_call (js := []) ld cl10 (sim_law09_known k v_65 (ifT hv_v_65 hq_43)) .func .nil rfl).post (fun _ => Imp.refl)) ?_
                 replace hx42 := lt1_inv hx42
                 obtain ⟨v_66, hv_v_66, hx42⟩ := hx42
                 refine jc (op_pickCS lb (.tmp rfl) (fun hb44 => (HasO.cnd (.tmp rfl) hb44)) (fun hb44 => .cB) hv_v_66) ?_
                 refine jc (op_assign lb (.tmp rfl)) ?_
                 refine JL.nil ?_
                 replace hx42 := Option.some.inj hx42
                 first | subst hx42 | clear hx42
                 exact JQ.join () (Imp.norm (js := []) rfl (.cons rfl .nil))
             · refine JC.seq ?_
               refine JC.region ?_
               refine jc (op_assign lb .cI) ?_
               refine JL.nil ?_
               refine JQ.then ?_
               refine JC.block ?_
               refine JC.pre ?_ (JC.loop (γ := Unit) (stf := fun s q => ⟨[(1, ov (S (rL (rU UInt8)) a_2)), (7, ov (S rS a_2)), (8, ov (PTR gb_42 0)), (12, ov (S (rI .i64) s.2))], [cvar gb_42 (rP r_api_Dot (rP rS (rP (rW (HDX go_38 (x_33 * 1) x_34)) (rP (rV 16 (rU UInt64)) (rP (rW (HDR go_40 0 (List.length x_36) gc_41)) r0))))) (v_30, (v_31, ((), (x_35, ((), ()))))), cown go_38 (rU UInt8) s.1 0 gc_39, cown go_40 r_api_Dest x_36 (List.length x_36) gc_41], []⟩) (q := ()) hx39 ?_)
               · exact (Imp.norm (js := [0, 0, 0]) rfl (.cons rfl (.cons rfl (.cons rfl (.cons rfl .nil)))))
               · intro s q x hx hr
                 obtain ⟨x_58, x_59⟩ := s
                 obtain _ := q
                 change law09_EventBytes'2.b1 k x_34 x_33 x_58 x_59 = some x at hx
                 unfold law09_EventBytes'2.b1 at hx
                 refine JC.at ⟨[(1, ov (S (rL (rU UInt8)) a_2)), (7, ov (S rS a_2)), (8, ov (PTR gb_42 0)), (12, ov (S (rI .i64) x_59))], [cvar gb_42 (rP r_api_Dot (rP rS (rP (rW (HDX go_38 (x_33 * 1) x_34)) (rP (rV 16 (rU UInt64)) (rP (rW (HDR go_40 0 (List.length x_36) gc_41)) r0))))) (v_30, (v_31, ((), (x_35, ((), ()))))), cown go_38 (rU UInt8) x_58 0 gc_39, cown go_40 r_api_Dest x_36 (List.length x_36) gc_41], []⟩ ?_
                 refine JC.seq ?_
                 refine JC.seq ?_
                 refine JC.region ?_
                 refine jc (op_move lb (.tmp rfl)) ?_
                 refine jc (op_fieldAddr (off := 3) lb tf38_2 (.tmp rfl)) ?_
                 refine jc (op_loadW (j := 0) lb tS35 (.tmp rfl) rfl (Comp.trans (Comp.self (rP r_api_Dot (rP rS (rP (rW (HDX go_38 (x_33 * 1) x_34)) (rP (rV 16 (rU UInt64)) (rP (rW (HDR go_40 0 (List.length x_36) gc_41)) r0))))) (v_30, (v_31, ((), (x_35, ((), ())))))) (Comp.at' (Comp.inS (Comp.inS (Comp.inF (Comp.self (rW (HDX go_38 (x_33 * 1) x_34)) ()) (Nat.le_of_ble_eq_true rfl)))) (by rfl : _ = 3)) (Nat.le_of_ble_eq_true rfl))) ?_
                 refine jc (op_lenX lb tu35 (.tmp rfl)) ?_
                 replace hx := lt1_inv hx
                 obtain ⟨v_60, hv_v_60, hx⟩ := hx
                 refine jc (op_cmpI lb (.tmp rfl) (.tmp rfl) (congrArg some hv_v_60)) ?_
                 refine JL.nil ?_
                 refine JQ.then ?_
                 replace hx := iteB_inv hx
                 rcases hx with ⟨hc41, hx⟩ | ⟨hc41, hx⟩
                 · refine JC.condT (.tmp rfl) hc41 ?_
                   refine JC.skip ?_
                   refine JQ.then ?_
                   refine JC.seq ?_
                   refine JC.block ?_
                   refine JC.region ?_
                   refine jc (op_fieldAddr (off := 3) lb tf38_2 (.tmp rfl)) ?_
                   refine jc (op_loadW (j := 0) lb tS35 (.tmp rfl) rfl (Comp.trans (Comp.self (rP r_api_Dot (rP rS (rP (rW (HDX go_38 (x_33 * 1) x_34)) (rP (rV 16 (rU UInt64)) (rP (rW (HDR go_40 0 (List.length x_36) gc_41)) r0))))) (v_30, (v_31, ((), (x_35, ((), ())))))) (Comp.at' (Comp.inS (Comp.inS (Comp.inF (Comp.self (rW (HDX go_38 (x_33 * 1) x_34)) ()) (Nat.le_of_ble_eq_true rfl)))) (by rfl : _ = 3)) (Nat.le_of_ble_eq_true rfl))) ?_
                   refine jc (op_move lb (.tmp rfl)) ?_
                   replace hx := bnd_inv hx
                   obtain ⟨i_61, hv_i_61, hx⟩ := hx
                   refine jc (op_indexAddrXF (r := (rU UInt8)) (o := x_33) lb tu35 tz5 (.tmp rfl) (.tmp rfl) hv_i_61) ?_
                   replace hx := bnd_inv hx
                   obtain ⟨x_62, hv_x_62, hx⟩ := hx
                   refine jc (op_storeOSg (r := (rU UInt8)) (j := 1) tS5 rfl rfl (.tmp rfl) (HasO.cU (x := (9 : UInt8)) rfl (by decide)) hv_x_62) ?_
                   refine JL.sub ⟨[(1, ov (S (rL (rU UInt8)) a_2)), (7, ov (S rS a_2)), (8, ov (PTR gb_42 0)), (12, ov (S (rI .i64) x_59))], [cvar gb_42 (rP r_api_Dot (rP rS (rP (rW (HDX go_38 (x_33 * 1) x_34)) (rP (rV 16 (rU UInt64)) (rP (rW (HDR go_40 0 (List.length x_36) gc_41)) r0))))) (v_30, (v_31, ((), (x_35, ((), ()))))), cown go_38 (rU UInt8) x_62 0 gc_39, cown go_40 r_api_Dest x_36 (List.length x_36) gc_41], []⟩ (.cons rfl (.cons rfl (.cons rfl (.cons rfl .nil)))) rfl rfl ?_
                   refine JL.nil ?_
                   refine JQ.outNB ?_
                   refine JQ.then ?_
                   refine JC.region ?_
                   refine jc (op_move lb (.tmp rfl)) ?_
                   replace hx := lt1_inv hx
                   obtain ⟨v_63, hv_v_63, hx⟩ := hx
                   refine jc (op_arI lb (.tmp rfl) .cI (congrArg some hv_v_63)) ?_
                   refine jc (op_assign lb (.tmp rfl)) ?_
                   refine JL.nil ?_
                   replace hx := Option.some.inj hx
                   first | subst hx | clear hx
                   exact JQ.next () rfl (Imp.norm (js := [0, 0, 0]) rfl (.cons rfl (.cons rfl (.cons rfl (.cons rfl .nil)))))
                 · refine JC.condF (.tmp rfl) hc41 ?_
                   refine JC.exit ?_
                   refine JQ.outX ?_
                   replace hx := Option.some.inj hx
                   first | subst hx | clear hx
                   have ht := hr _ rfl
                   have hq40 := congrArg some ht
                   clear hr ht
                   refine JQ.outX ?_
                   refine JQ.here ?_
                   exact JQ.join () (Imp.norm (js := []) rfl (.cons rfl (.cons rfl .nil)))
         · refine JC.region ?_
           refine jc (op_loadA (j := 2) lb tA38 (.tmp rfl) rfl (Comp.self (rP r_api_Dot (rP rS (rP (rW (HDX go_38 (x_33 * 1) x_34)) (rP (rV 16 (rU UInt64)) (rP (rW (HDR go_40 0 (List.length x_36) gc_41)) r0))))) (v_30, (v_31, ((), (x_35, ((), ())))))) rfl) ?_
           refine jc (op_loadA (j := 3) lb tA38 (.tmp rfl) rfl (Comp.self r_api_Event v_43) rfl) ?_
           replace hx22 := bnd_inv hx22
           obtain ⟨v_46, hv_v_46, hx22⟩ := hx22
           refine JL.pre (Imp.frz (j := 1) rfl (ImpK.slotA (s := 65) (q := (rP r_api_Dot (rP rS (rP (rW (HDX go_38 (x_33 * 1) x_34)) (rP (rV 16 (rU UInt64)) (rP (rW (HL go_40 r_api_Dest x_36 gc_41)) r0)))))) (y := (v_30, (v_31, ((), (x_35, ((), ())))))) rfl (Wk.pair Wk.refl (Wk.pair Wk.refl (Wk.pair Wk.refl (Wk.pair Wk.refl (Wk.pair Wk.own Wk.refl))))) (ImpK.var (j := 2) (q := (rP r_api_Dot (rP rS (rP (rW (HDX go_38 (x_33 * 1) x_34)) (rP (rV 16 (rU UInt64)) (rP (rW (HL go_40 r_api_Dest x_36 gc_41)) r0)))))) (y := (v_30, (v_31, ((), (x_35, ((), ())))))) rfl (Wk.pair Wk.refl (Wk.pair Wk.refl (Wk.pair Wk.refl (Wk.pair Wk.refl (Wk.pair Wk.own Wk.refl))))) ImpK.refl))) ?_
           refine jx (op_call (js := [0]) ld cl23 (sim_ref09_Same k v_30 v_31 x_33 x_34 x_35 x_36 v_43 x_32 go_38 gc_39 v_46 hv_v_46) .func (.cons (HasO.wk (q := A (rP r_api_Dot (rP rS (rP (rW (HDX go_38 (x_33 * 1) x_34)) (rP (rV 16 (rU UInt64)) (rP (rL r_api_Dest) r0))))) (v_30, (v_31, ((), (x_35, (x_36, ())))))) (.tmp rfl) (wkAK (Wk.pair Wk.refl (Wk.pair Wk.refl (Wk.pair Wk.refl (Wk.pair Wk.refl (Wk.pair Wk.hl Wk.refl))))))) (.cons (.tmp rfl) .nil)) rfl) (fun _ => ?_)
           replace hx22 := lt1_inv hx22
           obtain ⟨v_47, hv_v_47, hx22⟩ := hx22
           refine jc (op_not lb (.tmp rfl) hv_v_47) ?_
           refine jc (op_move lb (.tmp rfl)) ?_
           refine JL.cnd (sv := ov (S (rI .i64) x_37)) (Guard.isF (ltB rfl) rfl rfl) rfl (ltB rfl) (fun hq_23 => op_move lb (.tmp rfl)) ?_
           refine JL.nrm ⟨[(1, ov (S (rL (rU UInt8)) a_2)), (7, ov (S rS a_2)), (8, ov (PTR gb_42 0)), (9, ov (S (rI .i64) x_37)), (11, ov (S rB v_44)), (69, ov (S rB v_47)), (70, bif (!v_47) then ov (S (rI .i64) x_37) else .one .und)], [cown go_38 (rU UInt8) x_32 0 gc_39, cown go_40 r_api_Dest x_36 (List.length x_36) gc_41, cvar gb_42 (rP r_api_Dot (rP rS (rP (rW (HDX go_38 (x_33 * 1) x_34)) (rP (rV 16 (rU UInt64)) (rP (rW (HL go_40 r_api_Dest x_36 gc_41)) r0))))) (v_30, (v_31, ((), (x_35, ((), ())))))], []⟩ [0, 0, 0] rfl (.cons rfl (.cons rfl (.cons rfl (.cons rfl (.cons rfl (.cons rfl (.cons rfl .nil))))))) rfl ?_
           replace hx22 := bnd_inv hx22
           obtain ⟨_, hv_u_48, hx22⟩ := hx22
           refine JL.cnd (sv := ov (S (rI .i64) x_37)) (Guard.isF (ltB rfl) rfl rfl) rfl (ltB rfl) (fun hq_24 => (op_call (js := []) ld cl20 (sim_law09_num k x_37 () (ifT hv_u_48 hq_24)) .func (.cons (HasO.cnd (.tmp rfl) (notT (notF hq_24))) .nil) rfl).post (fun _ => Imp.refl)) ?_
           replace hx22 := lt1_inv hx22
           obtain ⟨v_49, hv_v_49, hx22⟩ := hx22
           refine JL.cnd (sv := ov (S rB v_49)) (Guard.isF (ltB rfl) rfl rfl) rfl (ltB rfl) (fun hq_25 => op_cmpI lb (HasO.cnd (.tmp rfl) (notT (notF hq_25))) .cI (congrArg some hv_v_49)) ?_
           refine JL.cnd (sv := ov (S rB v_44)) (Guard.isF (ltB rfl) rfl rfl) rfl (ltB rfl) (fun hq_26 => op_move lb (.tmp rfl)) ?_
           replace hx22 := lt1_inv hx22
           obtain ⟨v_50, hv_v_50, hx22⟩ := hx22
           refine JL.cnd (sv := ov (S rB v_50)) (Guard.isF (ltB rfl) rfl rfl) rfl (ltB rfl) (fun hq_27 => op_neB lb tu4 (HasO.cnd (.tmp rfl) (notT (notF hq_27))) (HasO.cnd (.tmp rfl) (notT (notF hq_27))) hv_v_50) ?_
           replace hx22 := lt1_inv hx22
           obtain ⟨v_51, hv_v_51, hx22⟩ := hx22
           refine jc (op_pickCS lb (.tmp rfl) (fun hb28 => .cB) (fun hb28 => (HasO.cnd (.tmp rfl) (notT hb28))) hv_v_51) ?_
           refine jc (op_move lb (.tmp rfl)) ?_
           refine JL.cnd (sv := ov (S rB v_44)) (Guard.isF (ltB rfl) rfl rfl) rfl (ltB rfl) (fun hq_29 => op_move lb (.tmp rfl)) ?_
           replace hx22 := lt1_inv hx22
           obtain ⟨v_52, hv_v_52, hx22⟩ := hx22
           refine JL.cnd (sv := ov (S rB v_52)) (Guard.isF (ltB rfl) rfl rfl) rfl (ltB rfl) (fun hq_30 => op_not lb (HasO.cnd (.tmp rfl) (notT (notF hq_30))) hv_v_52) ?_
           refine JL.cnd (sv := ov (S rB v_52)) (Guard.isF (ltB rfl) rfl rfl) rfl (ltB rfl) (fun hq_31 => op_move lb (HasO.cnd (.tmp rfl) (notT (notF hq_31)))) ?_
           refine JL.cnd (sv := ov (S (rI .i64) x_37)) (Guard.cT (q := (!v_51)) (ltB rfl) rfl rfl) rfl (ltB rfl) (fun hq_32 => op_move lb (.tmp rfl)) ?_
           replace hx22 := bnd_inv hx22
           obtain ⟨_, hv_u_53, hx22⟩ := hx22
           refine JL.cnd (sv := ov (S (rI .i64) x_37)) (Guard.cT (q := (!v_51)) (ltB rfl) rfl rfl) rfl (ltB rfl) (fun hq_33 => (op_call (js := []) ld cl20 (sim_law09_num k x_37 () (ifT hv_u_53 hq_33)) .func (.cons (HasO.cnd (.tmp rfl) (andI (notT (notF (andL hq_33))) (andR hq_33))) .nil) rfl).post (fun _ => Imp.refl)) ?_
           replace hx22 := lt1_inv hx22
           obtain ⟨v_54, hv_v_54, hx22⟩ := hx22
           refine JL.cnd (sv := ov (S rB v_54)) (Guard.cT (q := (!v_51)) (ltB rfl) rfl rfl) rfl (ltB rfl) (fun hq_34 => op_cmpI lb (HasO.cnd (.tmp rfl) (andI (notT (notF (andL hq_34))) (andR hq_34))) .cI (congrArg some hv_v_54)) ?_
           refine JL.sub ⟨[(1, ov (S (rL (rU UInt8)) a_2)), (7, ov (S rS a_2)), (8, ov (PTR gb_42 0)), (76, ov (S rB v_51)), (79, bif (!v_51) then ov (S rB v_52) else .one .und), (82, bif ((!v_51) && v_52) then ov (S rB v_54) else .one .und)], [cown go_38 (rU UInt8) x_32 0 gc_39, cown go_40 r_api_Dest x_36 (List.length x_36) gc_41, cvar gb_42 (rP r_api_Dot (rP rS (rP (rW (HDX go_38 (x_33 * 1) x_34)) (rP (rV 16 (rU UInt64)) (rP (rW (HL go_40 r_api_Dest x_36 gc_41)) r0))))) (v_30, (v_31, ((), (x_35, ((), ())))))], []⟩ (.cons rfl (.cons rfl (.cons rfl (.cons rfl (.cons rfl (.cons rfl .nil)))))) rfl rfl ?_
           replace hx22 := lt1_inv hx22
           obtain ⟨v_55, hv_v_55, hx22⟩ := hx22
           refine JL.cnd (sv := ov (S rB v_55)) (Guard.isF (ltB rfl) rfl rfl) rfl (ltB rfl) (fun hq_35 => op_pickCS lb (HasO.cnd (.tmp rfl) (notT (notF hq_35))) (fun hb36 => (HasO.cnd (.tmp rfl) (andI (notT (notF hq_35)) hb36))) (fun hb36 => .cB) hv_v_55) ?_
           replace hx22 := lt1_inv hx22
           obtain ⟨v_56, hv_v_56, hx22⟩ := hx22
           refine jc (op_pickCS lb (.tmp rfl) (fun hb37 => .cB) (fun hb37 => (HasO.cnd (.tmp rfl) (notT hb37))) hv_v_56) ?_
           refine JL.nil ?_
           replace hx22 := Option.some.inj hx22
           first | subst hx22 | clear hx22
           refine JQ.pre (Imp.var (j := 2) (q := (rP r_api_Dot (rP rS (rP (rW (HDX go_38 (x_33 * 1) x_34)) (rP (rV 16 (rU UInt64)) (rP (rW (HDR go_40 0 (List.length x_36) gc_41)) r0)))))) (y := (v_30, (v_31, ((), (x_35, ((), ())))))) rfl (Wk.pair Wk.refl (Wk.pair Wk.refl (Wk.pair Wk.refl (Wk.pair Wk.refl (Wk.pair Wk.hh Wk.refl)))))) ?_
           exact JQ.join () (Imp.norm (js := [2, 0, 0]) rfl (.cons rfl (.cons rfl (.cons rfl (.cons rfl .nil)))))
       · refine JC.seq ?_
         refine JC.region ?_
         refine jc (op_loadA (j := 1) lb tA38 (.tmp rfl) rfl (Comp.self r_api_Event t_1) rfl) ?_
         replace hx8 := bnd_inv hx8
         obtain ⟨v_16, hv_v_16, hx8⟩ := hx8
         refine jx (op_call (js := []) ld cl18 (sim_ref09_May k t_1 v_16 hv_v_16) .func (.cons (.tmp rfl) .nil) rfl) (fun _ => ?_)
         refine JL.nil ?_
         refine JQ.then ?_
         replace hx8 := iteB_inv hx8
         rcases hx8 with ⟨hc9, hx8⟩ | ⟨hc9, hx8⟩
         · refine JC.condT (.tmp rfl) hc9 ?_
           replace hx8 := bnd_inv hx8
           obtain ⟨x_24, hx10, hq10⟩ := hx8
           refine JC.seqJ (γ := Unit) (stj := fun q => ⟨[(1, ov (S (rL (rU UInt8)) a_2)), (43, ov (S rB x_24))], [], []⟩) (fun q => ?_) ?_
           · obtain _ := q
             refine JC.at ⟨[(1, ov (S (rL (rU UInt8)) a_2)), (43, ov (S rB x_24))], [], []⟩ ?_
             replace hq10 := iteB_inv hq10
             rcases hq10 with ⟨hc15, hq10⟩ | ⟨hc15, hq10⟩
             · refine JC.condT (.tmp rfl) hc15 ?_
               refine JC.seq ?_
               refine JC.region ?_
               refine jc (op_assign lb .cB) ?_
               refine JL.nil ?_
               refine JQ.then ?_
               refine JC.ret ?_
               replace hq10 := Option.some.inj hq10
               first | subst hq10 | clear hq10
               dsimp only at hq8
               refine JQ.outR ?_
               replace hq8 := Option.some.inj hq8
               subst hq8
               exact JQ.done (js := []) (ss := [.val (S rB false)]) () (.inl rfl) (.nil rfl) rfl (.cons (.tmp rfl) .nil) rfl rfl rfl
             · refine JC.condF (.tmp rfl) hc15 ?_
               refine JC.skip ?_
               replace hq10 := Option.some.inj hq10
               first | subst hq10 | clear hq10
               exact JQ.joinK () () rfl (Imp.norm (js := []) rfl (.cons rfl .nil))
           · replace hx10 := bnd_inv hx10
             obtain ⟨v_17, hv_v_17, hx10⟩ := hx10
             replace hx10 := lt1_inv hx10
             obtain ⟨v_20, hv_v_20, hx10⟩ := hx10
             replace hx10 := bnd_inv hx10
             obtain ⟨_, hv_u_21, hx10⟩ := hx10
             replace hx10 := lt1_inv hx10
             obtain ⟨v_22, hv_v_22, hx10⟩ := hx10
             replace hx10 := lt1_inv hx10
             obtain ⟨v_23, hv_v_23, hx10⟩ := hx10
             refine JC.anyE (kl := []) (kk := 0) (base := [(1, ov (S (rL (rU UInt8)) a_2)), (2, ov (PTR gb_3 0)), (5, ov (HDR go_11 0 (List.length v_9) gc_12)), (6, ov (S (rI .i64) v_10))])
                 (fs := fun γ => [⟨some 33, ov (HDR go_11 0 (List.length v_9) gc_12)⟩, ⟨some 34, ov (S rS v_9)⟩, ⟨some 35, ov (A r_api_Event t_1)⟩, ⟨some 36, ov (HDR (deo (γ 3 0)) 0 (List.length v_17) (γ 3 1))⟩, ⟨some 37, ov (S rS v_17)⟩, ⟨some 38, ov (S rB v_20)⟩, ⟨some 39, ov (S rB v_20)⟩, ⟨some 40, bif (!v_20) then ov (S (rI .i64) v_10) else .one .und⟩, ⟨some 41, bif (!v_20) then ov (S (rI .i64) v_10) else .one .und⟩, ⟨some 42, bif (!v_20) then ov (S rB v_22) else .one .und⟩, ⟨some 43, ov (S rB v_23)⟩])
                 (rs := fun γ => [⟨cown go_11 (rU UInt8) v_9 0 gc_12, none, none, [1]⟩, ⟨cvar gb_3 r_api_Event t_1, none, none, [2]⟩, ⟨cown (deo (γ 3 0)) (rU UInt8) v_17 0 (γ 3 1), (some 3), none, [4]⟩])
                 (ds := [33, 34, 35, 36, 37, 38, 39, 40, 41, 42, 43]) (bs := [1, 2, 5, 6]) (afts := [[], [], [], [3, 4, 5, 6, 7, 8, 9, 10], [], [], [], [], [], [], []]) (js := [0, 0]) mixed (.cons rfl (.cons rfl (.cons rfl (.cons rfl .nil)))) (fun _ => rfl)
                 (by
      refine dS 1 (fun γ ρ B hb hd => op_move lb (.tmp (hb 5 _ rfl))) ?_
      refine DSteps.cons (j := 2) rfl (fun _ => rfl) (.run (fun γ ρ B hb hd => ⟨.none, OpStep.at ⟨ρ, (cown go_11 (rU UInt8) v_9 0 gc_12) :: B, _⟩ (setO ⟨ρ, (cown go_11 (rU UInt8) v_9 0 gc_12) :: B, _⟩ _ _) (op_convOS (j := 0) lb tu35 tu5 tu9 rfl (.tmp (hl hd 0 33 rfl)))⟩)) ?_
      refine DSteps.cons (j := 3) rfl (fun _ => rfl) (.run (fun γ ρ B hb hd => ⟨.none, OpStep.at ⟨ρ, (cvar gb_3 r_api_Event t_1) :: B, _⟩ (setO ⟨ρ, (cvar gb_3 r_api_Event t_1) :: B, _⟩ _ _) (op_loadA (j := 0) lb tA38 (.tmp (hb 2 _ rfl)) rfl (Comp.self r_api_Event t_1) rfl)⟩)) ?_
      refine DSteps.cons (j := 4) rfl (fun _ => rfl) (.runX (fun _ _ => rfl) (fun γ ρ B hb hd => ⟨.none, OpX.ghost (γ := Option Nat × Nat) (st' := fun q => setO ⟨ρ, (cown q.1 (rU UInt8) v_17 0 q.2) :: B, _⟩ (some 36) (ov (HDR q.1 0 (List.length v_17) q.2))) (fun q c => bif Nat.beq c 0 then eno q.1 else q.2) (op_call (js := []) ld cl19 (sim_ref09_Bytes k t_1 v_17 hv_v_17) .func (.cons (.tmp (hl hd 2 35 rfl)) .nil) rfl) (fun q => by obtain ⟨q0, q1⟩ := q; cases q0 <;> exact Imp.refl)⟩) (fun _ _ => rfl) (fun _ _ => rfl)) ?_
      refine DSteps.cons (j := 5) rfl (fun _ => rfl) (.run (fun γ ρ B hb hd => ⟨.none, OpStep.at ⟨ρ, (cown (deo (γ 3 0)) (rU UInt8) v_17 0 (γ 3 1)) :: B, _⟩ (setO ⟨ρ, (cown (deo (γ 3 0)) (rU UInt8) v_17 0 (γ 3 1)) :: B, _⟩ _ _) (op_convOS (j := 0) lb tu35 tu5 tu9 rfl (.tmp (hl hd 3 36 rfl)))⟩)) ?_
      refine dS 6 (fun γ ρ B hb hd => op_cmpS lb (.tmp (hl hd 1 34 rfl)) (.tmp (hl hd 4 37 rfl)) (congrArg some hv_v_20)) ?_
      refine dS 7 (fun γ ρ B hb hd => op_move lb (.tmp (hl hd 5 38 rfl))) ?_
      refine dC 8 (!v_20) (fun γ => ov (S (rI .i64) v_10)) (fun γ ρ B hb hd => ⟨(Guard.isF (ltB rfl) rfl (hl hd 6 39 rfl)), fun hq_11 => op_move lb (.tmp (hb 6 _ rfl))⟩) ?_
      refine dC 9 (!v_20) (fun γ => ov (S (rI .i64) v_10)) (fun γ ρ B hb hd => ⟨(Guard.isF (ltB rfl) rfl (hl hd 6 39 rfl)), fun hq_12 => (op_call (js := []) ld cl20 (sim_law09_num k v_10 () (ifT hv_u_21 hq_12)) .func (.cons (HasO.cnd (.tmp (hl hd 7 40 rfl)) (notT (notF hq_12))) .nil) rfl).post (fun _ => Imp.refl)⟩) ?_
      refine dC 10 (!v_20) (fun γ => ov (S rB v_22)) (fun γ ρ B hb hd => ⟨(Guard.isF (ltB rfl) rfl (hl hd 6 39 rfl)), fun hq_13 => op_cmpI lb (HasO.cnd (.tmp (hl hd 8 41 rfl)) (notT (notF hq_13))) .cI (congrArg some hv_v_22)⟩) ?_
      refine dS 11 (fun γ ρ B hb hd => op_pickCS lb (.tmp (hl hd 6 39 rfl)) (fun hb14 => .cB) (fun hb14 => (HasO.cnd (.tmp (hl hd 9 42 rfl)) (notT hb14))) hv_v_23) ?_
      exact DSteps.nil)
                 (by decide +kernel) (fun _ => rfl) rfl (fun _ => rfl) (fun _ => rfl) rfl (by decide) (by decide) (by decide +kernel) (fun _ d h => by cases h)
                 (ρ' := fun γ => [(1, ov (S (rL (rU UInt8)) a_2)), (43, ov (S rB v_23))])
                 (X' := fun γ => [cown go_11 (rU UInt8) v_9 0 gc_12, cvar gb_3 r_api_Event t_1, cown (deo (γ 3 0)) (rU UInt8) v_17 0 (γ 3 1)])
                 (fun γ ρ hb hd => (.cons (hb 1 _ rfl (by decide)) (.cons (hdq hd 10 43 rfl) .nil))) (fun _ => rfl) (fun γ => ?_)
             generalize (deo (γ 3 0)) = go_18
             generalize (γ 3 1) = gc_19
             clear γ
             refine JQ.at ⟨[(1, ov (S (rL (rU UInt8)) a_2)), (43, ov (S rB v_23))], [cown go_11 (rU UInt8) v_9 0 gc_12, cvar gb_3 r_api_Event t_1, cown go_18 (rU UInt8) v_17 0 gc_19], []⟩ ?_
             replace hx10 := Option.some.inj hx10
             first | subst hx10 | clear hx10
             exact JQ.join () (Imp.norm (js := []) rfl (.cons rfl (.cons rfl .nil)))
         · refine JC.condF (.tmp rfl) hc9 ?_
           replace hx8 := bnd_inv hx8
           obtain ⟨x_29, hx16, hq16⟩ := hx8
           refine JC.seqJ (γ := Unit) (stj := fun q => ⟨[(1, ov (S (rL (rU UInt8)) a_2)), (51, ov (S rB x_29))], [], []⟩) (fun q => ?_) ?_
           · obtain _ := q
             refine JC.at ⟨[(1, ov (S (rL (rU UInt8)) a_2)), (51, ov (S rB x_29))], [], []⟩ ?_
             replace hq16 := iteB_inv hq16
             rcases hq16 with ⟨hc21, hq16⟩ | ⟨hc21, hq16⟩
             · refine JC.condT (.tmp rfl) hc21 ?_
               refine JC.seq ?_
               refine JC.region ?_
               refine jc (op_assign lb .cB) ?_
               refine JL.nil ?_
               refine JQ.then ?_
               refine JC.ret ?_
               replace hq16 := Option.some.inj hq16
               first | subst hq16 | clear hq16
               dsimp only at hq8
               refine JQ.outR ?_
               replace hq8 := Option.some.inj hq8
               subst hq8
               exact JQ.done (js := []) (ss := [.val (S rB false)]) () (.inl rfl) (.nil rfl) rfl (.cons (.tmp rfl) .nil) rfl rfl rfl
             · refine JC.condF (.tmp rfl) hc21 ?_
               refine JC.skip ?_
               replace hq16 := Option.some.inj hq16
               first | subst hq16 | clear hq16
               exact JQ.joinK () () rfl (Imp.norm (js := []) rfl (.cons rfl .nil))
           · refine JC.region ?_
             refine jc (op_move lb (.tmp rfl)) ?_
             refine jc (op_lenH lb tu35 (.tmp rfl)) ?_
             replace hx16 := lt1_inv hx16
             obtain ⟨v_25, hv_v_25, hx16⟩ := hx16
             refine jc (op_cmpI lb (.tmp rfl) .cI (congrArg some hv_v_25)) ?_
             refine jc (op_move lb (.tmp rfl)) ?_
             refine JL.cnd (sv := ov (S (rI .i64) v_10)) (Guard.isF (ltB rfl) rfl rfl) rfl (ltB rfl) (fun hq_17 => op_move lb (.tmp rfl)) ?_
             replace hx16 := bnd_inv hx16
             obtain ⟨_, hv_u_26, hx16⟩ := hx16
             refine JL.cnd (sv := ov (S (rI .i64) v_10)) (Guard.isF (ltB rfl) rfl rfl) rfl (ltB rfl) (fun hq_18 => (op_call (js := []) ld cl20 (sim_law09_num k v_10 () (ifT hv_u_26 hq_18)) .func (.cons (HasO.cnd (.tmp rfl) (notT (notF hq_18))) .nil) rfl).post (fun _ => Imp.refl)) ?_
             replace hx16 := lt1_inv hx16
             obtain ⟨v_27, hv_v_27, hx16⟩ := hx16
             refine JL.cnd (sv := ov (S rB v_27)) (Guard.isF (ltB rfl) rfl rfl) rfl (ltB rfl) (fun hq_19 => op_cmpI lb (HasO.cnd (.tmp rfl) (notT (notF hq_19))) .cI (congrArg some hv_v_27)) ?_
             replace hx16 := lt1_inv hx16
             obtain ⟨v_28, hv_v_28, hx16⟩ := hx16
             refine jc (op_pickCS lb (.tmp rfl) (fun hb20 => .cB) (fun hb20 => (HasO.cnd (.tmp rfl) (notT hb20))) hv_v_28) ?_
             refine JL.nil ?_
             replace hx16 := Option.some.inj hx16
             first | subst hx16 | clear hx16
             exact JQ.join () (Imp.norm (js := []) rfl (.cons rfl (.cons rfl .nil)))
 · refine JC.region ?_
   refine jc (op_loadA (j := 0) lb tA38 (.tmp rfl) rfl (Comp.self r_api_Event t_1) rfl) ?_
   replace hx1 := bnd_inv hx1
   obtain ⟨v_4, hv_v_4, hx1⟩ := hx1
   refine jx (op_call (js := []) ld cl14 (sim_ref09_Much k t_1 v_4 hv_v_4) .func (.cons (.tmp rfl) .nil) rfl) (fun _ => ?_)
   refine jc (op_move lb (.tmp rfl)) ?_
   refine JL.cnd (sv := ov (S (rL (rU UInt8)) a_2)) (Guard.isF (ltB rfl) rfl rfl) rfl (ltB rfl) (fun hq_2 => op_move lb (.tmp rfl)) ?_
   refine JL.cnd (sv := ov (S (rI .i64) (List.length a_2 : Int))) (Guard.isF (ltB rfl) rfl rfl) rfl (ltB rfl) (fun hq_3 => op_lenL lb tu35 (HasO.cnd (.tmp rfl) (notT (notF hq_3)))) ?_
   replace hx1 := lt1_inv hx1
   obtain ⟨v_5, hv_v_5, hx1⟩ := hx1
   refine JL.cnd (sv := ov (S rB v_5)) (Guard.isF (ltB rfl) rfl rfl) rfl (ltB rfl) (fun hq_4 => op_cmpI lb (HasO.cnd (.tmp rfl) (notT (notF hq_4))) .cI (congrArg some hv_v_5)) ?_
   replace hx1 := lt1_inv hx1
   obtain ⟨v_6, hv_v_6, hx1⟩ := hx1
   refine jc (op_pickCS lb (.tmp rfl) (fun hb5 => .cB) (fun hb5 => (HasO.cnd (.tmp rfl) (notT hb5))) hv_v_6) ?_
   refine JL.nil ?_
   replace hx1 := Option.some.inj hx1
   first | subst hx1 | clear hx1
   exact JQ.join () (Imp.norm (js := [0]) rfl (.cons rfl (.cons rfl (.cons rfl .nil))))

end Go.Proofs.Ythoggbomakolkaa
