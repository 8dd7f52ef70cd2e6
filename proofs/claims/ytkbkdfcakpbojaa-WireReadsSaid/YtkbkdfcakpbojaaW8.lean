/- Walks. -/
import Derived.Test.YtkbkdfcakpbojaaT
import Derived.Test.YtkbkdfcakpbojaaW0
import Derived.Test.YtkbkdfcakpbojaaW1
import Derived.Test.YtkbkdfcakpbojaaW2
import Derived.Test.YtkbkdfcakpbojaaW6
import Derived.Test.YtkbkdfcakpbojaaW7
namespace Go.Proofs.Ytkbkdfcakpbojaa
open Go Fw
set_option linter.unusedVariables false
set_option maxRecDepth 100000
set_option maxHeartbeats 4000000

theorem sim_law01_WireReads (k : Nat) (t_1 : (List UInt8)) (a_2 : (List law01_Step)) (r : Bool) (hm : law01_WireReads k t_1 a_2 = some r) : Sim Try.prog 4 [S (rL (rU UInt8)) t_1, S (rL r_law01_Step) a_2] [] (γ := Unit) (fun q => []) (fun q => .one (.val (S rB r))) := by
 unfold law01_WireReads at hm
 refine Sim.of Try.func4 rfl rfl (Nat.le_of_ble_eq_true rfl) (fun e0 w0 => ?_)
 refine JC.at ⟨[(0, ov (S (rL (rU UInt8)) t_1)), (1, ov (S (rL r_law01_Step) a_2))], [], []⟩ ?_
 refine JC.seq ?_
 refine JC.region ?_
 refine jc (op_assign lb .cB) ?_
 refine JL.nil ?_
 refine JQ.then ?_
 refine JC.seq ?_
 replace hm := bnd_inv hm
 obtain ⟨x_6, hx1, hq1⟩ := hm
 refine JC.seqJ (γ := Unit) (stj := fun q => ⟨[(0, ov (S (rL (rU UInt8)) t_1)), (1, ov (S (rL r_law01_Step) a_2)), (16, ov (S rB x_6))], [], []⟩) (fun q => ?_) ?_
 · obtain _ := q
   refine JC.at ⟨[(0, ov (S (rL (rU UInt8)) t_1)), (1, ov (S (rL r_law01_Step) a_2)), (16, ov (S rB x_6))], [], []⟩ ?_
   replace hq1 := iteB_inv hq1
   rcases hq1 with ⟨hc6, hq1⟩ | ⟨hc6, hq1⟩
   · refine JC.condT (.tmp rfl) hc6 ?_
     refine JC.seq ?_
     refine JC.region ?_
     replace hq1 := bnd_inv hq1
     obtain ⟨v_7, hv_v_7, hq1⟩ := hq1
     refine jx (op_call (js := []) ld cl9 (sim_law01_known k v_7 hv_v_7) .func .nil rfl) (fun _ => ?_)
     refine jc (op_assign lb (.tmp rfl)) ?_
     refine JL.nil ?_
     refine JQ.then ?_
     refine JC.ret ?_
     refine JQ.outR ?_
     replace hq1 := Option.some.inj hq1
     subst hq1
     exact JQ.done (js := []) (ss := [.val (S rB v_7)]) () (.inl rfl) (.nil rfl) rfl (.cons (.tmp rfl) .nil) rfl rfl rfl
   · refine JC.condF (.tmp rfl) hc6 ?_
     refine JC.skip ?_
     refine JQ.then ?_
     refine JC.seq ?_
     refine JC.region ?_
     refine jc (op_move lb (.tmp rfl)) ?_
     refine jc (op_convBS lb tu23 tu5 tu9 (.tmp rfl)) ?_
     refine jc (op_assign lb (.tmp rfl)) ?_
     refine JL.nil ?_
     refine JQ.then ?_
     refine JC.seq ?_
     refine JC.region ?_
     refine jc (op_move lb (.tmp rfl)) ?_
     replace hq1 := bnd_inv hq1
     obtain ⟨⟨v_8, x_9⟩, hv_v_8, hq1⟩ := hq1
     refine jx (op_call (js := []) ld cl16 (sim_wire_Read k t_1 (v_8, x_9) hv_v_8) .func (.cons (.tmp rfl) .nil) rfl) (fun q => ?_)
     obtain ⟨gb_10, go_11, gc_12⟩ := q
     refine jc (op_move lb (.tmp rfl)) ?_
     refine jc (op_convSB lb tu9 tu23 tu5 (.tmp rfl)) ?_
     refine jc (op_build lb tZ40 zr40 tp40 (.S (off := 0) rfl (.tmp rfl) rfl ((UpdR.fst (UpdR.self (by rfl))).at (by rfl)) .nil) rfl) ?_
     refine jx (op_boxA lb (.tmp rfl)) (fun q => ?_)
     obtain ⟨gb_13, hqq⟩ : ∃ z, z = q := ⟨_, rfl⟩
     subst hqq
     refine JL.sub ⟨[(0, ov (S (rL (rU UInt8)) t_1)), (1, ov (S (rL r_law01_Step) a_2)), (5, ov (S rS t_1)), (21, ov (PTR gb_10 0)), (25, ov (PTR gb_13 0))], [cvar gb_10 (rP (rW (HDX go_11 ((0) * 1) x_9)) (rP rB (rP rB r0))) ((), (true, (true, ()))), cown go_11 (rU UInt8) v_8 0 gc_12, cvar gb_13 (rP (rL (rU UInt8)) (rP (rI .i64) (rP rB r0))) (t_1, ((0 : Int), (false, ())))], []⟩ (.cons rfl (.cons rfl (.cons rfl (.cons rfl (.cons rfl .nil))))) rfl rfl ?_
     refine jc (op_assign lb (.tmp rfl)) ?_
     refine jc (op_assign lb (.tmp rfl)) ?_
     refine JL.nil ?_
     refine JQ.then ?_
     refine JC.seq ?_
     refine JC.seq ?_
     refine JC.region ?_
     refine jc (op_move lb (.tmp rfl)) ?_
     refine jc (op_nilP (neg := false) lb tu36 (.tmp rfl) (HasO.const (p := PTO none) fun _ => rfl)) ?_
     refine JL.nil ?_
     refine JQ.then ?_
     refine JC.condF (.tmp rfl) rfl ?_
     refine JC.skip ?_
     refine JQ.then ?_
     replace hq1 := bnd_inv hq1
     obtain ⟨tv7, hx7, hq7⟩ := hq1
     refine JC.seqK (α := Unit) (γ := Unit) (stj := fun v q => ⟨[(0, ov (S (rL (rU UInt8)) t_1)), (5, ov (S rS t_1))], [], []⟩) (p := fun v => tv7 = (.inl v)) (fun v q hv => ?_) ?_
     · subst hv
       skip
       obtain _ := q
       dsimp only at hq7
       refine JC.at ⟨[(0, ov (S (rL (rU UInt8)) t_1)), (5, ov (S rS t_1))], [], []⟩ ?_
       replace hq7 := bnd_inv hq7
       obtain ⟨x_51, hx18, hq18⟩ := hq7
       refine JC.seqJ (γ := Unit) (stj := fun q => ⟨[(4, ov (S rB x_51))], [], []⟩) (fun q => ?_) ?_
       · obtain _ := q
         refine JC.at ⟨[(4, ov (S rB x_51))], [], []⟩ ?_
         refine JC.ret ?_
         replace hq18 := Option.some.inj hq18
         subst hq18
         exact JQ.done (js := []) (ss := [.val (S rB x_51)]) () (.inl rfl) (.nil rfl) rfl (.cons (.tmp rfl) .nil) rfl rfl rfl
       · refine JC.region ?_
         refine jc (op_move lb (.tmp rfl)) ?_
         refine jc (op_convBS lb tu23 tu5 tu9 (.tmp rfl)) ?_
         refine jc (op_move lb (.tmp rfl)) ?_
         replace hx18 := lt1_inv hx18
         obtain ⟨v_48, hv_v_48, hx18⟩ := hx18
         refine jc (op_cmpS lb (.tmp rfl) (.tmp rfl) (congrArg some hv_v_48)) ?_
         refine jc (op_move lb (.tmp rfl)) ?_
         replace hx18 := bnd_inv hx18
         obtain ⟨v_49, hv_v_49, hx18⟩ := hx18
         refine JL.cnd (sv := ov (S rB v_49)) (Guard.isT (ltB rfl) rfl rfl) rfl (ltB rfl) (fun hq_19 => (op_call (js := []) ld cl9 (sim_law01_known k v_49 (ifT hv_v_49 hq_19)) .func .nil rfl).post (fun _ => Imp.refl)) ?_
         replace hx18 := lt1_inv hx18
         obtain ⟨v_50, hv_v_50, hx18⟩ := hx18
         refine jc (op_pickCS lb (.tmp rfl) (fun hb20 => (HasO.cnd (.tmp rfl) hb20)) (fun hb20 => .cB) hv_v_50) ?_
         refine jc (op_assign lb (.tmp rfl)) ?_
         refine JL.nil ?_
         replace hx18 := Option.some.inj hx18
         first | subst hx18 | clear hx18
         exact JQ.join () (Imp.norm (js := []) rfl (.cons rfl .nil))
     · refine JC.seq ?_
       refine JC.region ?_
       refine jc (op_assign lb .cI) ?_
       refine JL.nil ?_
       refine JQ.then ?_
       refine JC.block ?_
       replace hx7 := bnd_inv hx7
       obtain ⟨tv8, hL8, hq8⟩ := hx7
       refine JC.pre (Imp.var (j := 2) (q := r_ref01_Reader) (y := (ref01_Reader.mk t_1 (0 : Int) false)) rfl (Wk.st Wk.refl)) ?_
       refine JC.pre ?_ (JC.loop (γ := Unit) (stf := fun s q => ⟨[(0, ov (S (rL (rU UInt8)) t_1)), (1, ov (S (rL r_law01_Step) a_2)), (5, ov (S rS t_1)), (6, ov (PTR gb_10 0)), (7, ov (PTR gb_13 0)), (8, ov (S (rI .i64) s.2.2.2.2.2.2))], [cvar gb_10 (rP (rW (HDX go_11 (s.2.1 * 1) s.2.2.1)) (rP rB (rP rB r0))) ((), (s.2.2.2.1, (s.2.2.2.2.1, ()))), cown go_11 (rU UInt8) s.1 0 gc_12, cvar gb_13 r_ref01_Reader s.2.2.2.2.2.1], []⟩) (q := ()) hL8 ?_)
       · exact (Imp.norm (js := [0, 0, 0]) rfl (.cons rfl (.cons rfl (.cons rfl (.cons rfl (.cons rfl (.cons rfl .nil)))))))
       · intro s q x hx hr
         obtain ⟨x_14, x_15, x_16, is_17, made_18, x_19, x_20⟩ := s
         obtain _ := q
         change law01_WireReads.b1 k a_2 x_14 x_15 x_16 is_17 made_18 x_19 x_20 = some x at hx
         unfold law01_WireReads.b1 at hx
         refine JC.at ⟨[(0, ov (S (rL (rU UInt8)) t_1)), (1, ov (S (rL r_law01_Step) a_2)), (5, ov (S rS t_1)), (6, ov (PTR gb_10 0)), (7, ov (PTR gb_13 0)), (8, ov (S (rI .i64) x_20))], [cvar gb_10 (rP (rW (HDX go_11 (x_15 * 1) x_16)) (rP rB (rP rB r0))) ((), (is_17, (made_18, ()))), cown go_11 (rU UInt8) x_14 0 gc_12, cvar gb_13 r_ref01_Reader x_19], []⟩ ?_
         refine JC.seq ?_
         refine JC.seq ?_
         refine JC.region ?_
         refine jc (op_move lb (.tmp rfl)) ?_
         refine jc (op_move lb (.tmp rfl)) ?_
         refine jc (op_lenL lb tu35 (.tmp rfl)) ?_
         replace hx := lt1_inv hx
         obtain ⟨v_21, hv_v_21, hx⟩ := hx
         refine jc (op_cmpI lb (.tmp rfl) (.tmp rfl) (congrArg some hv_v_21)) ?_
         refine JL.nil ?_
         refine JQ.then ?_
         replace hx := iteB_inv hx
         rcases hx with ⟨hc9, hx⟩ | ⟨hc9, hx⟩
         · refine JC.condT (.tmp rfl) hc9 ?_
           refine JC.skip ?_
           refine JQ.then ?_
           refine JC.seq ?_
           refine JC.block ?_
           replace hx := bnd_inv hx
           obtain ⟨⟨x_40, x_41, x_42, is_43, made_44, x_45, x_46⟩, hx10, hq10⟩ := hx
           refine JC.seqJ (γ := Unit) (stj := fun q => ⟨[(0, ov (S (rL (rU UInt8)) t_1)), (1, ov (S (rL r_law01_Step) a_2)), (5, ov (S rS t_1)), (6, ov (PTR gb_10 0)), (7, ov (PTR gb_13 0)), (8, ov (S (rI .i64) x_20)), (65, ov (S rB x_46))], [cvar gb_10 (rP (rW (HDX go_11 (x_41 * 1) x_42)) (rP rB (rP rB r0))) ((), (is_43, (made_44, ()))), cown go_11 (rU UInt8) x_40 0 gc_12, cvar gb_13 r_ref01_Reader x_45], []⟩) (fun q => ?_) ?_
           · obtain _ := q
             refine JC.at ⟨[(0, ov (S (rL (rU UInt8)) t_1)), (1, ov (S (rL r_law01_Step) a_2)), (5, ov (S rS t_1)), (6, ov (PTR gb_10 0)), (7, ov (PTR gb_13 0)), (8, ov (S (rI .i64) x_20)), (65, ov (S rB x_46))], [cvar gb_10 (rP (rW (HDX go_11 (x_41 * 1) x_42)) (rP rB (rP rB r0))) ((), (is_43, (made_44, ()))), cown go_11 (rU UInt8) x_40 0 gc_12, cvar gb_13 r_ref01_Reader x_45], []⟩ ?_
             replace hq10 := iteB_inv hq10
             rcases hq10 with ⟨hc17, hq10⟩ | ⟨hc17, hq10⟩
             · refine JC.condT (.tmp rfl) hc17 ?_
               refine JC.seq ?_
               refine JC.region ?_
               refine jc (op_assign lb .cB) ?_
               refine JL.nil ?_
               refine JQ.then ?_
               refine JC.ret ?_
               refine JQ.outRB ?_
               refine JQ.outR ?_
               replace hq10 := Option.some.inj hq10
               first | subst hq10 | clear hq10
               have ht := hr _ rfl
               clear hr
               first | subst ht | clear ht
               dsimp only at hq8
               refine JQ.outR ?_
               refine JQ.outRB ?_
               replace hq8 := Option.some.inj hq8
               first | subst hq8 | clear hq8
               dsimp only at hq7
               refine JQ.outR ?_
               replace hq7 := Option.some.inj hq7
               subst hq7
               exact JQ.done (js := []) (ss := [.val (S rB false)]) () (.inl rfl) (.nil rfl) rfl (.cons (.tmp rfl) .nil) rfl rfl rfl
             · refine JC.condF (.tmp rfl) hc17 ?_
               refine JC.skip ?_
               refine JQ.outNB ?_
               refine JQ.then ?_
               refine JC.region ?_
               refine jc (op_move lb (.tmp rfl)) ?_
               replace hq10 := lt1_inv hq10
               obtain ⟨v_47, hv_v_47, hq10⟩ := hq10
               refine jc (op_arI lb (.tmp rfl) .cI (congrArg some hv_v_47)) ?_
               refine jc (op_assign lb (.tmp rfl)) ?_
               refine JL.nil ?_
               replace hq10 := Option.some.inj hq10
               first | subst hq10 | clear hq10
               exact JQ.next () rfl (Imp.norm (js := [0, 0, 0]) rfl (.cons rfl (.cons rfl (.cons rfl (.cons rfl (.cons rfl (.cons rfl .nil)))))))
           · replace hx10 := bnd_inv hx10
             obtain ⟨v_22, hv_v_22, hx10⟩ := hx10
             replace hx10 := bnd_inv hx10
             obtain ⟨⟨v_23, x_24, x_25, x_26, x_27, x_28, x_29⟩, hv_v_23, hx10⟩ := hx10
             replace hx10 := lt1_inv hx10
             obtain ⟨v_30, hv_v_30, hx10⟩ := hx10
             replace hx10 := iteB_inv hx10
             rcases hx10 with ⟨hc12, hx10⟩ | ⟨hc12, hx10⟩
             · refine JC.anyE (kl := []) (kk := 0) (base := [(0, ov (S (rL (rU UInt8)) t_1)), (1, ov (S (rL r_law01_Step) a_2)), (5, ov (S rS t_1)), (6, ov (PTR gb_10 0)), (7, ov (PTR gb_13 0)), (8, ov (S (rI .i64) x_20))])
                   (fs := fun γ => [⟨some 34, ov (PTR gb_10 0)⟩, ⟨some 35, ov (PTR gb_13 0)⟩, ⟨some 36, ov (S (rL r_law01_Step) a_2)⟩, ⟨some 37, ov (S (rI .i64) x_20)⟩, ⟨some 38, ov (PT r_law01_Step v_22)⟩, ⟨some 39, ov (A r_law01_Step v_22)⟩, ⟨some 40, ov (S rB v_23)⟩, ⟨some 41, ov (S rB v_30)⟩, ⟨some 42, ov (S rB v_30)⟩, ⟨some 43, .one .und⟩, ⟨some 44, .one .und⟩, ⟨some 45, .one .und⟩, ⟨some 46, .one .und⟩, ⟨some 47, .one .und⟩, ⟨some 48, ov (S rB true)⟩, ⟨some 49, ov (S rB true)⟩, ⟨some 50, .one .und⟩, ⟨some 51, .one .und⟩, ⟨some 52, .one .und⟩, ⟨some 53, .one .und⟩, ⟨some 54, .one .und⟩, ⟨some 55, .one .und⟩, ⟨some 56, .one .und⟩, ⟨some 57, ov (S rB true)⟩, ⟨some 58, ov (S rB true)⟩, ⟨some 59, .one .und⟩, ⟨some 60, .one .und⟩, ⟨some 61, .one .und⟩, ⟨some 62, .one .und⟩, ⟨some 63, .one .und⟩, ⟨some 64, .one .und⟩, ⟨some 65, ov (S rB true)⟩])
                   (rs := fun γ => [⟨cvar gb_10 (rP (rW (HDX go_11 (x_15 * 1) x_16)) (rP rB (rP rB r0))) ((), (is_17, (made_18, ()))), none, (some 6), []⟩, ⟨cown go_11 (rU UInt8) x_14 0 gc_12, none, (some 6), []⟩, ⟨cvar gb_13 r_ref01_Reader x_19, none, (some 6), []⟩, ⟨cvar gb_10 (rP (rW (HDX go_11 (x_25 * 1) x_26)) (rP rB (rP rB r0))) ((), (x_27, (x_28, ()))), (some 6), none, []⟩, ⟨cown go_11 (rU UInt8) x_24 0 gc_12, (some 6), none, []⟩, ⟨cvar gb_13 r_ref01_Reader x_29, (some 6), none, []⟩])
                   (ds := [34, 35, 36, 37, 38, 39, 40, 41, 42, 43, 44, 45, 46, 47, 48, 49, 50, 51, 52, 53, 54, 55, 56, 57, 58, 59, 60, 61, 62, 63, 64, 65]) (bs := [0, 1, 5, 6, 7, 8]) (afts := [[], [], [], [], [], [], [], [], [], [], [], [], [], [], [], [], [], [], [], [], [], [], [], [], [], [], [], [], [], [], [], []]) (js := [0, 0, 0]) mixed (.cons rfl (.cons rfl (.cons rfl (.cons rfl (.cons rfl (.cons rfl .nil)))))) (fun _ => rfl)
                   (by
      refine dS 1 (fun γ ρ B hb hd => op_move lb (.tmp (hb 6 _ rfl))) ?_
      refine dS 2 (fun γ ρ B hb hd => op_move lb (.tmp (hb 7 _ rfl))) ?_
      refine dS 3 (fun γ ρ B hb hd => op_move lb (.tmp (hb 1 _ rfl))) ?_
      refine dS 4 (fun γ ρ B hb hd => op_move lb (.tmp (hb 8 _ rfl))) ?_
      refine dS 5 (fun γ ρ B hb hd => op_indexAddrLg lb tu35 tz43 (.tmp (hl hd 2 36 rfl)) (.tmp (hl hd 3 37 rfl)) hv_v_22) ?_
      refine dS 6 (fun γ ρ B hb hd => op_loadPAg lb tA43 (.tmp (hl hd 4 38 rfl)) rfl) ?_
      refine DSteps.cons (j := 7) rfl (fun _ => rfl) (.run (fun γ ρ B hb hd => ⟨.none, OpStep.at ⟨ρ, (cvar gb_10 (rP (rW (HDX go_11 (x_15 * 1) x_16)) (rP rB (rP rB r0))) ((), (is_17, (made_18, ())))) :: (cown go_11 (rU UInt8) x_14 0 gc_12) :: (cvar gb_13 r_ref01_Reader x_19) :: B, _⟩ (setO ⟨ρ, (cvar gb_10 (rP (rW (HDX go_11 (x_25 * 1) x_26)) (rP rB (rP rB r0))) ((), (x_27, (x_28, ())))) :: (cown go_11 (rU UInt8) x_24 0 gc_12) :: (cvar gb_13 r_ref01_Reader x_29) :: B, _⟩ _ _) ((op_call (js := [0, 0, 0]) ld cl17 (sim_law01_step'2 k v_22 x_15 x_16 is_17 made_18 x_14 x_19 gb_10 go_11 gc_12 gb_13 (v_23, x_24, x_25, x_26, x_27, x_28, x_29) hv_v_23) .func (.cons (.tmp (hl hd 0 34 rfl)) (.cons (.tmp (hl hd 1 35 rfl)) (.cons (.tmp (hl hd 5 39 rfl)) .nil))) rfl).post (fun _ => Imp.refl))⟩)) ?_
      refine dS 8 (fun γ ρ B hb hd => op_not lb (.tmp (hl hd 6 40 rfl)) hv_v_30) ?_
      refine dS 9 (fun γ ρ B hb hd => op_move lb (.tmp (hl hd 7 41 rfl))) ?_
      refine DSteps.cons (j := 10) rfl (fun _ => rfl) (.skip (fun γ ρ B hb hd => ⟨.no rfl (ltB rfl) (hl hd 8 42 rfl) hc12, rfl, rfl, rfl, fun d h => by cases h; exact ltB rfl⟩)) ?_
      refine DSteps.cons (j := 11) rfl (fun _ => rfl) (.skip (fun γ ρ B hb hd => ⟨.no rfl (ltB rfl) (hl hd 8 42 rfl) hc12, rfl, rfl, rfl, fun d h => by cases h; exact ltB rfl⟩)) ?_
      refine DSteps.cons (j := 12) rfl (fun _ => rfl) (.skip (fun γ ρ B hb hd => ⟨.no rfl (ltB rfl) (hl hd 8 42 rfl) hc12, rfl, rfl, rfl, fun d h => by cases h; exact ltB rfl⟩)) ?_
      refine DSteps.cons (j := 13) rfl (fun _ => rfl) (.skip (fun γ ρ B hb hd => ⟨.no rfl (ltB rfl) (hl hd 8 42 rfl) hc12, rfl, rfl, rfl, fun d h => by cases h; exact ltB rfl⟩)) ?_
      refine DSteps.cons (j := 14) rfl (fun _ => rfl) (.skip (fun γ ρ B hb hd => ⟨.no rfl (ltB rfl) (hl hd 8 42 rfl) hc12, rfl, rfl, rfl, fun d h => by cases h; exact ltB rfl⟩)) ?_
      refine dS 15 (fun γ ρ B hb hd => op_pickT lb (.tmp (hl hd 8 42 rfl)) hc12 .cB) ?_
      refine dS 16 (fun γ ρ B hb hd => op_move lb (.tmp (hl hd 14 48 rfl))) ?_
      refine DSteps.cons (j := 17) rfl (fun _ => rfl) (.skip (fun γ ρ B hb hd => ⟨.no rfl (ltB rfl) (hl hd 15 49 rfl) rfl, rfl, rfl, rfl, fun d h => by cases h; exact ltB rfl⟩)) ?_
      refine DSteps.cons (j := 18) rfl (fun _ => rfl) (.skip (fun γ ρ B hb hd => ⟨.no rfl (ltB rfl) (hl hd 15 49 rfl) rfl, rfl, rfl, rfl, fun d h => by cases h; exact ltB rfl⟩)) ?_
      refine DSteps.cons (j := 19) rfl (fun _ => rfl) (.skip (fun γ ρ B hb hd => ⟨.no rfl (ltB rfl) (hl hd 15 49 rfl) rfl, rfl, rfl, rfl, fun d h => by cases h; exact ltB rfl⟩)) ?_
      refine DSteps.cons (j := 20) rfl (fun _ => rfl) (.skip (fun γ ρ B hb hd => ⟨.no rfl (ltB rfl) (hl hd 15 49 rfl) rfl, rfl, rfl, rfl, fun d h => by cases h; exact ltB rfl⟩)) ?_
      refine DSteps.cons (j := 21) rfl (fun _ => rfl) (.skip (fun γ ρ B hb hd => ⟨.no rfl (ltB rfl) (hl hd 15 49 rfl) rfl, rfl, rfl, rfl, fun d h => by cases h; exact ltB rfl⟩)) ?_
      refine DSteps.cons (j := 22) rfl (fun _ => rfl) (.skip (fun γ ρ B hb hd => ⟨.no rfl (ltB rfl) (hl hd 15 49 rfl) rfl, rfl, rfl, rfl, fun d h => by cases h; exact ltB rfl⟩)) ?_
      refine DSteps.cons (j := 23) rfl (fun _ => rfl) (.skip (fun γ ρ B hb hd => ⟨.no rfl (ltB rfl) (hl hd 15 49 rfl) rfl, rfl, rfl, rfl, fun d h => by cases h; exact ltB rfl⟩)) ?_
      refine dS 24 (fun γ ρ B hb hd => op_pickT lb (.tmp (hl hd 15 49 rfl)) rfl .cB) ?_
      refine dS 25 (fun γ ρ B hb hd => op_move lb (.tmp (hl hd 23 57 rfl))) ?_
      refine DSteps.cons (j := 26) rfl (fun _ => rfl) (.skip (fun γ ρ B hb hd => ⟨.no rfl (ltB rfl) (hl hd 24 58 rfl) rfl, rfl, rfl, rfl, fun d h => by cases h; exact ltB rfl⟩)) ?_
      refine DSteps.cons (j := 27) rfl (fun _ => rfl) (.skip (fun γ ρ B hb hd => ⟨.no rfl (ltB rfl) (hl hd 24 58 rfl) rfl, rfl, rfl, rfl, fun d h => by cases h; exact ltB rfl⟩)) ?_
      refine DSteps.cons (j := 28) rfl (fun _ => rfl) (.skip (fun γ ρ B hb hd => ⟨.no rfl (ltB rfl) (hl hd 24 58 rfl) rfl, rfl, rfl, rfl, fun d h => by cases h; exact ltB rfl⟩)) ?_
      refine DSteps.cons (j := 29) rfl (fun _ => rfl) (.skip (fun γ ρ B hb hd => ⟨.no rfl (ltB rfl) (hl hd 24 58 rfl) rfl, rfl, rfl, rfl, fun d h => by cases h; exact ltB rfl⟩)) ?_
      refine DSteps.cons (j := 30) rfl (fun _ => rfl) (.skip (fun γ ρ B hb hd => ⟨.no rfl (ltB rfl) (hl hd 24 58 rfl) rfl, rfl, rfl, rfl, fun d h => by cases h; exact ltB rfl⟩)) ?_
      refine DSteps.cons (j := 31) rfl (fun _ => rfl) (.skip (fun γ ρ B hb hd => ⟨.no rfl (ltB rfl) (hl hd 24 58 rfl) rfl, rfl, rfl, rfl, fun d h => by cases h; exact ltB rfl⟩)) ?_
      refine dS 32 (fun γ ρ B hb hd => op_pickT lb (.tmp (hl hd 24 58 rfl)) rfl .cB) ?_
      exact DSteps.nil)
                   (by decide +kernel) (fun _ => rfl) rfl (fun _ => rfl) (fun _ => rfl) rfl (by decide) (by decide) (by decide +kernel) (fun _ d h => by cases h)
                   (ρ' := fun γ => [(0, ov (S (rL (rU UInt8)) t_1)), (1, ov (S (rL r_law01_Step) a_2)), (5, ov (S rS t_1)), (6, ov (PTR gb_10 0)), (7, ov (PTR gb_13 0)), (8, ov (S (rI .i64) x_20)), (65, ov (S rB true))])
                   (X' := fun γ => [cvar gb_10 (rP (rW (HDX go_11 (x_25 * 1) x_26)) (rP rB (rP rB r0))) ((), (x_27, (x_28, ()))), cown go_11 (rU UInt8) x_24 0 gc_12, cvar gb_13 r_ref01_Reader x_29])
                   (fun γ ρ hb hd => (.cons (hb 0 _ rfl (by decide)) (.cons (hb 1 _ rfl (by decide)) (.cons (hb 5 _ rfl (by decide)) (.cons (hb 6 _ rfl (by decide)) (.cons (hb 7 _ rfl (by decide)) (.cons (hb 8 _ rfl (by decide)) (.cons (hdq hd 31 65 rfl) .nil)))))))) (fun _ => rfl) (fun γ => ?_)
               refine JQ.at ⟨[(0, ov (S (rL (rU UInt8)) t_1)), (1, ov (S (rL r_law01_Step) a_2)), (5, ov (S rS t_1)), (6, ov (PTR gb_10 0)), (7, ov (PTR gb_13 0)), (8, ov (S (rI .i64) x_20)), (65, ov (S rB true))], [cvar gb_10 (rP (rW (HDX go_11 (x_25 * 1) x_26)) (rP rB (rP rB r0))) ((), (x_27, (x_28, ()))), cown go_11 (rU UInt8) x_24 0 gc_12, cvar gb_13 r_ref01_Reader x_29], []⟩ ?_
               replace hx10 := Option.some.inj hx10
               replace hx10 := Prod.mk.inj hx10
               obtain ⟨hx10_a, hx10⟩ := hx10
               first | subst hx10_a | clear hx10_a
               replace hx10 := Prod.mk.inj hx10
               obtain ⟨hx10_a, hx10⟩ := hx10
               first | subst hx10_a | clear hx10_a
               replace hx10 := Prod.mk.inj hx10
               obtain ⟨hx10_a, hx10⟩ := hx10
               first | subst hx10_a | clear hx10_a
               replace hx10 := Prod.mk.inj hx10
               obtain ⟨hx10_a, hx10⟩ := hx10
               first | subst hx10_a | clear hx10_a
               replace hx10 := Prod.mk.inj hx10
               obtain ⟨hx10_a, hx10⟩ := hx10
               first | subst hx10_a | clear hx10_a
               replace hx10 := Prod.mk.inj hx10
               obtain ⟨hx10_a, hx10⟩ := hx10
               first | subst hx10_a | clear hx10_a
               first | subst hx10 | clear hx10
               exact JQ.join () (Imp.norm (js := [0, 0, 0]) rfl (.cons rfl (.cons rfl (.cons rfl (.cons rfl (.cons rfl (.cons rfl (.cons rfl .nil))))))))
             · replace hx10 := bnd_inv hx10
               obtain ⟨v_31, hv_v_31, hx10⟩ := hx10
               replace hx10 := bnd_inv hx10
               obtain ⟨v_32, hv_v_32, hx10⟩ := hx10
               replace hx10 := lt1_inv hx10
               obtain ⟨v_33, hv_v_33, hx10⟩ := hx10
               replace hx10 := iteB_inv hx10
               rcases hx10 with ⟨hc14, hx10⟩ | ⟨hc14, hx10⟩
               · refine JC.anyE (kl := []) (kk := 0) (base := [(0, ov (S (rL (rU UInt8)) t_1)), (1, ov (S (rL r_law01_Step) a_2)), (5, ov (S rS t_1)), (6, ov (PTR gb_10 0)), (7, ov (PTR gb_13 0)), (8, ov (S (rI .i64) x_20))])
                     (fs := fun γ => [⟨some 34, ov (PTR gb_10 0)⟩, ⟨some 35, ov (PTR gb_13 0)⟩, ⟨some 36, ov (S (rL r_law01_Step) a_2)⟩, ⟨some 37, ov (S (rI .i64) x_20)⟩, ⟨some 38, ov (PT r_law01_Step v_22)⟩, ⟨some 39, ov (A r_law01_Step v_22)⟩, ⟨some 40, ov (S rB v_23)⟩, ⟨some 41, ov (S rB v_30)⟩, ⟨some 42, ov (S rB v_30)⟩, ⟨some 43, ov (PTR gb_10 0)⟩, ⟨some 44, ov (S (rI .i64) v_31)⟩, ⟨some 45, ov (PTR gb_13 0)⟩, ⟨some 46, ov (S (rI .i64) v_32)⟩, ⟨some 47, ov (S rB v_33)⟩, ⟨some 48, ov (S rB v_33)⟩, ⟨some 49, ov (S rB v_33)⟩, ⟨some 50, .one .und⟩, ⟨some 51, .one .und⟩, ⟨some 52, .one .und⟩, ⟨some 53, .one .und⟩, ⟨some 54, .one .und⟩, ⟨some 55, .one .und⟩, ⟨some 56, .one .und⟩, ⟨some 57, ov (S rB true)⟩, ⟨some 58, ov (S rB true)⟩, ⟨some 59, .one .und⟩, ⟨some 60, .one .und⟩, ⟨some 61, .one .und⟩, ⟨some 62, .one .und⟩, ⟨some 63, .one .und⟩, ⟨some 64, .one .und⟩, ⟨some 65, ov (S rB true)⟩])
                     (rs := fun γ => [⟨cvar gb_10 (rP (rW (HDX go_11 (x_15 * 1) x_16)) (rP rB (rP rB r0))) ((), (is_17, (made_18, ()))), none, (some 6), []⟩, ⟨cown go_11 (rU UInt8) x_14 0 gc_12, none, (some 6), []⟩, ⟨cvar gb_13 r_ref01_Reader x_19, none, (some 6), []⟩, ⟨cvar gb_10 (rP (rW (HDX go_11 (x_25 * 1) x_26)) (rP rB (rP rB r0))) ((), (x_27, (x_28, ()))), (some 6), (some 10), []⟩, ⟨cown go_11 (rU UInt8) x_24 0 gc_12, (some 6), (some 10), []⟩, ⟨cvar gb_13 r_ref01_Reader x_29, (some 6), (some 12), []⟩, ⟨cvar gb_10 (rP (rW (HDX go_11 (x_25 * 1) x_26)) (rP rB (rP rB r0))) ((), (x_27, (x_28, ()))), (some 10), none, []⟩, ⟨cown go_11 (rU UInt8) x_24 0 gc_12, (some 10), none, []⟩, ⟨cvar gb_13 r_ref01_Reader x_29, (some 12), none, []⟩])
                     (ds := [34, 35, 36, 37, 38, 39, 40, 41, 42, 43, 44, 45, 46, 47, 48, 49, 50, 51, 52, 53, 54, 55, 56, 57, 58, 59, 60, 61, 62, 63, 64, 65]) (bs := [0, 1, 5, 6, 7, 8]) (afts := [[], [], [], [], [], [], [], [], [], [], [], [], [], [], [], [], [], [], [], [], [], [], [], [], [], [], [], [], [], [], [], []]) (js := [0, 0, 0]) mixed (.cons rfl (.cons rfl (.cons rfl (.cons rfl (.cons rfl (.cons rfl .nil)))))) (fun _ => rfl)
                     (by
      refine dS 1 (fun γ ρ B hb hd => op_move lb (.tmp (hb 6 _ rfl))) ?_
      refine dS 2 (fun γ ρ B hb hd => op_move lb (.tmp (hb 7 _ rfl))) ?_
      refine dS 3 (fun γ ρ B hb hd => op_move lb (.tmp (hb 1 _ rfl))) ?_
      refine dS 4 (fun γ ρ B hb hd => op_move lb (.tmp (hb 8 _ rfl))) ?_
      refine dS 5 (fun γ ρ B hb hd => op_indexAddrLg lb tu35 tz43 (.tmp (hl hd 2 36 rfl)) (.tmp (hl hd 3 37 rfl)) hv_v_22) ?_
      refine dS 6 (fun γ ρ B hb hd => op_loadPAg lb tA43 (.tmp (hl hd 4 38 rfl)) rfl) ?_
      refine DSteps.cons (j := 7) rfl (fun _ => rfl) (.run (fun γ ρ B hb hd => ⟨.none, OpStep.at ⟨ρ, (cvar gb_10 (rP (rW (HDX go_11 (x_15 * 1) x_16)) (rP rB (rP rB r0))) ((), (is_17, (made_18, ())))) :: (cown go_11 (rU UInt8) x_14 0 gc_12) :: (cvar gb_13 r_ref01_Reader x_19) :: B, _⟩ (setO ⟨ρ, (cvar gb_10 (rP (rW (HDX go_11 (x_25 * 1) x_26)) (rP rB (rP rB r0))) ((), (x_27, (x_28, ())))) :: (cown go_11 (rU UInt8) x_24 0 gc_12) :: (cvar gb_13 r_ref01_Reader x_29) :: B, _⟩ _ _) ((op_call (js := [0, 0, 0]) ld cl17 (sim_law01_step'2 k v_22 x_15 x_16 is_17 made_18 x_14 x_19 gb_10 go_11 gc_12 gb_13 (v_23, x_24, x_25, x_26, x_27, x_28, x_29) hv_v_23) .func (.cons (.tmp (hl hd 0 34 rfl)) (.cons (.tmp (hl hd 1 35 rfl)) (.cons (.tmp (hl hd 5 39 rfl)) .nil))) rfl).post (fun _ => Imp.refl))⟩)) ?_
      refine dS 8 (fun γ ρ B hb hd => op_not lb (.tmp (hl hd 6 40 rfl)) hv_v_30) ?_
      refine dS 9 (fun γ ρ B hb hd => op_move lb (.tmp (hl hd 7 41 rfl))) ?_
      refine DSteps.cons (j := 10) rfl (fun _ => rfl) (.run (fun γ ρ B hb hd => ⟨.yes rfl (ltB rfl) (hl hd 8 42 rfl) hc12, OpStep.at ⟨ρ, B, _⟩ (setO ⟨ρ, B, _⟩ _ _) (op_move lb (.tmp (hb 6 _ rfl)))⟩)) ?_
      refine DSteps.cons (j := 11) rfl (fun _ => rfl) (.run (fun γ ρ B hb hd => ⟨.yes rfl (ltB rfl) (hl hd 8 42 rfl) hc12, OpStep.at ⟨ρ, (cvar gb_10 (rP (rW (HDX go_11 (x_25 * 1) x_26)) (rP rB (rP rB r0))) ((), (x_27, (x_28, ())))) :: (cown go_11 (rU UInt8) x_24 0 gc_12) :: B, _⟩ (setO ⟨ρ, (cvar gb_10 (rP (rW (HDX go_11 (x_25 * 1) x_26)) (rP rB (rP rB r0))) ((), (x_27, (x_28, ())))) :: (cown go_11 (rU UInt8) x_24 0 gc_12) :: B, _⟩ _ _) ((op_call (js := [0, 0]) ld cl18 (sim_wire_Reader_Left k x_25 x_26 x_27 x_28 x_24 gb_10 go_11 gc_12 v_31 hv_v_31) .func (.cons (.tmp (hl hd 9 43 rfl)) .nil) rfl).post (fun _ => Imp.refl))⟩)) ?_
      refine DSteps.cons (j := 12) rfl (fun _ => rfl) (.run (fun γ ρ B hb hd => ⟨.yes rfl (ltB rfl) (hl hd 8 42 rfl) hc12, OpStep.at ⟨ρ, B, _⟩ (setO ⟨ρ, B, _⟩ _ _) (op_move lb (.tmp (hb 7 _ rfl)))⟩)) ?_
      refine DSteps.cons (j := 13) rfl (fun _ => rfl) (.run (fun γ ρ B hb hd => ⟨.yes rfl (ltB rfl) (hl hd 8 42 rfl) hc12, OpStep.at ⟨ρ, (cvar gb_13 r_ref01_Reader x_29) :: B, _⟩ (setO ⟨ρ, (cvar gb_13 r_ref01_Reader x_29) :: B, _⟩ _ _) ((op_call (js := [0]) ld cl19 (sim_ref01_Reader_Left k x_29 gb_13 v_32 hv_v_32) .func (.cons (.tmp (hl hd 11 45 rfl)) .nil) rfl).post (fun _ => Imp.refl))⟩)) ?_
      refine DSteps.cons (j := 14) rfl (fun _ => rfl) (.run (fun γ ρ B hb hd => ⟨.yes rfl (ltB rfl) (hl hd 8 42 rfl) hc12, OpStep.at ⟨ρ, B, _⟩ (setO ⟨ρ, B, _⟩ _ _) (op_cmpI lb (.tmp (hl hd 10 44 rfl)) (.tmp (hl hd 12 46 rfl)) (congrArg some hv_v_33))⟩)) ?_
      refine dS 15 (fun γ ρ B hb hd => op_pickF lb (.tmp (hl hd 8 42 rfl)) hc12 (.tmp (hl hd 13 47 rfl))) ?_
      refine dS 16 (fun γ ρ B hb hd => op_move lb (.tmp (hl hd 14 48 rfl))) ?_
      refine DSteps.cons (j := 17) rfl (fun _ => rfl) (.skip (fun γ ρ B hb hd => ⟨.no rfl (ltB rfl) (hl hd 15 49 rfl) hc14, rfl, rfl, rfl, fun d h => by cases h; exact ltB rfl⟩)) ?_
      refine DSteps.cons (j := 18) rfl (fun _ => rfl) (.skip (fun γ ρ B hb hd => ⟨.no rfl (ltB rfl) (hl hd 15 49 rfl) hc14, rfl, rfl, rfl, fun d h => by cases h; exact ltB rfl⟩)) ?_
      refine DSteps.cons (j := 19) rfl (fun _ => rfl) (.skip (fun γ ρ B hb hd => ⟨.no rfl (ltB rfl) (hl hd 15 49 rfl) hc14, rfl, rfl, rfl, fun d h => by cases h; exact ltB rfl⟩)) ?_
      refine DSteps.cons (j := 20) rfl (fun _ => rfl) (.skip (fun γ ρ B hb hd => ⟨.no rfl (ltB rfl) (hl hd 15 49 rfl) hc14, rfl, rfl, rfl, fun d h => by cases h; exact ltB rfl⟩)) ?_
      refine DSteps.cons (j := 21) rfl (fun _ => rfl) (.skip (fun γ ρ B hb hd => ⟨.no rfl (ltB rfl) (hl hd 15 49 rfl) hc14, rfl, rfl, rfl, fun d h => by cases h; exact ltB rfl⟩)) ?_
      refine DSteps.cons (j := 22) rfl (fun _ => rfl) (.skip (fun γ ρ B hb hd => ⟨.no rfl (ltB rfl) (hl hd 15 49 rfl) hc14, rfl, rfl, rfl, fun d h => by cases h; exact ltB rfl⟩)) ?_
      refine DSteps.cons (j := 23) rfl (fun _ => rfl) (.skip (fun γ ρ B hb hd => ⟨.no rfl (ltB rfl) (hl hd 15 49 rfl) hc14, rfl, rfl, rfl, fun d h => by cases h; exact ltB rfl⟩)) ?_
      refine dS 24 (fun γ ρ B hb hd => op_pickT lb (.tmp (hl hd 15 49 rfl)) hc14 .cB) ?_
      refine dS 25 (fun γ ρ B hb hd => op_move lb (.tmp (hl hd 23 57 rfl))) ?_
      refine DSteps.cons (j := 26) rfl (fun _ => rfl) (.skip (fun γ ρ B hb hd => ⟨.no rfl (ltB rfl) (hl hd 24 58 rfl) rfl, rfl, rfl, rfl, fun d h => by cases h; exact ltB rfl⟩)) ?_
      refine DSteps.cons (j := 27) rfl (fun _ => rfl) (.skip (fun γ ρ B hb hd => ⟨.no rfl (ltB rfl) (hl hd 24 58 rfl) rfl, rfl, rfl, rfl, fun d h => by cases h; exact ltB rfl⟩)) ?_
      refine DSteps.cons (j := 28) rfl (fun _ => rfl) (.skip (fun γ ρ B hb hd => ⟨.no rfl (ltB rfl) (hl hd 24 58 rfl) rfl, rfl, rfl, rfl, fun d h => by cases h; exact ltB rfl⟩)) ?_
      refine DSteps.cons (j := 29) rfl (fun _ => rfl) (.skip (fun γ ρ B hb hd => ⟨.no rfl (ltB rfl) (hl hd 24 58 rfl) rfl, rfl, rfl, rfl, fun d h => by cases h; exact ltB rfl⟩)) ?_
      refine DSteps.cons (j := 30) rfl (fun _ => rfl) (.skip (fun γ ρ B hb hd => ⟨.no rfl (ltB rfl) (hl hd 24 58 rfl) rfl, rfl, rfl, rfl, fun d h => by cases h; exact ltB rfl⟩)) ?_
      refine DSteps.cons (j := 31) rfl (fun _ => rfl) (.skip (fun γ ρ B hb hd => ⟨.no rfl (ltB rfl) (hl hd 24 58 rfl) rfl, rfl, rfl, rfl, fun d h => by cases h; exact ltB rfl⟩)) ?_
      refine dS 32 (fun γ ρ B hb hd => op_pickT lb (.tmp (hl hd 24 58 rfl)) rfl .cB) ?_
      exact DSteps.nil)
                     (by decide +kernel) (fun _ => rfl) rfl (fun _ => rfl) (fun _ => rfl) rfl (by decide) (by decide) (by decide +kernel) (fun _ d h => by cases h)
                     (ρ' := fun γ => [(0, ov (S (rL (rU UInt8)) t_1)), (1, ov (S (rL r_law01_Step) a_2)), (5, ov (S rS t_1)), (6, ov (PTR gb_10 0)), (7, ov (PTR gb_13 0)), (8, ov (S (rI .i64) x_20)), (65, ov (S rB true))])
                     (X' := fun γ => [cvar gb_10 (rP (rW (HDX go_11 (x_25 * 1) x_26)) (rP rB (rP rB r0))) ((), (x_27, (x_28, ()))), cown go_11 (rU UInt8) x_24 0 gc_12, cvar gb_13 r_ref01_Reader x_29])
                     (fun γ ρ hb hd => (.cons (hb 0 _ rfl (by decide)) (.cons (hb 1 _ rfl (by decide)) (.cons (hb 5 _ rfl (by decide)) (.cons (hb 6 _ rfl (by decide)) (.cons (hb 7 _ rfl (by decide)) (.cons (hb 8 _ rfl (by decide)) (.cons (hdq hd 31 65 rfl) .nil)))))))) (fun _ => rfl) (fun γ => ?_)
                 refine JQ.at ⟨[(0, ov (S (rL (rU UInt8)) t_1)), (1, ov (S (rL r_law01_Step) a_2)), (5, ov (S rS t_1)), (6, ov (PTR gb_10 0)), (7, ov (PTR gb_13 0)), (8, ov (S (rI .i64) x_20)), (65, ov (S rB true))], [cvar gb_10 (rP (rW (HDX go_11 (x_25 * 1) x_26)) (rP rB (rP rB r0))) ((), (x_27, (x_28, ()))), cown go_11 (rU UInt8) x_24 0 gc_12, cvar gb_13 r_ref01_Reader x_29], []⟩ ?_
                 replace hx10 := Option.some.inj hx10
                 replace hx10 := Prod.mk.inj hx10
                 obtain ⟨hx10_a, hx10⟩ := hx10
                 first | subst hx10_a | clear hx10_a
                 replace hx10 := Prod.mk.inj hx10
                 obtain ⟨hx10_a, hx10⟩ := hx10
                 first | subst hx10_a | clear hx10_a
                 replace hx10 := Prod.mk.inj hx10
                 obtain ⟨hx10_a, hx10⟩ := hx10
                 first | subst hx10_a | clear hx10_a
                 replace hx10 := Prod.mk.inj hx10
                 obtain ⟨hx10_a, hx10⟩ := hx10
                 first | subst hx10_a | clear hx10_a
                 replace hx10 := Prod.mk.inj hx10
                 obtain ⟨hx10_a, hx10⟩ := hx10
                 first | subst hx10_a | clear hx10_a
                 replace hx10 := Prod.mk.inj hx10
                 obtain ⟨hx10_a, hx10⟩ := hx10
                 first | subst hx10_a | clear hx10_a
                 first | subst hx10 | clear hx10
                 exact JQ.join () (Imp.norm (js := [0, 0, 0]) rfl (.cons rfl (.cons rfl (.cons rfl (.cons rfl (.cons rfl (.cons rfl (.cons rfl .nil))))))))
               · replace hx10 := bnd_inv hx10
                 obtain ⟨v_34, hv_v_34, hx10⟩ := hx10
                 replace hx10 := lt1_inv hx10
                 obtain ⟨v_35, hv_v_35, hx10⟩ := hx10
                 replace hx10 := iteB_inv hx10
                 rcases hx10 with ⟨hc16, hx10⟩ | ⟨hc16, hx10⟩
                 · refine JC.anyE (kl := []) (kk := 0) (base := [(0, ov (S (rL (rU UInt8)) t_1)), (1, ov (S (rL r_law01_Step) a_2)), (5, ov (S rS t_1)), (6, ov (PTR gb_10 0)), (7, ov (PTR gb_13 0)), (8, ov (S (rI .i64) x_20))])
                       (fs := fun γ => [⟨some 34, ov (PTR gb_10 0)⟩, ⟨some 35, ov (PTR gb_13 0)⟩, ⟨some 36, ov (S (rL r_law01_Step) a_2)⟩, ⟨some 37, ov (S (rI .i64) x_20)⟩, ⟨some 38, ov (PT r_law01_Step v_22)⟩, ⟨some 39, ov (A r_law01_Step v_22)⟩, ⟨some 40, ov (S rB v_23)⟩, ⟨some 41, ov (S rB v_30)⟩, ⟨some 42, ov (S rB v_30)⟩, ⟨some 43, ov (PTR gb_10 0)⟩, ⟨some 44, ov (S (rI .i64) v_31)⟩, ⟨some 45, ov (PTR gb_13 0)⟩, ⟨some 46, ov (S (rI .i64) v_32)⟩, ⟨some 47, ov (S rB v_33)⟩, ⟨some 48, ov (S rB v_33)⟩, ⟨some 49, ov (S rB v_33)⟩, ⟨some 50, ov (PTR gb_10 0)⟩, ⟨some 51, ov (S rB v_34)⟩, ⟨some 52, ov (PTR gb_13 0)⟩, ⟨some 53, ov (PTR gb_13 0)⟩, ⟨some 54, ov (PTR gb_13 (0 + 2))⟩, ⟨some 55, ov (S rB x_29.Failed)⟩, ⟨some 56, ov (S rB v_35)⟩, ⟨some 57, ov (S rB v_35)⟩, ⟨some 58, ov (S rB v_35)⟩, ⟨some 59, .one .und⟩, ⟨some 60, .one .und⟩, ⟨some 61, .one .und⟩, ⟨some 62, .one .und⟩, ⟨some 63, .one .und⟩, ⟨some 64, .one .und⟩, ⟨some 65, ov (S rB true)⟩])
                       (rs := fun γ => [⟨cvar gb_10 (rP (rW (HDX go_11 (x_15 * 1) x_16)) (rP rB (rP rB r0))) ((), (is_17, (made_18, ()))), none, (some 6), []⟩, ⟨cown go_11 (rU UInt8) x_14 0 gc_12, none, (some 6), []⟩, ⟨cvar gb_13 r_ref01_Reader x_19, none, (some 6), []⟩, ⟨cvar gb_10 (rP (rW (HDX go_11 (x_25 * 1) x_26)) (rP rB (rP rB r0))) ((), (x_27, (x_28, ()))), (some 6), (some 10), []⟩, ⟨cown go_11 (rU UInt8) x_24 0 gc_12, (some 6), (some 10), []⟩, ⟨cvar gb_13 r_ref01_Reader x_29, (some 6), (some 12), []⟩, ⟨cvar gb_10 (rP (rW (HDX go_11 (x_25 * 1) x_26)) (rP rB (rP rB r0))) ((), (x_27, (x_28, ()))), (some 10), (some 17), []⟩, ⟨cown go_11 (rU UInt8) x_24 0 gc_12, (some 10), (some 17), []⟩, ⟨cvar gb_13 r_ref01_Reader x_29, (some 12), none, [21]⟩, ⟨cvar gb_10 (rP (rW (HDX go_11 (x_25 * 1) x_26)) (rP rB (rP rB r0))) ((), (x_27, (x_28, ()))), (some 17), none, []⟩, ⟨cown go_11 (rU UInt8) x_24 0 gc_12, (some 17), none, []⟩])
                       (ds := [34, 35, 36, 37, 38, 39, 40, 41, 42, 43, 44, 45, 46, 47, 48, 49, 50, 51, 52, 53, 54, 55, 56, 57, 58, 59, 60, 61, 62, 63, 64, 65]) (bs := [0, 1, 5, 6, 7, 8]) (afts := [[], [], [], [], [], [], [], [], [], [], [], [], [], [], [], [], [], [], [], [], [], [], [], [], [], [], [], [], [], [], [], []]) (js := [0, 0, 0]) mixed (.cons rfl (.cons rfl (.cons rfl (.cons rfl (.cons rfl (.cons rfl .nil)))))) (fun _ => rfl)
                       (by
      refine dS 1 (fun γ ρ B hb hd => op_move lb (.tmp (hb 6 _ rfl))) ?_
      refine dS 2 (fun γ ρ B hb hd => op_move lb (.tmp (hb 7 _ rfl))) ?_
      refine dS 3 (fun γ ρ B hb hd => op_move lb (.tmp (hb 1 _ rfl))) ?_
      refine dS 4 (fun γ ρ B hb hd => op_move lb (.tmp (hb 8 _ rfl))) ?_
      refine dS 5 (fun γ ρ B hb hd => op_indexAddrLg lb tu35 tz43 (.tmp (hl hd 2 36 rfl)) (.tmp (hl hd 3 37 rfl)) hv_v_22) ?_
      refine dS 6 (fun γ ρ B hb hd => op_loadPAg lb tA43 (.tmp (hl hd 4 38 rfl)) rfl) ?_
      refine DSteps.cons (j := 7) rfl (fun _ => rfl) (.run (fun γ ρ B hb hd => ⟨.none, OpStep.at ⟨ρ, (cvar gb_10 (rP (rW (HDX go_11 (x_15 * 1) x_16)) (rP rB (rP rB r0))) ((), (is_17, (made_18, ())))) :: (cown go_11 (rU UInt8) x_14 0 gc_12) :: (cvar gb_13 r_ref01_Reader x_19) :: B, _⟩ (setO ⟨ρ, (cvar gb_10 (rP (rW (HDX go_11 (x_25 * 1) x_26)) (rP rB (rP rB r0))) ((), (x_27, (x_28, ())))) :: (cown go_11 (rU UInt8) x_24 0 gc_12) :: (cvar gb_13 r_ref01_Reader x_29) :: B, _⟩ _ _) ((op_call (js := [0, 0, 0]) ld cl17 (sim_law01_step'2 k v_22 x_15 x_16 is_17 made_18 x_14 x_19 gb_10 go_11 gc_12 gb_13 (v_23, x_24, x_25, x_26, x_27, x_28, x_29) hv_v_23) .func (.cons (.tmp (hl hd 0 34 rfl)) (.cons (.tmp (hl hd 1 35 rfl)) (.cons (.tmp (hl hd 5 39 rfl)) .nil))) rfl).post (fun _ => Imp.refl))⟩)) ?_
      refine dS 8 (fun γ ρ B hb hd => op_not lb (.tmp (hl hd 6 40 rfl)) hv_v_30) ?_
      refine dS 9 (fun γ ρ B hb hd => op_move lb (.tmp (hl hd 7 41 rfl))) ?_
      refine DSteps.cons (j := 10) rfl (fun _ => rfl) (.run (fun γ ρ B hb hd => ⟨.yes rfl (ltB rfl) (hl hd 8 42 rfl) hc12, OpStep.at ⟨ρ, B, _⟩ (setO ⟨ρ, B, _⟩ _ _) (op_move lb (.tmp (hb 6 _ rfl)))⟩)) ?_
      refine DSteps.cons (j := 11) rfl (fun _ => rfl) (.run (fun γ ρ B hb hd => ⟨.yes rfl (ltB rfl) (hl hd 8 42 rfl) hc12, OpStep.at ⟨ρ, (cvar gb_10 (rP (rW (HDX go_11 (x_25 * 1) x_26)) (rP rB (rP rB r0))) ((), (x_27, (x_28, ())))) :: (cown go_11 (rU UInt8) x_24 0 gc_12) :: B, _⟩ (setO ⟨ρ, (cvar gb_10 (rP (rW (HDX go_11 (x_25 * 1) x_26)) (rP rB (rP rB r0))) ((), (x_27, (x_28, ())))) :: (cown go_11 (rU UInt8) x_24 0 gc_12) :: B, _⟩ _ _) ((op_call (js := [0, 0]) ld cl18 (sim_wire_Reader_Left k x_25 x_26 x_27 x_28 x_24 gb_10 go_11 gc_12 v_31 hv_v_31) .func (.cons (.tmp (hl hd 9 43 rfl)) .nil) rfl).post (fun _ => Imp.refl))⟩)) ?_
      refine DSteps.cons (j := 12) rfl (fun _ => rfl) (.run (fun γ ρ B hb hd => ⟨.yes rfl (ltB rfl) (hl hd 8 42 rfl) hc12, OpStep.at ⟨ρ, B, _⟩ (setO ⟨ρ, B, _⟩ _ _) (op_move lb (.tmp (hb 7 _ rfl)))⟩)) ?_
      refine DSteps.cons (j := 13) rfl (fun _ => rfl) (.run (fun γ ρ B hb hd => ⟨.yes rfl (ltB rfl) (hl hd 8 42 rfl) hc12, OpStep.at ⟨ρ, (cvar gb_13 r_ref01_Reader x_29) :: B, _⟩ (setO ⟨ρ, (cvar gb_13 r_ref01_Reader x_29) :: B, _⟩ _ _) ((op_call (js := [0]) ld cl19 (sim_ref01_Reader_Left k x_29 gb_13 v_32 hv_v_32) .func (.cons (.tmp (hl hd 11 45 rfl)) .nil) rfl).post (fun _ => Imp.refl))⟩)) ?_
      refine DSteps.cons (j := 14) rfl (fun _ => rfl) (.run (fun γ ρ B hb hd => ⟨.yes rfl (ltB rfl) (hl hd 8 42 rfl) hc12, OpStep.at ⟨ρ, B, _⟩ (setO ⟨ρ, B, _⟩ _ _) (op_cmpI lb (.tmp (hl hd 10 44 rfl)) (.tmp (hl hd 12 46 rfl)) (congrArg some hv_v_33))⟩)) ?_
      refine dS 15 (fun γ ρ B hb hd => op_pickF lb (.tmp (hl hd 8 42 rfl)) hc12 (.tmp (hl hd 13 47 rfl))) ?_
      refine dS 16 (fun γ ρ B hb hd => op_move lb (.tmp (hl hd 14 48 rfl))) ?_
      refine DSteps.cons (j := 17) rfl (fun _ => rfl) (.run (fun γ ρ B hb hd => ⟨.yes rfl (ltB rfl) (hl hd 15 49 rfl) hc14, OpStep.at ⟨ρ, B, _⟩ (setO ⟨ρ, B, _⟩ _ _) (op_move lb (.tmp (hb 6 _ rfl)))⟩)) ?_
      refine DSteps.cons (j := 18) rfl (fun _ => rfl) (.run (fun γ ρ B hb hd => ⟨.yes rfl (ltB rfl) (hl hd 15 49 rfl) hc14, OpStep.at ⟨ρ, (cvar gb_10 (rP (rW (HDX go_11 (x_25 * 1) x_26)) (rP rB (rP rB r0))) ((), (x_27, (x_28, ())))) :: (cown go_11 (rU UInt8) x_24 0 gc_12) :: B, _⟩ (setO ⟨ρ, (cvar gb_10 (rP (rW (HDX go_11 (x_25 * 1) x_26)) (rP rB (rP rB r0))) ((), (x_27, (x_28, ())))) :: (cown go_11 (rU UInt8) x_24 0 gc_12) :: B, _⟩ _ _) ((op_call (js := [0, 0]) ld cl20 (sim_wire_Reader_Failed k x_25 x_26 x_27 x_28 x_24 gb_10 go_11 gc_12 v_34 hv_v_34) .func (.cons (.tmp (hl hd 16 50 rfl)) .nil) rfl).post (fun _ => Imp.refl))⟩)) ?_
      refine DSteps.cons (j := 19) rfl (fun _ => rfl) (.run (fun γ ρ B hb hd => ⟨.yes rfl (ltB rfl) (hl hd 15 49 rfl) hc14, OpStep.at ⟨ρ, B, _⟩ (setO ⟨ρ, B, _⟩ _ _) (op_move lb (.tmp (hb 7 _ rfl)))⟩)) ?_
      refine DSteps.cons (j := 20) rfl (fun _ => rfl) (.run (fun γ ρ B hb hd => ⟨.yes rfl (ltB rfl) (hl hd 15 49 rfl) hc14, OpStep.at ⟨ρ, B, _⟩ (setO ⟨ρ, B, _⟩ _ _) (op_nilCheck lb (.tmp (hl hd 18 52 rfl)) (fun e v h => by subst h; rfl))⟩)) ?_
      refine DSteps.cons (j := 21) rfl (fun _ => rfl) (.run (fun γ ρ B hb hd => ⟨.yes rfl (ltB rfl) (hl hd 15 49 rfl) hc14, OpStep.at ⟨ρ, B, _⟩ (setO ⟨ρ, B, _⟩ _ _) (op_fieldAddr (off := 2) lb tf40_2 (.tmp (hl hd 19 53 rfl)))⟩)) ?_
      refine DSteps.cons (j := 22) rfl (fun _ => rfl) (.run (fun γ ρ B hb hd => ⟨.yes rfl (ltB rfl) (hl hd 15 49 rfl) hc14, OpStep.at ⟨ρ, (cvar gb_13 r_ref01_Reader x_29) :: B, _⟩ (setO ⟨ρ, (cvar gb_13 r_ref01_Reader x_29) :: B, _⟩ _ _) (op_loadS (j := 0) lb tS4 (.tmp (hl hd 20 54 rfl)) rfl (Comp.trans (Comp.self r_ref01_Reader x_29) (comp_ref01_Reader_Failed x_29) (Nat.le_of_ble_eq_true rfl)) rfl rfl)⟩)) ?_
      refine DSteps.cons (j := 23) rfl (fun _ => rfl) (.run (fun γ ρ B hb hd => ⟨.yes rfl (ltB rfl) (hl hd 15 49 rfl) hc14, OpStep.at ⟨ρ, B, _⟩ (setO ⟨ρ, B, _⟩ _ _) (op_neB lb tu4 (.tmp (hl hd 17 51 rfl)) (.tmp (hl hd 21 55 rfl)) hv_v_35)⟩)) ?_
      refine dS 24 (fun γ ρ B hb hd => op_pickF lb (.tmp (hl hd 15 49 rfl)) hc14 (.tmp (hl hd 22 56 rfl))) ?_
      refine dS 25 (fun γ ρ B hb hd => op_move lb (.tmp (hl hd 23 57 rfl))) ?_
      refine DSteps.cons (j := 26) rfl (fun _ => rfl) (.skip (fun γ ρ B hb hd => ⟨.no rfl (ltB rfl) (hl hd 24 58 rfl) hc16, rfl, rfl, rfl, fun d h => by cases h; exact ltB rfl⟩)) ?_
      refine DSteps.cons (j := 27) rfl (fun _ => rfl) (.skip (fun γ ρ B hb hd => ⟨.no rfl (ltB rfl) (hl hd 24 58 rfl) hc16, rfl, rfl, rfl, fun d h => by cases h; exact ltB rfl⟩)) ?_
      refine DSteps.cons (j := 28) rfl (fun _ => rfl) (.skip (fun γ ρ B hb hd => ⟨.no rfl (ltB rfl) (hl hd 24 58 rfl) hc16, rfl, rfl, rfl, fun d h => by cases h; exact ltB rfl⟩)) ?_
      refine DSteps.cons (j := 29) rfl (fun _ => rfl) (.skip (fun γ ρ B hb hd => ⟨.no rfl (ltB rfl) (hl hd 24 58 rfl) hc16, rfl, rfl, rfl, fun d h => by cases h; exact ltB rfl⟩)) ?_
      refine DSteps.cons (j := 30) rfl (fun _ => rfl) (.skip (fun γ ρ B hb hd => ⟨.no rfl (ltB rfl) (hl hd 24 58 rfl) hc16, rfl, rfl, rfl, fun d h => by cases h; exact ltB rfl⟩)) ?_
      refine DSteps.cons (j := 31) rfl (fun _ => rfl) (.skip (fun γ ρ B hb hd => ⟨.no rfl (ltB rfl) (hl hd 24 58 rfl) hc16, rfl, rfl, rfl, fun d h => by cases h; exact ltB rfl⟩)) ?_
      refine dS 32 (fun γ ρ B hb hd => op_pickT lb (.tmp (hl hd 24 58 rfl)) hc16 .cB) ?_
      exact DSteps.nil)
                       (by decide +kernel) (fun _ => rfl) rfl (fun _ => rfl) (fun _ => rfl) rfl (by decide) (by decide) (by decide +kernel) (fun _ d h => by cases h)
                       (ρ' := fun γ => [(0, ov (S (rL (rU UInt8)) t_1)), (1, ov (S (rL r_law01_Step) a_2)), (5, ov (S rS t_1)), (6, ov (PTR gb_10 0)), (7, ov (PTR gb_13 0)), (8, ov (S (rI .i64) x_20)), (65, ov (S rB true))])
                       (X' := fun γ => [cvar gb_13 r_ref01_Reader x_29, cvar gb_10 (rP (rW (HDX go_11 (x_25 * 1) x_26)) (rP rB (rP rB r0))) ((), (x_27, (x_28, ()))), cown go_11 (rU UInt8) x_24 0 gc_12])
                       (fun γ ρ hb hd => (.cons (hb 0 _ rfl (by decide)) (.cons (hb 1 _ rfl (by decide)) (.cons (hb 5 _ rfl (by decide)) (.cons (hb 6 _ rfl (by decide)) (.cons (hb 7 _ rfl (by decide)) (.cons (hb 8 _ rfl (by decide)) (.cons (hdq hd 31 65 rfl) .nil)))))))) (fun _ => rfl) (fun γ => ?_)
                   refine JQ.at ⟨[(0, ov (S (rL (rU UInt8)) t_1)), (1, ov (S (rL r_law01_Step) a_2)), (5, ov (S rS t_1)), (6, ov (PTR gb_10 0)), (7, ov (PTR gb_13 0)), (8, ov (S (rI .i64) x_20)), (65, ov (S rB true))], [cvar gb_13 r_ref01_Reader x_29, cvar gb_10 (rP (rW (HDX go_11 (x_25 * 1) x_26)) (rP rB (rP rB r0))) ((), (x_27, (x_28, ()))), cown go_11 (rU UInt8) x_24 0 gc_12], []⟩ ?_
                   replace hx10 := Option.some.inj hx10
                   replace hx10 := Prod.mk.inj hx10
                   obtain ⟨hx10_a, hx10⟩ := hx10
                   first | subst hx10_a | clear hx10_a
                   replace hx10 := Prod.mk.inj hx10
                   obtain ⟨hx10_a, hx10⟩ := hx10
                   first | subst hx10_a | clear hx10_a
                   replace hx10 := Prod.mk.inj hx10
                   obtain ⟨hx10_a, hx10⟩ := hx10
                   first | subst hx10_a | clear hx10_a
                   replace hx10 := Prod.mk.inj hx10
                   obtain ⟨hx10_a, hx10⟩ := hx10
                   first | subst hx10_a | clear hx10_a
                   replace hx10 := Prod.mk.inj hx10
                   obtain ⟨hx10_a, hx10⟩ := hx10
                   first | subst hx10_a | clear hx10_a
                   replace hx10 := Prod.mk.inj hx10
                   obtain ⟨hx10_a, hx10⟩ := hx10
                   first | subst hx10_a | clear hx10_a
                   first | subst hx10 | clear hx10
                   exact JQ.join () (Imp.norm (js := [1, 1, 0]) rfl (.cons rfl (.cons rfl (.cons rfl (.cons rfl (.cons rfl (.cons rfl (.cons rfl .nil))))))))
                 · replace hx10 := bnd_inv hx10
                   obtain ⟨v_36, hv_v_36, hx10⟩ := hx10
                   replace hx10 := bnd_inv hx10
                   obtain ⟨_, hv_u_37, hx10⟩ := hx10
                   replace hx10 := bnd_inv hx10
                   obtain ⟨v_38, hv_v_38, hx10⟩ := hx10
                   replace hx10 := lt1_inv hx10
                   obtain ⟨v_39, hv_v_39, hx10⟩ := hx10
                   refine JC.anyE (kl := []) (kk := 0) (base := [(0, ov (S (rL (rU UInt8)) t_1)), (1, ov (S (rL r_law01_Step) a_2)), (5, ov (S rS t_1)), (6, ov (PTR gb_10 0)), (7, ov (PTR gb_13 0)), (8, ov (S (rI .i64) x_20))])
                       (fs := fun γ => [⟨some 34, ov (PTR gb_10 0)⟩, ⟨some 35, ov (PTR gb_13 0)⟩, ⟨some 36, ov (S (rL r_law01_Step) a_2)⟩, ⟨some 37, ov (S (rI .i64) x_20)⟩, ⟨some 38, ov (PT r_law01_Step v_22)⟩, ⟨some 39, ov (A r_law01_Step v_22)⟩, ⟨some 40, ov (S rB v_23)⟩, ⟨some 41, ov (S rB v_30)⟩, ⟨some 42, ov (S rB v_30)⟩, ⟨some 43, ov (PTR gb_10 0)⟩, ⟨some 44, ov (S (rI .i64) v_31)⟩, ⟨some 45, ov (PTR gb_13 0)⟩, ⟨some 46, ov (S (rI .i64) v_32)⟩, ⟨some 47, ov (S rB v_33)⟩, ⟨some 48, ov (S rB v_33)⟩, ⟨some 49, ov (S rB v_33)⟩, ⟨some 50, ov (PTR gb_10 0)⟩, ⟨some 51, ov (S rB v_34)⟩, ⟨some 52, ov (PTR gb_13 0)⟩, ⟨some 53, ov (PTR gb_13 0)⟩, ⟨some 54, ov (PTR gb_13 (0 + 2))⟩, ⟨some 55, ov (S rB x_29.Failed)⟩, ⟨some 56, ov (S rB v_35)⟩, ⟨some 57, ov (S rB v_35)⟩, ⟨some 58, ov (S rB v_35)⟩, ⟨some 59, ov (PTR gb_10 0)⟩, ⟨some 60, ov (S (rI .i64) v_36)⟩, ⟨some 61, ov (S (rI .i64) v_36)⟩, ⟨some 62, ov (PTR gb_13 0)⟩, ⟨some 63, ov (S (rI .i64) v_38)⟩, ⟨some 64, ov (S rB v_39)⟩, ⟨some 65, ov (S rB v_39)⟩])
                       (rs := fun γ => [⟨cvar gb_10 (rP (rW (HDX go_11 (x_15 * 1) x_16)) (rP rB (rP rB r0))) ((), (is_17, (made_18, ()))), none, (some 6), []⟩, ⟨cown go_11 (rU UInt8) x_14 0 gc_12, none, (some 6), []⟩, ⟨cvar gb_13 r_ref01_Reader x_19, none, (some 6), []⟩, ⟨cvar gb_10 (rP (rW (HDX go_11 (x_25 * 1) x_26)) (rP rB (rP rB r0))) ((), (x_27, (x_28, ()))), (some 6), (some 10), []⟩, ⟨cown go_11 (rU UInt8) x_24 0 gc_12, (some 6), (some 10), []⟩, ⟨cvar gb_13 r_ref01_Reader x_29, (some 6), (some 12), []⟩, ⟨cvar gb_10 (rP (rW (HDX go_11 (x_25 * 1) x_26)) (rP rB (rP rB r0))) ((), (x_27, (x_28, ()))), (some 10), (some 17), []⟩, ⟨cown go_11 (rU UInt8) x_24 0 gc_12, (some 10), (some 17), []⟩, ⟨cvar gb_13 r_ref01_Reader x_29, (some 12), (some 29), [21]⟩, ⟨cvar gb_10 (rP (rW (HDX go_11 (x_25 * 1) x_26)) (rP rB (rP rB r0))) ((), (x_27, (x_28, ()))), (some 17), (some 26), []⟩, ⟨cown go_11 (rU UInt8) x_24 0 gc_12, (some 17), (some 26), []⟩, ⟨cvar gb_10 (rP (rW (HDX go_11 (x_25 * 1) x_26)) (rP rB (rP rB r0))) ((), (x_27, (x_28, ()))), (some 26), none, []⟩, ⟨cown go_11 (rU UInt8) x_24 0 gc_12, (some 26), none, []⟩, ⟨cvar gb_13 r_ref01_Reader x_29, (some 29), none, []⟩])
                       (ds := [34, 35, 36, 37, 38, 39, 40, 41, 42, 43, 44, 45, 46, 47, 48, 49, 50, 51, 52, 53, 54, 55, 56, 57, 58, 59, 60, 61, 62, 63, 64, 65]) (bs := [0, 1, 5, 6, 7, 8]) (afts := [[], [], [], [], [], [], [], [], [], [], [], [], [], [], [], [], [], [], [], [], [], [], [], [], [], [], [], [], [], [], [], []]) (js := [0, 0, 0]) mixed (.cons rfl (.cons rfl (.cons rfl (.cons rfl (.cons rfl (.cons rfl .nil)))))) (fun _ => rfl)
                       (by
      refine dS 1 (fun γ ρ B hb hd => op_move lb (.tmp (hb 6 _ rfl))) ?_
      refine dS 2 (fun γ ρ B hb hd => op_move lb (.tmp (hb 7 _ rfl))) ?_
      refine dS 3 (fun γ ρ B hb hd => op_move lb (.tmp (hb 1 _ rfl))) ?_
      refine dS 4 (fun γ ρ B hb hd => op_move lb (.tmp (hb 8 _ rfl))) ?_
      refine dS 5 (fun γ ρ B hb hd => op_indexAddrLg lb tu35 tz43 (.tmp (hl hd 2 36 rfl)) (.tmp (hl hd 3 37 rfl)) hv_v_22) ?_
      refine dS 6 (fun γ ρ B hb hd => op_loadPAg lb tA43 (.tmp (hl hd 4 38 rfl)) rfl) ?_
      refine DSteps.cons (j := 7) rfl (fun _ => rfl) (.run (fun γ ρ B hb hd => ⟨.none, OpStep.at ⟨ρ, (cvar gb_10 (rP (rW (HDX go_11 (x_15 * 1) x_16)) (rP rB (rP rB r0))) ((), (is_17, (made_18, ())))) :: (cown go_11 (rU UInt8) x_14 0 gc_12) :: (cvar gb_13 r_ref01_Reader x_19) :: B, _⟩ (setO ⟨ρ, (cvar gb_10 (rP (rW (HDX go_11 (x_25 * 1) x_26)) (rP rB (rP rB r0))) ((), (x_27, (x_28, ())))) :: (cown go_11 (rU UInt8) x_24 0 gc_12) :: (cvar gb_13 r_ref01_Reader x_29) :: B, _⟩ _ _) ((op_call (js := [0, 0, 0]) ld cl17 (sim_law01_step'2 k v_22 x_15 x_16 is_17 made_18 x_14 x_19 gb_10 go_11 gc_12 gb_13 (v_23, x_24, x_25, x_26, x_27, x_28, x_29) hv_v_23) .func (.cons (.tmp (hl hd 0 34 rfl)) (.cons (.tmp (hl hd 1 35 rfl)) (.cons (.tmp (hl hd 5 39 rfl)) .nil))) rfl).post (fun _ => Imp.refl))⟩)) ?_
      refine dS 8 (fun γ ρ B hb hd => op_not lb (.tmp (hl hd 6 40 rfl)) hv_v_30) ?_
      refine dS 9 (fun γ ρ B hb hd => op_move lb (.tmp (hl hd 7 41 rfl))) ?_
      refine DSteps.cons (j := 10) rfl (fun _ => rfl) (.run (fun γ ρ B hb hd => ⟨.yes rfl (ltB rfl) (hl hd 8 42 rfl) hc12, OpStep.at ⟨ρ, B, _⟩ (setO ⟨ρ, B, _⟩ _ _) (op_move lb (.tmp (hb 6 _ rfl)))⟩)) ?_
      refine DSteps.cons (j := 11) rfl (fun _ => rfl) (.run (fun γ ρ B hb hd => ⟨.yes rfl (ltB rfl) (hl hd 8 42 rfl) hc12, OpStep.at ⟨ρ, (cvar gb_10 (rP (rW (HDX go_11 (x_25 * 1) x_26)) (rP rB (rP rB r0))) ((), (x_27, (x_28, ())))) :: (cown go_11 (rU UInt8) x_24 0 gc_12) :: B, _⟩ (setO ⟨ρ, (cvar gb_10 (rP (rW (HDX go_11 (x_25 * 1) x_26)) (rP rB (rP rB r0))) ((), (x_27, (x_28, ())))) :: (cown go_11 (rU UInt8) x_24 0 gc_12) :: B, _⟩ _ _) ((op_call (js := [0, 0]) ld cl18 (sim_wire_Reader_Left k x_25 x_26 x_27 x_28 x_24 gb_10 go_11 gc_12 v_31 hv_v_31) .func (.cons (.tmp (hl hd 9 43 rfl)) .nil) rfl).post (fun _ => Imp.refl))⟩)) ?_
      refine DSteps.cons (j := 12) rfl (fun _ => rfl) (.run (fun γ ρ B hb hd => ⟨.yes rfl (ltB rfl) (hl hd 8 42 rfl) hc12, OpStep.at ⟨ρ, B, _⟩ (setO ⟨ρ, B, _⟩ _ _) (op_move lb (.tmp (hb 7 _ rfl)))⟩)) ?_
      refine DSteps.cons (j := 13) rfl (fun _ => rfl) (.run (fun γ ρ B hb hd => ⟨.yes rfl (ltB rfl) (hl hd 8 42 rfl) hc12, OpStep.at ⟨ρ, (cvar gb_13 r_ref01_Reader x_29) :: B, _⟩ (setO ⟨ρ, (cvar gb_13 r_ref01_Reader x_29) :: B, _⟩ _ _) ((op_call (js := [0]) ld cl19 (sim_ref01_Reader_Left k x_29 gb_13 v_32 hv_v_32) .func (.cons (.tmp (hl hd 11 45 rfl)) .nil) rfl).post (fun _ => Imp.refl))⟩)) ?_
      refine DSteps.cons (j := 14) rfl (fun _ => rfl) (.run (fun γ ρ B hb hd => ⟨.yes rfl (ltB rfl) (hl hd 8 42 rfl) hc12, OpStep.at ⟨ρ, B, _⟩ (setO ⟨ρ, B, _⟩ _ _) (op_cmpI lb (.tmp (hl hd 10 44 rfl)) (.tmp (hl hd 12 46 rfl)) (congrArg some hv_v_33))⟩)) ?_
      refine dS 15 (fun γ ρ B hb hd => op_pickF lb (.tmp (hl hd 8 42 rfl)) hc12 (.tmp (hl hd 13 47 rfl))) ?_
      refine dS 16 (fun γ ρ B hb hd => op_move lb (.tmp (hl hd 14 48 rfl))) ?_
      refine DSteps.cons (j := 17) rfl (fun _ => rfl) (.run (fun γ ρ B hb hd => ⟨.yes rfl (ltB rfl) (hl hd 15 49 rfl) hc14, OpStep.at ⟨ρ, B, _⟩ (setO ⟨ρ, B, _⟩ _ _) (op_move lb (.tmp (hb 6 _ rfl)))⟩)) ?_
      refine DSteps.cons (j := 18) rfl (fun _ => rfl) (.run (fun γ ρ B hb hd => ⟨.yes rfl (ltB rfl) (hl hd 15 49 rfl) hc14, OpStep.at ⟨ρ, (cvar gb_10 (rP (rW (HDX go_11 (x_25 * 1) x_26)) (rP rB (rP rB r0))) ((), (x_27, (x_28, ())))) :: (cown go_11 (rU UInt8) x_24 0 gc_12) :: B, _⟩ (setO ⟨ρ, (cvar gb_10 (rP (rW (HDX go_11 (x_25 * 1) x_26)) (rP rB (rP rB r0))) ((), (x_27, (x_28, ())))) :: (cown go_11 (rU UInt8) x_24 0 gc_12) :: B, _⟩ _ _) ((op_call (js := [0, 0]) ld cl20 (sim_wire_Reader_Failed k x_25 x_26 x_27 x_28 x_24 gb_10 go_11 gc_12 v_34 hv_v_34) .func (.cons (.tmp (hl hd 16 50 rfl)) .nil) rfl).post (fun _ => Imp.refl))⟩)) ?_
      refine DSteps.cons (j := 19) rfl (fun _ => rfl) (.run (fun γ ρ B hb hd => ⟨.yes rfl (ltB rfl) (hl hd 15 49 rfl) hc14, OpStep.at ⟨ρ, B, _⟩ (setO ⟨ρ, B, _⟩ _ _) (op_move lb (.tmp (hb 7 _ rfl)))⟩)) ?_
      refine DSteps.cons (j := 20) rfl (fun _ => rfl) (.run (fun γ ρ B hb hd => ⟨.yes rfl (ltB rfl) (hl hd 15 49 rfl) hc14, OpStep.at ⟨ρ, B, _⟩ (setO ⟨ρ, B, _⟩ _ _) (op_nilCheck lb (.tmp (hl hd 18 52 rfl)) (fun e v h => by subst h; rfl))⟩)) ?_
      refine DSteps.cons (j := 21) rfl (fun _ => rfl) (.run (fun γ ρ B hb hd => ⟨.yes rfl (ltB rfl) (hl hd 15 49 rfl) hc14, OpStep.at ⟨ρ, B, _⟩ (setO ⟨ρ, B, _⟩ _ _) (op_fieldAddr (off := 2) lb tf40_2 (.tmp (hl hd 19 53 rfl)))⟩)) ?_
      refine DSteps.cons (j := 22) rfl (fun _ => rfl) (.run (fun γ ρ B hb hd => ⟨.yes rfl (ltB rfl) (hl hd 15 49 rfl) hc14, OpStep.at ⟨ρ, (cvar gb_13 r_ref01_Reader x_29) :: B, _⟩ (setO ⟨ρ, (cvar gb_13 r_ref01_Reader x_29) :: B, _⟩ _ _) (op_loadS (j := 0) lb tS4 (.tmp (hl hd 20 54 rfl)) rfl (Comp.trans (Comp.self r_ref01_Reader x_29) (comp_ref01_Reader_Failed x_29) (Nat.le_of_ble_eq_true rfl)) rfl rfl)⟩)) ?_
      refine DSteps.cons (j := 23) rfl (fun _ => rfl) (.run (fun γ ρ B hb hd => ⟨.yes rfl (ltB rfl) (hl hd 15 49 rfl) hc14, OpStep.at ⟨ρ, B, _⟩ (setO ⟨ρ, B, _⟩ _ _) (op_neB lb tu4 (.tmp (hl hd 17 51 rfl)) (.tmp (hl hd 21 55 rfl)) hv_v_35)⟩)) ?_
      refine dS 24 (fun γ ρ B hb hd => op_pickF lb (.tmp (hl hd 15 49 rfl)) hc14 (.tmp (hl hd 22 56 rfl))) ?_
      refine dS 25 (fun γ ρ B hb hd => op_move lb (.tmp (hl hd 23 57 rfl))) ?_
      refine DSteps.cons (j := 26) rfl (fun _ => rfl) (.run (fun γ ρ B hb hd => ⟨.yes rfl (ltB rfl) (hl hd 24 58 rfl) hc16, OpStep.at ⟨ρ, B, _⟩ (setO ⟨ρ, B, _⟩ _ _) (op_move lb (.tmp (hb 6 _ rfl)))⟩)) ?_
      refine DSteps.cons (j := 27) rfl (fun _ => rfl) (.run (fun γ ρ B hb hd => ⟨.yes rfl (ltB rfl) (hl hd 24 58 rfl) hc16, OpStep.at ⟨ρ, (cvar gb_10 (rP (rW (HDX go_11 (x_25 * 1) x_26)) (rP rB (rP rB r0))) ((), (x_27, (x_28, ())))) :: (cown go_11 (rU UInt8) x_24 0 gc_12) :: B, _⟩ (setO ⟨ρ, (cvar gb_10 (rP (rW (HDX go_11 (x_25 * 1) x_26)) (rP rB (rP rB r0))) ((), (x_27, (x_28, ())))) :: (cown go_11 (rU UInt8) x_24 0 gc_12) :: B, _⟩ _ _) ((op_call (js := [0, 0]) ld cl21 (sim_wire_Reader_End k x_25 x_26 x_27 x_28 x_24 gb_10 go_11 gc_12 v_36 hv_v_36) .func (.cons (.tmp (hl hd 25 59 rfl)) .nil) rfl).post (fun _ => Imp.refl))⟩)) ?_
      refine DSteps.cons (j := 28) rfl (fun _ => rfl) (.run (fun γ ρ B hb hd => ⟨.yes rfl (ltB rfl) (hl hd 24 58 rfl) hc16, OpStep.at ⟨ρ, B, _⟩ (setO ⟨ρ, B, _⟩ _ _) ((op_call (js := []) ld cl13 (sim_law01_num k v_36 () hv_u_37) .func (.cons (.tmp (hl hd 26 60 rfl)) .nil) rfl).post (fun _ => Imp.refl))⟩)) ?_
      refine DSteps.cons (j := 29) rfl (fun _ => rfl) (.run (fun γ ρ B hb hd => ⟨.yes rfl (ltB rfl) (hl hd 24 58 rfl) hc16, OpStep.at ⟨ρ, B, _⟩ (setO ⟨ρ, B, _⟩ _ _) (op_move lb (.tmp (hb 7 _ rfl)))⟩)) ?_
      refine DSteps.cons (j := 30) rfl (fun _ => rfl) (.run (fun γ ρ B hb hd => ⟨.yes rfl (ltB rfl) (hl hd 24 58 rfl) hc16, OpStep.at ⟨ρ, (cvar gb_13 r_ref01_Reader x_29) :: B, _⟩ (setO ⟨ρ, (cvar gb_13 r_ref01_Reader x_29) :: B, _⟩ _ _) ((op_call (js := [0]) ld cl22 (sim_ref01_Reader_End k x_29 gb_13 v_38 hv_v_38) .func (.cons (.tmp (hl hd 28 62 rfl)) .nil) rfl).post (fun _ => Imp.refl))⟩)) ?_
      refine DSteps.cons (j := 31) rfl (fun _ => rfl) (.run (fun γ ρ B hb hd => ⟨.yes rfl (ltB rfl) (hl hd 24 58 rfl) hc16, OpStep.at ⟨ρ, B, _⟩ (setO ⟨ρ, B, _⟩ _ _) (op_cmpI lb (.tmp (hl hd 27 61 rfl)) (.tmp (hl hd 29 63 rfl)) (congrArg some hv_v_39))⟩)) ?_
      refine dS 32 (fun γ ρ B hb hd => op_pickF lb (.tmp (hl hd 24 58 rfl)) hc16 (.tmp (hl hd 30 64 rfl))) ?_
      exact DSteps.nil)
                       (by decide +kernel) (fun _ => rfl) rfl (fun _ => rfl) (fun _ => rfl) rfl (by decide) (by decide) (by decide +kernel) (fun _ d h => by cases h)
                       (ρ' := fun γ => [(0, ov (S (rL (rU UInt8)) t_1)), (1, ov (S (rL r_law01_Step) a_2)), (5, ov (S rS t_1)), (6, ov (PTR gb_10 0)), (7, ov (PTR gb_13 0)), (8, ov (S (rI .i64) x_20)), (65, ov (S rB v_39))])
                       (X' := fun γ => [cvar gb_10 (rP (rW (HDX go_11 (x_25 * 1) x_26)) (rP rB (rP rB r0))) ((), (x_27, (x_28, ()))), cown go_11 (rU UInt8) x_24 0 gc_12, cvar gb_13 r_ref01_Reader x_29])
                       (fun γ ρ hb hd => (.cons (hb 0 _ rfl (by decide)) (.cons (hb 1 _ rfl (by decide)) (.cons (hb 5 _ rfl (by decide)) (.cons (hb 6 _ rfl (by decide)) (.cons (hb 7 _ rfl (by decide)) (.cons (hb 8 _ rfl (by decide)) (.cons (hdq hd 31 65 rfl) .nil)))))))) (fun _ => rfl) (fun γ => ?_)
                   refine JQ.at ⟨[(0, ov (S (rL (rU UInt8)) t_1)), (1, ov (S (rL r_law01_Step) a_2)), (5, ov (S rS t_1)), (6, ov (PTR gb_10 0)), (7, ov (PTR gb_13 0)), (8, ov (S (rI .i64) x_20)), (65, ov (S rB v_39))], [cvar gb_10 (rP (rW (HDX go_11 (x_25 * 1) x_26)) (rP rB (rP rB r0))) ((), (x_27, (x_28, ()))), cown go_11 (rU UInt8) x_24 0 gc_12, cvar gb_13 r_ref01_Reader x_29], []⟩ ?_
                   replace hx10 := Option.some.inj hx10
                   replace hx10 := Prod.mk.inj hx10
                   obtain ⟨hx10_a, hx10⟩ := hx10
                   first | subst hx10_a | clear hx10_a
                   replace hx10 := Prod.mk.inj hx10
                   obtain ⟨hx10_a, hx10⟩ := hx10
                   first | subst hx10_a | clear hx10_a
                   replace hx10 := Prod.mk.inj hx10
                   obtain ⟨hx10_a, hx10⟩ := hx10
                   first | subst hx10_a | clear hx10_a
                   replace hx10 := Prod.mk.inj hx10
                   obtain ⟨hx10_a, hx10⟩ := hx10
                   first | subst hx10_a | clear hx10_a
                   replace hx10 := Prod.mk.inj hx10
                   obtain ⟨hx10_a, hx10⟩ := hx10
                   first | subst hx10_a | clear hx10_a
                   replace hx10 := Prod.mk.inj hx10
                   obtain ⟨hx10_a, hx10⟩ := hx10
                   first | subst hx10_a | clear hx10_a
                   first | subst hx10 | clear hx10
                   exact JQ.join () (Imp.norm (js := [0, 0, 0]) rfl (.cons rfl (.cons rfl (.cons rfl (.cons rfl (.cons rfl (.cons rfl (.cons rfl .nil))))))))
         · refine JC.condF (.tmp rfl) hc9 ?_
           refine JC.exit ?_
           refine JQ.outX ?_
           replace hx := Option.some.inj hx
           first | subst hx | clear hx
           have ht := hr _ rfl
           clear hr
           first | subst ht | clear ht
           dsimp only at hq8
           refine JQ.outX ?_
           refine JQ.here ?_
           replace hq8 := Option.some.inj hq8
           first | subst hq8 | clear hq8
           exact JQ.joinK () () rfl (Imp.norm (js := []) rfl (.cons rfl (.cons rfl .nil)))
 · refine JC.region ?_
   refine jc (op_move lb (.tmp rfl)) ?_
   refine jc (op_lenL lb tu23 (.tmp rfl)) ?_
   replace hx1 := lt1_inv hx1
   obtain ⟨v_3, hv_v_3, hx1⟩ := hx1
   refine jc (op_cmpI lb (.tmp rfl) .cI (congrArg some hv_v_3)) ?_
   refine jc (op_move lb (.tmp rfl)) ?_
   refine JL.cnd (sv := ov (S (rL r_law01_Step) a_2)) (Guard.isF (ltB rfl) rfl rfl) rfl (ltB rfl) (fun hq_2 => op_move lb (.tmp rfl)) ?_
   refine JL.cnd (sv := ov (S (rI .i64) (List.length a_2 : Int))) (Guard.isF (ltB rfl) rfl rfl) rfl (ltB rfl) (fun hq_3 => op_lenL lb tu35 (HasO.cnd (.tmp rfl) (notT (notF hq_3)))) ?_
   replace hx1 := lt1_inv hx1
   obtain ⟨v_4, hv_v_4, hx1⟩ := hx1
   refine JL.cnd (sv := ov (S rB v_4)) (Guard.isF (ltB rfl) rfl rfl) rfl (ltB rfl) (fun hq_4 => op_cmpI lb (HasO.cnd (.tmp rfl) (notT (notF hq_4))) .cI (congrArg some hv_v_4)) ?_
   replace hx1 := lt1_inv hx1
   obtain ⟨v_5, hv_v_5, hx1⟩ := hx1
   refine jc (op_pickCS lb (.tmp rfl) (fun hb5 => .cB) (fun hb5 => (HasO.cnd (.tmp rfl) (notT hb5))) hv_v_5) ?_
   refine JL.nil ?_
   replace hx1 := Option.some.inj hx1
   first | subst hx1 | clear hx1
   exact JQ.join () (Imp.norm (js := []) rfl (.cons rfl (.cons rfl (.cons rfl .nil))))

end Go.Proofs.Ytkbkdfcakpbojaa
