/- Walks. -/
import Derived.Test.YthoggbomakolkaaT
import Derived.Test.YthoggbomakolkaaW5
import Derived.Test.YthoggbomakolkaaW6
namespace Go.Proofs.Ythoggbomakolkaa
open Go Fw
set_option linter.unusedVariables false
set_option maxRecDepth 100000
set_option maxHeartbeats 4000000

theorem sim_ref09_May (k : Nat) (t_1 : api_Event) (r : Bool) (hm : ref09_May k t_1 = some r) : Sim Try.prog 18 [A r_api_Event t_1] [] (γ := Unit) (fun q => []) (fun q => .one (.val (S rB r))) := by
 unfold ref09_May at hm
 refine Sim.of Try.func18 rfl rfl (Nat.le_of_ble_eq_true rfl) (fun e0 w0 => ?_)
 refine JC.at ⟨[(0, ov (A r_api_Event t_1))], [], []⟩ ?_
 refine JC.seq ?_
 refine JC.region ?_
 refine jx (op_boxA lb (.tmp rfl)) (fun q => ?_)
 obtain ⟨gb_2, hqq⟩ : ∃ z, z = q := ⟨_, rfl⟩
 subst hqq
 refine jc (op_assign lb .cB) ?_
 refine JL.nil ?_
 refine JQ.then ?_
 refine JC.seq ?_
 replace hm := bnd_inv hm
 obtain ⟨x_16, hx1, hq1⟩ := hm
 refine JC.seqJ (γ := Unit) (stj := fun q => ⟨[(1, ov (PTR gb_2 0)), (45, ov (S rB x_16))], [cvar gb_2 r_api_Event t_1], []⟩) (fun q => ?_) ?_
 · obtain _ := q
   refine JC.at ⟨[(1, ov (PTR gb_2 0)), (45, ov (S rB x_16))], [cvar gb_2 r_api_Event t_1], []⟩ ?_
   replace hq1 := iteB_inv hq1
   rcases hq1 with ⟨hc12, hq1⟩ | ⟨hc12, hq1⟩
   · refine JC.condT (.tmp rfl) hc12 ?_
     refine JC.seq ?_
     refine JC.region ?_
     refine jc (op_assign lb .cB) ?_
     refine JL.nil ?_
     refine JQ.then ?_
     refine JC.ret ?_
     refine JQ.outR ?_
     replace hq1 := Option.some.inj hq1
     subst hq1
     exact JQ.done (js := []) (ss := [.val (S rB false)]) () (.inl rfl) (.nil rfl) rfl (.cons (.tmp rfl) .nil) rfl rfl rfl
   · refine JC.condF (.tmp rfl) hc12 ?_
     refine JC.skip ?_
     refine JQ.then ?_
     replace hq1 := bnd_inv hq1
     obtain ⟨tv13, hx13, hq13⟩ := hq1
     refine JC.seqK (α := Unit) (γ := Unit) (stj := fun v q => ⟨[], [], []⟩) (p := fun v => tv13 = (.inl v)) (fun v q hv => ?_) ?_
     · subst hv
       skip
       obtain _ := q
       dsimp only at hq13
       refine JC.at ⟨[], [], []⟩ ?_
       refine JC.seq ?_
       refine JC.region ?_
       refine jc (op_assign lb .cB) ?_
       refine JL.nil ?_
       refine JQ.then ?_
       refine JC.ret ?_
       replace hq13 := Option.some.inj hq13
       subst hq13
       exact JQ.done (js := []) (ss := [.val (S rB true)]) () (.inl rfl) (.nil rfl) rfl (.cons (.tmp rfl) .nil) rfl rfl rfl
     · refine JC.seq ?_
       refine JC.region ?_
       refine jc (op_assign lb .cI) ?_
       refine JL.nil ?_
       refine JQ.then ?_
       refine JC.block ?_
       replace hx13 := bnd_inv hx13
       obtain ⟨tv14, hL14, hq14⟩ := hx13
       refine JC.pre ?_ (JC.loop (γ := Unit) (stf := fun s q => ⟨[(1, ov (PTR gb_2 0)), (3, ov (S (rI .i64) s))], [cvar gb_2 r_api_Event t_1], []⟩) (q := ()) hL14 ?_)
       · exact (Imp.norm (js := [0]) rfl (.cons rfl (.cons rfl .nil)))
       · intro x_17 q x hx hr
         obtain _ := q
         change ref09_May.b1 k t_1 x_17 = some x at hx
         unfold ref09_May.b1 at hx
         refine JC.at ⟨[(1, ov (PTR gb_2 0)), (3, ov (S (rI .i64) x_17))], [cvar gb_2 r_api_Event t_1], []⟩ ?_
         refine JC.seq ?_
         refine JC.seq ?_
         refine JC.region ?_
         refine jc (op_move lb (.tmp rfl)) ?_
         refine jc (op_fieldAddr (off := 20) lb tf38_4 (.tmp rfl)) ?_
         refine jc (op_loadS (j := 0) lb tS36 (.tmp rfl) rfl (Comp.trans (Comp.self r_api_Event t_1) (comp_api_Event_To t_1) (Nat.le_of_ble_eq_true rfl)) rfl rfl) ?_
         refine jc (op_lenL lb tu36 (.tmp rfl)) ?_
         replace hx := lt1_inv hx
         obtain ⟨v_18, hv_v_18, hx⟩ := hx
         refine jc (op_cmpI lb (.tmp rfl) (.tmp rfl) (congrArg some hv_v_18)) ?_
         refine JL.nil ?_
         refine JQ.then ?_
         replace hx := iteB_inv hx
         rcases hx with ⟨hc15, hx⟩ | ⟨hc15, hx⟩
         · refine JC.condT (.tmp rfl) hc15 ?_
           refine JC.skip ?_
           refine JQ.then ?_
           refine JC.seq ?_
           refine JC.block ?_
           replace hx := bnd_inv hx
           obtain ⟨x_31, hx16, hq16⟩ := hx
           refine JC.seqJ (γ := Unit) (stj := fun q => ⟨[(1, ov (PTR gb_2 0)), (3, ov (S (rI .i64) x_17)), (91, ov (S rB x_31))], [cvar gb_2 r_api_Event t_1], []⟩) (fun q => ?_) ?_
           · obtain _ := q
             refine JC.at ⟨[(1, ov (PTR gb_2 0)), (3, ov (S (rI .i64) x_17)), (91, ov (S rB x_31))], [cvar gb_2 r_api_Event t_1], []⟩ ?_
             replace hq16 := iteB_inv hq16
             rcases hq16 with ⟨hc26, hq16⟩ | ⟨hc26, hq16⟩
             · refine JC.condT (.tmp rfl) hc26 ?_
               refine JC.seq ?_
               refine JC.region ?_
               refine jc (op_assign lb .cB) ?_
               refine JL.nil ?_
               refine JQ.then ?_
               refine JC.ret ?_
               refine JQ.outRB ?_
               refine JQ.outR ?_
               replace hq16 := Option.some.inj hq16
               first | subst hq16 | clear hq16
               have ht := hr _ rfl
               clear hr
               first | subst ht | clear ht
               dsimp only at hq14
               refine JQ.outR ?_
               refine JQ.outRB ?_
               replace hq14 := Option.some.inj hq14
               first | subst hq14 | clear hq14
               dsimp only at hq13
               refine JQ.outR ?_
               replace hq13 := Option.some.inj hq13
               subst hq13
               exact JQ.done (js := []) (ss := [.val (S rB false)]) () (.inl rfl) (.nil rfl) rfl (.cons (.tmp rfl) .nil) rfl rfl rfl
             · refine JC.condF (.tmp rfl) hc26 ?_
               refine JC.skip ?_
               refine JQ.outNB ?_
               refine JQ.then ?_
               refine JC.region ?_
               refine jc (op_move lb (.tmp rfl)) ?_
               replace hq16 := lt1_inv hq16
               obtain ⟨v_32, hv_v_32, hq16⟩ := hq16
               refine jc (op_arI lb (.tmp rfl) .cI (congrArg some hv_v_32)) ?_
               refine jc (op_assign lb (.tmp rfl)) ?_
               refine JL.nil ?_
               replace hq16 := Option.some.inj hq16
               first | subst hq16 | clear hq16
               exact JQ.next () rfl (Imp.norm (js := [0]) rfl (.cons rfl (.cons rfl .nil)))
           · replace hx16 := bnd_inv hx16
             obtain ⟨v_19, hv_v_19, hx16⟩ := hx16
             replace hx16 := bnd_inv hx16
             obtain ⟨v_20, hv_v_20, hx16⟩ := hx16
             replace hx16 := lt1_inv hx16
             obtain ⟨v_21, hv_v_21, hx16⟩ := hx16
             replace hx16 := iteB_inv hx16
             rcases hx16 with ⟨hc18, hx16⟩ | ⟨hc18, hx16⟩
             · refine JC.anyE (kl := []) (kk := 0) (base := [(1, ov (PTR gb_2 0)), (3, ov (S (rI .i64) x_17))])
                   (fs := fun γ => [⟨some 53, ov (PTR gb_2 (0 + 20))⟩, ⟨some 54, ov (S (rL r_api_Dest) t_1.To)⟩, ⟨some 55, ov (S (rI .i64) x_17)⟩, ⟨some 56, ov (PT r_api_Dest v_19)⟩, ⟨some 57, ov (PT r_api_Dot v_19.Dot)⟩, ⟨some 58, ov (A r_api_Dot v_19.Dot)⟩, ⟨some 59, ov (S rB v_20)⟩, ⟨some 60, ov (S rB v_21)⟩, ⟨some 61, ov (S rB v_21)⟩, ⟨some 62, .one .und⟩, ⟨some 63, .one .und⟩, ⟨some 64, .one .und⟩, ⟨some 65, .one .und⟩, ⟨some 66, .one .und⟩, ⟨some 67, .one .und⟩, ⟨some 68, .one .und⟩, ⟨some 69, .one .und⟩, ⟨some 70, ov (S rB true)⟩, ⟨some 71, ov (S rB true)⟩, ⟨some 72, .one .und⟩, ⟨some 73, .one .und⟩, ⟨some 74, .one .und⟩, ⟨some 75, .one .und⟩, ⟨some 76, .one .und⟩, ⟨some 77, .one .und⟩, ⟨some 78, .one .und⟩, ⟨some 79, .one .und⟩, ⟨some 80, .one .und⟩, ⟨some 81, .one .und⟩, ⟨some 82, .one .und⟩, ⟨some 83, .one .und⟩, ⟨some 84, .one .und⟩, ⟨some 85, .one .und⟩, ⟨some 86, .one .und⟩, ⟨some 87, .one .und⟩, ⟨some 88, .one .und⟩, ⟨some 89, .one .und⟩, ⟨some 90, .one .und⟩, ⟨some 91, ov (S rB true)⟩])
                   (rs := fun γ => [⟨cvar gb_2 r_api_Event t_1, none, none, [1]⟩])
                   (ds := [53, 54, 55, 56, 57, 58, 59, 60, 61, 62, 63, 64, 65, 66, 67, 68, 69, 70, 71, 72, 73, 74, 75, 76, 77, 78, 79, 80, 81, 82, 83, 84, 85, 86, 87, 88, 89, 90, 91]) (bs := [1, 3]) (afts := [[], [], [], [], [], [], [], [], [], [], [], [], [], [], [], [], [], [], [], [], [], [], [], [], [], [], [], [], [], [], [], [], [], [], [], [], [], [], []]) (js := [0]) mixed (.cons rfl (.cons rfl .nil)) (fun _ => rfl)
                   (by
      refine dS 1 (fun γ ρ B hb hd => op_fieldAddr (off := 20) lb tf38_4 (.tmp (hb 1 _ rfl))) ?_
      refine DSteps.cons (j := 2) rfl (fun _ => rfl) (.run (fun γ ρ B hb hd => ⟨.none, OpStep.at ⟨ρ, (cvar gb_2 r_api_Event t_1) :: B, _⟩ (setO ⟨ρ, (cvar gb_2 r_api_Event t_1) :: B, _⟩ _ _) (op_loadS (j := 0) lb tS36 (.tmp (hl hd 0 53 rfl)) rfl (Comp.trans (Comp.self r_api_Event t_1) (comp_api_Event_To t_1) (Nat.le_of_ble_eq_true rfl)) rfl rfl)⟩)) ?_
      refine dS 3 (fun γ ρ B hb hd => op_move lb (.tmp (hb 3 _ rfl))) ?_
      refine dS 4 (fun γ ρ B hb hd => op_indexAddrLg lb tu36 tz59 (.tmp (hl hd 1 54 rfl)) (.tmp (hl hd 2 55 rfl)) hv_v_19) ?_
      refine dS 5 (fun γ ρ B hb hd => op_fieldAddrP lb tf59_0 (.tmp (hl hd 3 56 rfl)) (comp_api_Dest_Dot v_19)) ?_
      refine dS 6 (fun γ ρ B hb hd => op_loadPAg lb tA24 (.tmp (hl hd 4 57 rfl)) rfl) ?_
      refine dS 7 (fun γ ρ B hb hd => (op_call (js := []) ld cl31 (sim_ref09_MayDot k v_19.Dot v_20 hv_v_20) .func (.cons (.tmp (hl hd 5 58 rfl)) .nil) rfl).post (fun _ => Imp.refl)) ?_
      refine dS 8 (fun γ ρ B hb hd => op_not lb (.tmp (hl hd 6 59 rfl)) hv_v_21) ?_
      refine dS 9 (fun γ ρ B hb hd => op_move lb (.tmp (hl hd 7 60 rfl))) ?_
      refine DSteps.cons (j := 10) rfl (fun _ => rfl) (.skip (fun γ ρ B hb hd => ⟨.no rfl (ltB rfl) (hl hd 8 61 rfl) hc18, rfl, rfl, rfl, fun d h => by cases h; exact ltB rfl⟩)) ?_
      refine DSteps.cons (j := 11) rfl (fun _ => rfl) (.skip (fun γ ρ B hb hd => ⟨.no rfl (ltB rfl) (hl hd 8 61 rfl) hc18, rfl, rfl, rfl, fun d h => by cases h; exact ltB rfl⟩)) ?_
      refine DSteps.cons (j := 12) rfl (fun _ => rfl) (.skip (fun γ ρ B hb hd => ⟨.no rfl (ltB rfl) (hl hd 8 61 rfl) hc18, rfl, rfl, rfl, fun d h => by cases h; exact ltB rfl⟩)) ?_
      refine DSteps.cons (j := 13) rfl (fun _ => rfl) (.skip (fun γ ρ B hb hd => ⟨.no rfl (ltB rfl) (hl hd 8 61 rfl) hc18, rfl, rfl, rfl, fun d h => by cases h; exact ltB rfl⟩)) ?_
      refine DSteps.cons (j := 14) rfl (fun _ => rfl) (.skip (fun γ ρ B hb hd => ⟨.no rfl (ltB rfl) (hl hd 8 61 rfl) hc18, rfl, rfl, rfl, fun d h => by cases h; exact ltB rfl⟩)) ?_
      refine DSteps.cons (j := 15) rfl (fun _ => rfl) (.skip (fun γ ρ B hb hd => ⟨.no rfl (ltB rfl) (hl hd 8 61 rfl) hc18, rfl, rfl, rfl, fun d h => by cases h; exact ltB rfl⟩)) ?_
      refine DSteps.cons (j := 16) rfl (fun _ => rfl) (.skip (fun γ ρ B hb hd => ⟨.no rfl (ltB rfl) (hl hd 8 61 rfl) hc18, rfl, rfl, rfl, fun d h => by cases h; exact ltB rfl⟩)) ?_
      refine DSteps.cons (j := 17) rfl (fun _ => rfl) (.skip (fun γ ρ B hb hd => ⟨.no rfl (ltB rfl) (hl hd 8 61 rfl) hc18, rfl, rfl, rfl, fun d h => by cases h; exact ltB rfl⟩)) ?_
      refine dS 18 (fun γ ρ B hb hd => op_pickT lb (.tmp (hl hd 8 61 rfl)) hc18 .cB) ?_
      refine dS 19 (fun γ ρ B hb hd => op_move lb (.tmp (hl hd 17 70 rfl))) ?_
      refine DSteps.cons (j := 20) rfl (fun _ => rfl) (.skip (fun γ ρ B hb hd => ⟨.no rfl (ltB rfl) (hl hd 18 71 rfl) rfl, rfl, rfl, rfl, fun d h => by cases h; exact ltB rfl⟩)) ?_
      refine DSteps.cons (j := 21) rfl (fun _ => rfl) (.skip (fun γ ρ B hb hd => ⟨.no rfl (ltB rfl) (hl hd 18 71 rfl) rfl, rfl, rfl, rfl, fun d h => by cases h; exact ltB rfl⟩)) ?_
      refine DSteps.cons (j := 22) rfl (fun _ => rfl) (.skip (fun γ ρ B hb hd => ⟨.no rfl (ltB rfl) (hl hd 18 71 rfl) rfl, rfl, rfl, rfl, fun d h => by cases h; exact ltB rfl⟩)) ?_
      refine DSteps.cons (j := 23) rfl (fun _ => rfl) (.skip (fun γ ρ B hb hd => ⟨.und rfl (ltB rfl) (hl hd 21 74 rfl), rfl, rfl, rfl, fun d h => by cases h; exact ltB rfl⟩)) ?_
      refine DSteps.cons (j := 24) rfl (fun _ => rfl) (.skip (fun γ ρ B hb hd => ⟨.und rfl (ltB rfl) (hl hd 21 74 rfl), rfl, rfl, rfl, fun d h => by cases h; exact ltB rfl⟩)) ?_
      refine DSteps.cons (j := 25) rfl (fun _ => rfl) (.skip (fun γ ρ B hb hd => ⟨.und rfl (ltB rfl) (hl hd 21 74 rfl), rfl, rfl, rfl, fun d h => by cases h; exact ltB rfl⟩)) ?_
      refine DSteps.cons (j := 26) rfl (fun _ => rfl) (.skip (fun γ ρ B hb hd => ⟨.und rfl (ltB rfl) (hl hd 21 74 rfl), rfl, rfl, rfl, fun d h => by cases h; exact ltB rfl⟩)) ?_
      refine DSteps.cons (j := 27) rfl (fun _ => rfl) (.skip (fun γ ρ B hb hd => ⟨.und rfl (ltB rfl) (hl hd 21 74 rfl), rfl, rfl, rfl, fun d h => by cases h; exact ltB rfl⟩)) ?_
      refine DSteps.cons (j := 28) rfl (fun _ => rfl) (.skip (fun γ ρ B hb hd => ⟨.und rfl (ltB rfl) (hl hd 21 74 rfl), rfl, rfl, rfl, fun d h => by cases h; exact ltB rfl⟩)) ?_
      refine DSteps.cons (j := 29) rfl (fun _ => rfl) (.skip (fun γ ρ B hb hd => ⟨.und rfl (ltB rfl) (hl hd 21 74 rfl), rfl, rfl, rfl, fun d h => by cases h; exact ltB rfl⟩)) ?_
      refine DSteps.cons (j := 30) rfl (fun _ => rfl) (.skip (fun γ ρ B hb hd => ⟨.und rfl (ltB rfl) (hl hd 21 74 rfl), rfl, rfl, rfl, fun d h => by cases h; exact ltB rfl⟩)) ?_
      refine DSteps.cons (j := 31) rfl (fun _ => rfl) (.skip (fun γ ρ B hb hd => ⟨.und rfl (ltB rfl) (hl hd 21 74 rfl), rfl, rfl, rfl, fun d h => by cases h; exact ltB rfl⟩)) ?_
      refine DSteps.cons (j := 32) rfl (fun _ => rfl) (.skip (fun γ ρ B hb hd => ⟨.und rfl (ltB rfl) (hl hd 21 74 rfl), rfl, rfl, rfl, fun d h => by cases h; exact ltB rfl⟩)) ?_
      refine DSteps.cons (j := 33) rfl (fun _ => rfl) (.skip (fun γ ρ B hb hd => ⟨.und rfl (ltB rfl) (hl hd 21 74 rfl), rfl, rfl, rfl, fun d h => by cases h; exact ltB rfl⟩)) ?_
      refine DSteps.cons (j := 34) rfl (fun _ => rfl) (.skip (fun γ ρ B hb hd => ⟨.und rfl (ltB rfl) (hl hd 21 74 rfl), rfl, rfl, rfl, fun d h => by cases h; exact ltB rfl⟩)) ?_
      refine DSteps.cons (j := 35) rfl (fun _ => rfl) (.skip (fun γ ρ B hb hd => ⟨.und rfl (ltB rfl) (hl hd 21 74 rfl), rfl, rfl, rfl, fun d h => by cases h; exact ltB rfl⟩)) ?_
      refine DSteps.cons (j := 36) rfl (fun _ => rfl) (.skip (fun γ ρ B hb hd => ⟨.und rfl (ltB rfl) (hl hd 21 74 rfl), rfl, rfl, rfl, fun d h => by cases h; exact ltB rfl⟩)) ?_
      refine DSteps.cons (j := 37) rfl (fun _ => rfl) (.skip (fun γ ρ B hb hd => ⟨.und rfl (ltB rfl) (hl hd 21 74 rfl), rfl, rfl, rfl, fun d h => by cases h; exact ltB rfl⟩)) ?_
      refine DSteps.cons (j := 38) rfl (fun _ => rfl) (.skip (fun γ ρ B hb hd => ⟨.no rfl (ltB rfl) (hl hd 18 71 rfl) rfl, rfl, rfl, rfl, fun d h => by cases h; exact ltB rfl⟩)) ?_
      refine dS 39 (fun γ ρ B hb hd => op_pickT lb (.tmp (hl hd 18 71 rfl)) rfl .cB) ?_
      exact DSteps.nil)
                   (by decide +kernel) (fun _ => rfl) rfl (fun _ => rfl) (fun _ => rfl) rfl (by decide) (by decide) (by decide +kernel) (fun _ d h => by cases h)
                   (ρ' := fun γ => [(1, ov (PTR gb_2 0)), (3, ov (S (rI .i64) x_17)), (91, ov (S rB true))])
                   (X' := fun γ => [cvar gb_2 r_api_Event t_1])
                   (fun γ ρ hb hd => (.cons (hb 1 _ rfl (by decide)) (.cons (hb 3 _ rfl (by decide)) (.cons (hdq hd 38 91 rfl) .nil)))) (fun _ => rfl) (fun γ => ?_)
               refine JQ.at ⟨[(1, ov (PTR gb_2 0)), (3, ov (S (rI .i64) x_17)), (91, ov (S rB true))], [cvar gb_2 r_api_Event t_1], []⟩ ?_
               replace hx16 := Option.some.inj hx16
               first | subst hx16 | clear hx16
               exact JQ.join () (Imp.norm (js := [0]) rfl (.cons rfl (.cons rfl (.cons rfl .nil))))
             · replace hx16 := bnd_inv hx16
               obtain ⟨v_22, hv_v_22, hx16⟩ := hx16
               replace hx16 := bnd_inv hx16
               obtain ⟨v_23, hv_v_23, hx16⟩ := hx16
               replace hx16 := lt1_inv hx16
               obtain ⟨v_24, hv_v_24, hx16⟩ := hx16
               replace hx16 := lt1_inv hx16
               obtain ⟨v_25, hv_v_25, hx16⟩ := hx16
               replace hx16 := iteB_inv hx16
               rcases hx16 with ⟨hc23, hx16⟩ | ⟨hc23, hx16⟩
               · refine JC.anyE (kl := []) (kk := 0) (base := [(1, ov (PTR gb_2 0)), (3, ov (S (rI .i64) x_17))])
                     (fs := fun γ => [⟨some 53, ov (PTR gb_2 (0 + 20))⟩, ⟨some 54, ov (S (rL r_api_Dest) t_1.To)⟩, ⟨some 55, ov (S (rI .i64) x_17)⟩, ⟨some 56, ov (PT r_api_Dest v_19)⟩, ⟨some 57, ov (PT r_api_Dot v_19.Dot)⟩, ⟨some 58, ov (A r_api_Dot v_19.Dot)⟩, ⟨some 59, ov (S rB v_20)⟩, ⟨some 60, ov (S rB v_21)⟩, ⟨some 61, ov (S rB v_21)⟩, ⟨some 62, ov (PTR gb_2 (0 + 20))⟩, ⟨some 63, ov (S (rL r_api_Dest) t_1.To)⟩, ⟨some 64, ov (S (rI .i64) x_17)⟩, ⟨some 65, ov (PT r_api_Dest v_22)⟩, ⟨some 66, ov (PT rS v_22.Device)⟩, ⟨some 67, ov (S rS v_22.Device)⟩, ⟨some 68, ov (S rB v_23)⟩, ⟨some 69, ov (S rB v_24)⟩, ⟨some 70, ov (S rB v_24)⟩, ⟨some 71, ov (S rB v_24)⟩, ⟨some 72, bif (!v_24) then ov (S (rI .i64) x_17) else .one .und⟩, ⟨some 73, bif (!v_24) then ov (S rB v_25) else .one .und⟩, ⟨some 74, bif (!v_24) then ov (S rB v_25) else .one .und⟩, ⟨some 75, .one .und⟩, ⟨some 76, .one .und⟩, ⟨some 77, .one .und⟩, ⟨some 78, .one .und⟩, ⟨some 79, .one .und⟩, ⟨some 80, .one .und⟩, ⟨some 81, .one .und⟩, ⟨some 82, .one .und⟩, ⟨some 83, .one .und⟩, ⟨some 84, .one .und⟩, ⟨some 85, .one .und⟩, ⟨some 86, .one .und⟩, ⟨some 87, .one .und⟩, ⟨some 88, .one .und⟩, ⟨some 89, .one .und⟩, ⟨some 90, .one .und⟩, ⟨some 91, ov (S rB true)⟩])
                     (rs := fun γ => [⟨cvar gb_2 r_api_Event t_1, none, none, [1, 10]⟩])
                     (ds := [53, 54, 55, 56, 57, 58, 59, 60, 61, 62, 63, 64, 65, 66, 67, 68, 69, 70, 71, 72, 73, 74, 75, 76, 77, 78, 79, 80, 81, 82, 83, 84, 85, 86, 87, 88, 89, 90, 91]) (bs := [1, 3]) (afts := [[], [], [], [], [], [], [], [], [], [], [], [], [], [], [], [], [], [], [], [], [], [], [], [], [], [], [], [], [], [], [], [], [], [], [], [], [], [], []]) (js := [0]) mixed (.cons rfl (.cons rfl .nil)) (fun _ => rfl)
                     (by
      refine dS 1 (fun γ ρ B hb hd => op_fieldAddr (off := 20) lb tf38_4 (.tmp (hb 1 _ rfl))) ?_
      refine DSteps.cons (j := 2) rfl (fun _ => rfl) (.run (fun γ ρ B hb hd => ⟨.none, OpStep.at ⟨ρ, (cvar gb_2 r_api_Event t_1) :: B, _⟩ (setO ⟨ρ, (cvar gb_2 r_api_Event t_1) :: B, _⟩ _ _) (op_loadS (j := 0) lb tS36 (.tmp (hl hd 0 53 rfl)) rfl (Comp.trans (Comp.self r_api_Event t_1) (comp_api_Event_To t_1) (Nat.le_of_ble_eq_true rfl)) rfl rfl)⟩)) ?_
      refine dS 3 (fun γ ρ B hb hd => op_move lb (.tmp (hb 3 _ rfl))) ?_
      refine dS 4 (fun γ ρ B hb hd => op_indexAddrLg lb tu36 tz59 (.tmp (hl hd 1 54 rfl)) (.tmp (hl hd 2 55 rfl)) hv_v_19) ?_
      refine dS 5 (fun γ ρ B hb hd => op_fieldAddrP lb tf59_0 (.tmp (hl hd 3 56 rfl)) (comp_api_Dest_Dot v_19)) ?_
      refine dS 6 (fun γ ρ B hb hd => op_loadPAg lb tA24 (.tmp (hl hd 4 57 rfl)) rfl) ?_
      refine dS 7 (fun γ ρ B hb hd => (op_call (js := []) ld cl31 (sim_ref09_MayDot k v_19.Dot v_20 hv_v_20) .func (.cons (.tmp (hl hd 5 58 rfl)) .nil) rfl).post (fun _ => Imp.refl)) ?_
      refine dS 8 (fun γ ρ B hb hd => op_not lb (.tmp (hl hd 6 59 rfl)) hv_v_21) ?_
      refine dS 9 (fun γ ρ B hb hd => op_move lb (.tmp (hl hd 7 60 rfl))) ?_
      refine DSteps.cons (j := 10) rfl (fun _ => rfl) (.run (fun γ ρ B hb hd => ⟨.yes rfl (ltB rfl) (hl hd 8 61 rfl) hc18, OpStep.at ⟨ρ, B, _⟩ (setO ⟨ρ, B, _⟩ _ _) (op_fieldAddr (off := 20) lb tf38_4 (.tmp (hb 1 _ rfl)))⟩)) ?_
      refine DSteps.cons (j := 11) rfl (fun _ => rfl) (.run (fun γ ρ B hb hd => ⟨.yes rfl (ltB rfl) (hl hd 8 61 rfl) hc18, OpStep.at ⟨ρ, (cvar gb_2 r_api_Event t_1) :: B, _⟩ (setO ⟨ρ, (cvar gb_2 r_api_Event t_1) :: B, _⟩ _ _) (op_loadS (j := 0) lb tS36 (.tmp (hl hd 9 62 rfl)) rfl (Comp.trans (Comp.self r_api_Event t_1) (comp_api_Event_To t_1) (Nat.le_of_ble_eq_true rfl)) rfl rfl)⟩)) ?_
      refine DSteps.cons (j := 12) rfl (fun _ => rfl) (.run (fun γ ρ B hb hd => ⟨.yes rfl (ltB rfl) (hl hd 8 61 rfl) hc18, OpStep.at ⟨ρ, B, _⟩ (setO ⟨ρ, B, _⟩ _ _) (op_move lb (.tmp (hb 3 _ rfl)))⟩)) ?_
      refine DSteps.cons (j := 13) rfl (fun _ => rfl) (.run (fun γ ρ B hb hd => ⟨.yes rfl (ltB rfl) (hl hd 8 61 rfl) hc18, OpStep.at ⟨ρ, B, _⟩ (setO ⟨ρ, B, _⟩ _ _) (op_indexAddrLg lb tu36 tz59 (.tmp (hl hd 10 63 rfl)) (.tmp (hl hd 11 64 rfl)) hv_v_22)⟩)) ?_
      refine DSteps.cons (j := 14) rfl (fun _ => rfl) (.run (fun γ ρ B hb hd => ⟨.yes rfl (ltB rfl) (hl hd 8 61 rfl) hc18, OpStep.at ⟨ρ, B, _⟩ (setO ⟨ρ, B, _⟩ _ _) (op_fieldAddrP lb tf59_1 (.tmp (hl hd 12 65 rfl)) (comp_api_Dest_Device v_22))⟩)) ?_
      refine DSteps.cons (j := 15) rfl (fun _ => rfl) (.run (fun γ ρ B hb hd => ⟨.yes rfl (ltB rfl) (hl hd 8 61 rfl) hc18, OpStep.at ⟨ρ, B, _⟩ (setO ⟨ρ, B, _⟩ _ _) (op_loadPSg lb tS9 rfl (.tmp (hl hd 13 66 rfl)) rfl)⟩)) ?_
      refine DSteps.cons (j := 16) rfl (fun _ => rfl) (.run (fun γ ρ B hb hd => ⟨.yes rfl (ltB rfl) (hl hd 8 61 rfl) hc18, OpStep.at ⟨ρ, B, _⟩ (setO ⟨ρ, B, _⟩ _ _) ((op_call (js := []) ld cl11 (sim_ref09_MayName k v_22.Device v_23 hv_v_23) .func (.cons (.tmp (hl hd 14 67 rfl)) .nil) rfl).post (fun _ => Imp.refl))⟩)) ?_
      refine DSteps.cons (j := 17) rfl (fun _ => rfl) (.run (fun γ ρ B hb hd => ⟨.yes rfl (ltB rfl) (hl hd 8 61 rfl) hc18, OpStep.at ⟨ρ, B, _⟩ (setO ⟨ρ, B, _⟩ _ _) (op_not lb (.tmp (hl hd 15 68 rfl)) hv_v_24)⟩)) ?_
      refine dS 18 (fun γ ρ B hb hd => op_pickF lb (.tmp (hl hd 8 61 rfl)) hc18 (.tmp (hl hd 16 69 rfl))) ?_
      refine dS 19 (fun γ ρ B hb hd => op_move lb (.tmp (hl hd 17 70 rfl))) ?_
      refine dC 20 (!v_24) (fun γ => ov (S (rI .i64) x_17)) (fun γ ρ B hb hd => ⟨(Guard.isF (ltB rfl) rfl (hl hd 18 71 rfl)), fun hq_19 => op_move lb (.tmp (hb 3 _ rfl))⟩) ?_
      refine dC 21 (!v_24) (fun γ => ov (S rB v_25)) (fun γ ρ B hb hd => ⟨(Guard.isF (ltB rfl) rfl (hl hd 18 71 rfl)), fun hq_20 => op_cmpI lb (HasO.cnd (.tmp (hl hd 19 72 rfl)) (notT (notF hq_20))) .cI (congrArg some hv_v_25)⟩) ?_
      refine dC 22 (!v_24) (fun γ => ov (S rB v_25)) (fun γ ρ B hb hd => ⟨(Guard.isF (ltB rfl) rfl (hl hd 18 71 rfl)), fun hq_21 => op_move lb (HasO.cnd (.tmp (hl hd 20 73 rfl)) (notT (notF hq_21)))⟩) ?_
      refine DSteps.cons (j := 23) rfl (fun _ => rfl) (.skip (fun γ ρ B hb hd => ⟨(Guard.eqB (Guard.cT (q := (!v_24)) (ltB rfl) rfl (hl hd 21 74 rfl)) (andFL (notF' hc23))), rfl, rfl, rfl, fun d h => by cases h; exact ltB rfl⟩)) ?_
      refine DSteps.cons (j := 24) rfl (fun _ => rfl) (.skip (fun γ ρ B hb hd => ⟨(Guard.eqB (Guard.cT (q := (!v_24)) (ltB rfl) rfl (hl hd 21 74 rfl)) (andFL (notF' hc23))), rfl, rfl, rfl, fun d h => by cases h; exact ltB rfl⟩)) ?_
      refine DSteps.cons (j := 25) rfl (fun _ => rfl) (.skip (fun γ ρ B hb hd => ⟨(Guard.eqB (Guard.cT (q := (!v_24)) (ltB rfl) rfl (hl hd 21 74 rfl)) (andFL (notF' hc23))), rfl, rfl, rfl, fun d h => by cases h; exact ltB rfl⟩)) ?_
      refine DSteps.cons (j := 26) rfl (fun _ => rfl) (.skip (fun γ ρ B hb hd => ⟨(Guard.eqB (Guard.cT (q := (!v_24)) (ltB rfl) rfl (hl hd 21 74 rfl)) (andFL (notF' hc23))), rfl, rfl, rfl, fun d h => by cases h; exact ltB rfl⟩)) ?_
      refine DSteps.cons (j := 27) rfl (fun _ => rfl) (.skip (fun γ ρ B hb hd => ⟨(Guard.eqB (Guard.cT (q := (!v_24)) (ltB rfl) rfl (hl hd 21 74 rfl)) (andFL (notF' hc23))), rfl, rfl, rfl, fun d h => by cases h; exact ltB rfl⟩)) ?_
      refine DSteps.cons (j := 28) rfl (fun _ => rfl) (.skip (fun γ ρ B hb hd => ⟨(Guard.eqB (Guard.cT (q := (!v_24)) (ltB rfl) rfl (hl hd 21 74 rfl)) (andFL (notF' hc23))), rfl, rfl, rfl, fun d h => by cases h; exact ltB rfl⟩)) ?_
      refine DSteps.cons (j := 29) rfl (fun _ => rfl) (.skip (fun γ ρ B hb hd => ⟨(Guard.eqB (Guard.cT (q := (!v_24)) (ltB rfl) rfl (hl hd 21 74 rfl)) (andFL (notF' hc23))), rfl, rfl, rfl, fun d h => by cases h; exact ltB rfl⟩)) ?_
      refine DSteps.cons (j := 30) rfl (fun _ => rfl) (.skip (fun γ ρ B hb hd => ⟨(Guard.eqB (Guard.cT (q := (!v_24)) (ltB rfl) rfl (hl hd 21 74 rfl)) (andFL (notF' hc23))), rfl, rfl, rfl, fun d h => by cases h; exact ltB rfl⟩)) ?_
      refine DSteps.cons (j := 31) rfl (fun _ => rfl) (.skip (fun γ ρ B hb hd => ⟨(Guard.eqB (Guard.cT (q := (!v_24)) (ltB rfl) rfl (hl hd 21 74 rfl)) (andFL (notF' hc23))), rfl, rfl, rfl, fun d h => by cases h; exact ltB rfl⟩)) ?_
      refine DSteps.cons (j := 32) rfl (fun _ => rfl) (.skip (fun γ ρ B hb hd => ⟨(Guard.eqB (Guard.cT (q := (!v_24)) (ltB rfl) rfl (hl hd 21 74 rfl)) (andFL (notF' hc23))), rfl, rfl, rfl, fun d h => by cases h; exact ltB rfl⟩)) ?_
      refine DSteps.cons (j := 33) rfl (fun _ => rfl) (.skip (fun γ ρ B hb hd => ⟨(Guard.eqB (Guard.cT (q := (!v_24)) (ltB rfl) rfl (hl hd 21 74 rfl)) (andFL (notF' hc23))), rfl, rfl, rfl, fun d h => by cases h; exact ltB rfl⟩)) ?_
      refine DSteps.cons (j := 34) rfl (fun _ => rfl) (.skip (fun γ ρ B hb hd => ⟨(Guard.eqB (Guard.cT (q := (!v_24)) (ltB rfl) rfl (hl hd 21 74 rfl)) (andFL (notF' hc23))), rfl, rfl, rfl, fun d h => by cases h; exact ltB rfl⟩)) ?_
      refine DSteps.cons (j := 35) rfl (fun _ => rfl) (.skip (fun γ ρ B hb hd => ⟨(Guard.eqB (Guard.cT (q := (!v_24)) (ltB rfl) rfl (hl hd 21 74 rfl)) (andFL (notF' hc23))), rfl, rfl, rfl, fun d h => by cases h; exact ltB rfl⟩)) ?_
      refine DSteps.cons (j := 36) rfl (fun _ => rfl) (.skip (fun γ ρ B hb hd => ⟨(Guard.eqB (Guard.cT (q := (!v_24)) (ltB rfl) rfl (hl hd 21 74 rfl)) (andFL (notF' hc23))), rfl, rfl, rfl, fun d h => by cases h; exact ltB rfl⟩)) ?_
      refine DSteps.cons (j := 37) rfl (fun _ => rfl) (.skip (fun γ ρ B hb hd => ⟨(Guard.eqB (Guard.cT (q := (!v_24)) (ltB rfl) rfl (hl hd 21 74 rfl)) (andFL (notF' hc23))), rfl, rfl, rfl, fun d h => by cases h; exact ltB rfl⟩)) ?_
      refine DSteps.cons (j := 38) rfl (fun _ => rfl) (.skip (fun γ ρ B hb hd => ⟨.no rfl (ltB rfl) (hl hd 18 71 rfl) hc23, rfl, rfl, rfl, fun d h => by cases h; exact ltB rfl⟩)) ?_
      refine dS 39 (fun γ ρ B hb hd => op_pickT lb (.tmp (hl hd 18 71 rfl)) hc23 .cB) ?_
      exact DSteps.nil)
                     (by decide +kernel) (fun _ => rfl) rfl (fun _ => rfl) (fun _ => rfl) rfl (by decide) (by decide) (by decide +kernel) (fun _ d h => by cases h)
                     (ρ' := fun γ => [(1, ov (PTR gb_2 0)), (3, ov (S (rI .i64) x_17)), (91, ov (S rB true))])
                     (X' := fun γ => [cvar gb_2 r_api_Event t_1])
                     (fun γ ρ hb hd => (.cons (hb 1 _ rfl (by decide)) (.cons (hb 3 _ rfl (by decide)) (.cons (hdq hd 38 91 rfl) .nil)))) (fun _ => rfl) (fun γ => ?_)
                 refine JQ.at ⟨[(1, ov (PTR gb_2 0)), (3, ov (S (rI .i64) x_17)), (91, ov (S rB true))], [cvar gb_2 r_api_Event t_1], []⟩ ?_
                 replace hx16 := Option.some.inj hx16
                 first | subst hx16 | clear hx16
                 exact JQ.join () (Imp.norm (js := [0]) rfl (.cons rfl (.cons rfl (.cons rfl .nil))))
               · replace hx16 := iteB_inv hx16
                 rcases hx16 with ⟨hc25, hx16⟩ | ⟨hc25, hx16⟩
                 · replace hx16 := lt1_inv hx16
                   obtain ⟨v_26, hv_v_26, hx16⟩ := hx16
                   replace hx16 := bnd_inv hx16
                   obtain ⟨v_27, hv_v_27, hx16⟩ := hx16
                   replace hx16 := bnd_inv hx16
                   obtain ⟨v_28, hv_v_28, hx16⟩ := hx16
                   replace hx16 := bnd_inv hx16
                   obtain ⟨v_29, hv_v_29, hx16⟩ := hx16
                   replace hx16 := lt1_inv hx16
                   obtain ⟨v_30, hv_v_30, hx16⟩ := hx16
                   refine JC.anyE (kl := []) (kk := 0) (base := [(1, ov (PTR gb_2 0)), (3, ov (S (rI .i64) x_17))])
                       (fs := fun γ => [⟨some 53, ov (PTR gb_2 (0 + 20))⟩, ⟨some 54, ov (S (rL r_api_Dest) t_1.To)⟩, ⟨some 55, ov (S (rI .i64) x_17)⟩, ⟨some 56, ov (PT r_api_Dest v_19)⟩, ⟨some 57, ov (PT r_api_Dot v_19.Dot)⟩, ⟨some 58, ov (A r_api_Dot v_19.Dot)⟩, ⟨some 59, ov (S rB v_20)⟩, ⟨some 60, ov (S rB v_21)⟩, ⟨some 61, ov (S rB v_21)⟩, ⟨some 62, ov (PTR gb_2 (0 + 20))⟩, ⟨some 63, ov (S (rL r_api_Dest) t_1.To)⟩, ⟨some 64, ov (S (rI .i64) x_17)⟩, ⟨some 65, ov (PT r_api_Dest v_22)⟩, ⟨some 66, ov (PT rS v_22.Device)⟩, ⟨some 67, ov (S rS v_22.Device)⟩, ⟨some 68, ov (S rB v_23)⟩, ⟨some 69, ov (S rB v_24)⟩, ⟨some 70, ov (S rB v_24)⟩, ⟨some 71, ov (S rB v_24)⟩, ⟨some 72, bif (!v_24) then ov (S (rI .i64) x_17) else .one .und⟩, ⟨some 73, bif (!v_24) then ov (S rB v_25) else .one .und⟩, ⟨some 74, bif (!v_24) then ov (S rB v_25) else .one .und⟩, ⟨some 75, ov (PTR gb_2 (0 + 20))⟩, ⟨some 76, ov (S (rL r_api_Dest) t_1.To)⟩, ⟨some 77, ov (S (rI .i64) x_17)⟩, ⟨some 78, ov (S (rI .i64) v_26)⟩, ⟨some 79, ov (PT r_api_Dest v_27)⟩, ⟨some 80, ov (PT r_api_Dot v_27.Dot)⟩, ⟨some 81, ov (A r_api_Dot v_27.Dot)⟩, ⟨some 82, ov (PTR gb_2 (0 + 20))⟩, ⟨some 83, ov (S (rL r_api_Dest) t_1.To)⟩, ⟨some 84, ov (S (rI .i64) x_17)⟩, ⟨some 85, ov (PT r_api_Dest v_28)⟩, ⟨some 86, ov (PT r_api_Dot v_28.Dot)⟩, ⟨some 87, ov (A r_api_Dot v_28.Dot)⟩, ⟨some 88, ov (S rB v_29)⟩, ⟨some 89, ov (S rB v_30)⟩, ⟨some 90, ov (S rB v_30)⟩, ⟨some 91, ov (S rB v_30)⟩])
                       (rs := fun γ => [⟨cvar gb_2 r_api_Event t_1, none, none, [1, 10, 23, 30]⟩])
                       (ds := [53, 54, 55, 56, 57, 58, 59, 60, 61, 62, 63, 64, 65, 66, 67, 68, 69, 70, 71, 72, 73, 74, 75, 76, 77, 78, 79, 80, 81, 82, 83, 84, 85, 86, 87, 88, 89, 90, 91]) (bs := [1, 3]) (afts := [[], [], [], [], [], [], [], [], [], [], [], [], [], [], [], [], [], [], [], [], [], [], [], [], [], [], [], [], [], [], [], [], [], [], [], [], [], [], []]) (js := [0]) mixed (.cons rfl (.cons rfl .nil)) (fun _ => rfl)
                       (by
      refine dS 1 (fun γ ρ B hb hd => op_fieldAddr (off := 20) lb tf38_4 (.tmp (hb 1 _ rfl))) ?_
      refine DSteps.cons (j := 2) rfl (fun _ => rfl) (.run (fun γ ρ B hb hd => ⟨.none, OpStep.at ⟨ρ, (cvar gb_2 r_api_Event t_1) :: B, _⟩ (setO ⟨ρ, (cvar gb_2 r_api_Event t_1) :: B, _⟩ _ _) (op_loadS (j := 0) lb tS36 (.tmp (hl hd 0 53 rfl)) rfl (Comp.trans (Comp.self r_api_Event t_1) (comp_api_Event_To t_1) (Nat.le_of_ble_eq_true rfl)) rfl rfl)⟩)) ?_
      refine dS 3 (fun γ ρ B hb hd => op_move lb (.tmp (hb 3 _ rfl))) ?_
      refine dS 4 (fun γ ρ B hb hd => op_indexAddrLg lb tu36 tz59 (.tmp (hl hd 1 54 rfl)) (.tmp (hl hd 2 55 rfl)) hv_v_19) ?_
      refine dS 5 (fun γ ρ B hb hd => op_fieldAddrP lb tf59_0 (.tmp (hl hd 3 56 rfl)) (comp_api_Dest_Dot v_19)) ?_
      refine dS 6 (fun γ ρ B hb hd => op_loadPAg lb tA24 (.tmp (hl hd 4 57 rfl)) rfl) ?_
      refine dS 7 (fun γ ρ B hb hd => (op_call (js := []) ld cl31 (sim_ref09_MayDot k v_19.Dot v_20 hv_v_20) .func (.cons (.tmp (hl hd 5 58 rfl)) .nil) rfl).post (fun _ => Imp.refl)) ?_
      refine dS 8 (fun γ ρ B hb hd => op_not lb (.tmp (hl hd 6 59 rfl)) hv_v_21) ?_
      refine dS 9 (fun γ ρ B hb hd => op_move lb (.tmp (hl hd 7 60 rfl))) ?_
      refine DSteps.cons (j := 10) rfl (fun _ => rfl) (.run (fun γ ρ B hb hd => ⟨.yes rfl (ltB rfl) (hl hd 8 61 rfl) hc18, OpStep.at ⟨ρ, B, _⟩ (setO ⟨ρ, B, _⟩ _ _) (op_fieldAddr (off := 20) lb tf38_4 (.tmp (hb 1 _ rfl)))⟩)) ?_
      refine DSteps.cons (j := 11) rfl (fun _ => rfl) (.run (fun γ ρ B hb hd => ⟨.yes rfl (ltB rfl) (hl hd 8 61 rfl) hc18, OpStep.at ⟨ρ, (cvar gb_2 r_api_Event t_1) :: B, _⟩ (setO ⟨ρ, (cvar gb_2 r_api_Event t_1) :: B, _⟩ _ _) (op_loadS (j := 0) lb tS36 (.tmp (hl hd 9 62 rfl)) rfl (Comp.trans (Comp.self r_api_Event t_1) (comp_api_Event_To t_1) (Nat.le_of_ble_eq_true rfl)) rfl rfl)⟩)) ?_
      refine DSteps.cons (j := 12) rfl (fun _ => rfl) (.run (fun γ ρ B hb hd => ⟨.yes rfl (ltB rfl) (hl hd 8 61 rfl) hc18, OpStep.at ⟨ρ, B, _⟩ (setO ⟨ρ, B, _⟩ _ _) (op_move lb (.tmp (hb 3 _ rfl)))⟩)) ?_
      refine DSteps.cons (j := 13) rfl (fun _ => rfl) (.run (fun γ ρ B hb hd => ⟨.yes rfl (ltB rfl) (hl hd 8 61 rfl) hc18, OpStep.at ⟨ρ, B, _⟩ (setO ⟨ρ, B, _⟩ _ _) (op_indexAddrLg lb tu36 tz59 (.tmp (hl hd 10 63 rfl)) (.tmp (hl hd 11 64 rfl)) hv_v_22)⟩)) ?_
      refine DSteps.cons (j := 14) rfl (fun _ => rfl) (.run (fun γ ρ B hb hd => ⟨.yes rfl (ltB rfl) (hl hd 8 61 rfl) hc18, OpStep.at ⟨ρ, B, _⟩ (setO ⟨ρ, B, _⟩ _ _) (op_fieldAddrP lb tf59_1 (.tmp (hl hd 12 65 rfl)) (comp_api_Dest_Device v_22))⟩)) ?_
      refine DSteps.cons (j := 15) rfl (fun _ => rfl) (.run (fun γ ρ B hb hd => ⟨.yes rfl (ltB rfl) (hl hd 8 61 rfl) hc18, OpStep.at ⟨ρ, B, _⟩ (setO ⟨ρ, B, _⟩ _ _) (op_loadPSg lb tS9 rfl (.tmp (hl hd 13 66 rfl)) rfl)⟩)) ?_
      refine DSteps.cons (j := 16) rfl (fun _ => rfl) (.run (fun γ ρ B hb hd => ⟨.yes rfl (ltB rfl) (hl hd 8 61 rfl) hc18, OpStep.at ⟨ρ, B, _⟩ (setO ⟨ρ, B, _⟩ _ _) ((op_call (js := []) ld cl11 (sim_ref09_MayName k v_22.Device v_23 hv_v_23) .func (.cons (.tmp (hl hd 14 67 rfl)) .nil) rfl).post (fun _ => Imp.refl))⟩)) ?_
      refine DSteps.cons (j := 17) rfl (fun _ => rfl) (.run (fun γ ρ B hb hd => ⟨.yes rfl (ltB rfl) (hl hd 8 61 rfl) hc18, OpStep.at ⟨ρ, B, _⟩ (setO ⟨ρ, B, _⟩ _ _) (op_not lb (.tmp (hl hd 15 68 rfl)) hv_v_24)⟩)) ?_
      refine dS 18 (fun γ ρ B hb hd => op_pickF lb (.tmp (hl hd 8 61 rfl)) hc18 (.tmp (hl hd 16 69 rfl))) ?_
      refine dS 19 (fun γ ρ B hb hd => op_move lb (.tmp (hl hd 17 70 rfl))) ?_
      refine dC 20 (!v_24) (fun γ => ov (S (rI .i64) x_17)) (fun γ ρ B hb hd => ⟨(Guard.isF (ltB rfl) rfl (hl hd 18 71 rfl)), fun hq_19 => op_move lb (.tmp (hb 3 _ rfl))⟩) ?_
      refine dC 21 (!v_24) (fun γ => ov (S rB v_25)) (fun γ ρ B hb hd => ⟨(Guard.isF (ltB rfl) rfl (hl hd 18 71 rfl)), fun hq_20 => op_cmpI lb (HasO.cnd (.tmp (hl hd 19 72 rfl)) (notT (notF hq_20))) .cI (congrArg some hv_v_25)⟩) ?_
      refine dC 22 (!v_24) (fun γ => ov (S rB v_25)) (fun γ ρ B hb hd => ⟨(Guard.isF (ltB rfl) rfl (hl hd 18 71 rfl)), fun hq_21 => op_move lb (HasO.cnd (.tmp (hl hd 20 73 rfl)) (notT (notF hq_21)))⟩) ?_
      refine DSteps.cons (j := 23) rfl (fun _ => rfl) (.run (fun γ ρ B hb hd => ⟨(Guard.eqB (Guard.cT (q := (!v_24)) (ltB rfl) rfl (hl hd 21 74 rfl)) (andI (notT hc23) hc25)), OpStep.at ⟨ρ, B, _⟩ (setO ⟨ρ, B, _⟩ _ _) (op_fieldAddr (off := 20) lb tf38_4 (.tmp (hb 1 _ rfl)))⟩)) ?_
      refine DSteps.cons (j := 24) rfl (fun _ => rfl) (.run (fun γ ρ B hb hd => ⟨(Guard.eqB (Guard.cT (q := (!v_24)) (ltB rfl) rfl (hl hd 21 74 rfl)) (andI (notT hc23) hc25)), OpStep.at ⟨ρ, (cvar gb_2 r_api_Event t_1) :: B, _⟩ (setO ⟨ρ, (cvar gb_2 r_api_Event t_1) :: B, _⟩ _ _) (op_loadS (j := 0) lb tS36 (.tmp (hl hd 22 75 rfl)) rfl (Comp.trans (Comp.self r_api_Event t_1) (comp_api_Event_To t_1) (Nat.le_of_ble_eq_true rfl)) rfl rfl)⟩)) ?_
      refine DSteps.cons (j := 25) rfl (fun _ => rfl) (.run (fun γ ρ B hb hd => ⟨(Guard.eqB (Guard.cT (q := (!v_24)) (ltB rfl) rfl (hl hd 21 74 rfl)) (andI (notT hc23) hc25)), OpStep.at ⟨ρ, B, _⟩ (setO ⟨ρ, B, _⟩ _ _) (op_move lb (.tmp (hb 3 _ rfl)))⟩)) ?_
      refine DSteps.cons (j := 26) rfl (fun _ => rfl) (.run (fun γ ρ B hb hd => ⟨(Guard.eqB (Guard.cT (q := (!v_24)) (ltB rfl) rfl (hl hd 21 74 rfl)) (andI (notT hc23) hc25)), OpStep.at ⟨ρ, B, _⟩ (setO ⟨ρ, B, _⟩ _ _) (op_arI lb (.tmp (hl hd 24 77 rfl)) .cI (congrArg some hv_v_26))⟩)) ?_
      refine DSteps.cons (j := 27) rfl (fun _ => rfl) (.run (fun γ ρ B hb hd => ⟨(Guard.eqB (Guard.cT (q := (!v_24)) (ltB rfl) rfl (hl hd 21 74 rfl)) (andI (notT hc23) hc25)), OpStep.at ⟨ρ, B, _⟩ (setO ⟨ρ, B, _⟩ _ _) (op_indexAddrLg lb tu36 tz59 (.tmp (hl hd 23 76 rfl)) (.tmp (hl hd 25 78 rfl)) hv_v_27)⟩)) ?_
      refine DSteps.cons (j := 28) rfl (fun _ => rfl) (.run (fun γ ρ B hb hd => ⟨(Guard.eqB (Guard.cT (q := (!v_24)) (ltB rfl) rfl (hl hd 21 74 rfl)) (andI (notT hc23) hc25)), OpStep.at ⟨ρ, B, _⟩ (setO ⟨ρ, B, _⟩ _ _) (op_fieldAddrP lb tf59_0 (.tmp (hl hd 26 79 rfl)) (comp_api_Dest_Dot v_27))⟩)) ?_
      refine DSteps.cons (j := 29) rfl (fun _ => rfl) (.run (fun γ ρ B hb hd => ⟨(Guard.eqB (Guard.cT (q := (!v_24)) (ltB rfl) rfl (hl hd 21 74 rfl)) (andI (notT hc23) hc25)), OpStep.at ⟨ρ, B, _⟩ (setO ⟨ρ, B, _⟩ _ _) (op_loadPAg lb tA24 (.tmp (hl hd 27 80 rfl)) rfl)⟩)) ?_
      refine DSteps.cons (j := 30) rfl (fun _ => rfl) (.run (fun γ ρ B hb hd => ⟨(Guard.eqB (Guard.cT (q := (!v_24)) (ltB rfl) rfl (hl hd 21 74 rfl)) (andI (notT hc23) hc25)), OpStep.at ⟨ρ, B, _⟩ (setO ⟨ρ, B, _⟩ _ _) (op_fieldAddr (off := 20) lb tf38_4 (.tmp (hb 1 _ rfl)))⟩)) ?_
      refine DSteps.cons (j := 31) rfl (fun _ => rfl) (.run (fun γ ρ B hb hd => ⟨(Guard.eqB (Guard.cT (q := (!v_24)) (ltB rfl) rfl (hl hd 21 74 rfl)) (andI (notT hc23) hc25)), OpStep.at ⟨ρ, (cvar gb_2 r_api_Event t_1) :: B, _⟩ (setO ⟨ρ, (cvar gb_2 r_api_Event t_1) :: B, _⟩ _ _) (op_loadS (j := 0) lb tS36 (.tmp (hl hd 29 82 rfl)) rfl (Comp.trans (Comp.self r_api_Event t_1) (comp_api_Event_To t_1) (Nat.le_of_ble_eq_true rfl)) rfl rfl)⟩)) ?_
      refine DSteps.cons (j := 32) rfl (fun _ => rfl) (.run (fun γ ρ B hb hd => ⟨(Guard.eqB (Guard.cT (q := (!v_24)) (ltB rfl) rfl (hl hd 21 74 rfl)) (andI (notT hc23) hc25)), OpStep.at ⟨ρ, B, _⟩ (setO ⟨ρ, B, _⟩ _ _) (op_move lb (.tmp (hb 3 _ rfl)))⟩)) ?_
      refine DSteps.cons (j := 33) rfl (fun _ => rfl) (.run (fun γ ρ B hb hd => ⟨(Guard.eqB (Guard.cT (q := (!v_24)) (ltB rfl) rfl (hl hd 21 74 rfl)) (andI (notT hc23) hc25)), OpStep.at ⟨ρ, B, _⟩ (setO ⟨ρ, B, _⟩ _ _) (op_indexAddrLg lb tu36 tz59 (.tmp (hl hd 30 83 rfl)) (.tmp (hl hd 31 84 rfl)) hv_v_28)⟩)) ?_
      refine DSteps.cons (j := 34) rfl (fun _ => rfl) (.run (fun γ ρ B hb hd => ⟨(Guard.eqB (Guard.cT (q := (!v_24)) (ltB rfl) rfl (hl hd 21 74 rfl)) (andI (notT hc23) hc25)), OpStep.at ⟨ρ, B, _⟩ (setO ⟨ρ, B, _⟩ _ _) (op_fieldAddrP lb tf59_0 (.tmp (hl hd 32 85 rfl)) (comp_api_Dest_Dot v_28))⟩)) ?_
      refine DSteps.cons (j := 35) rfl (fun _ => rfl) (.run (fun γ ρ B hb hd => ⟨(Guard.eqB (Guard.cT (q := (!v_24)) (ltB rfl) rfl (hl hd 21 74 rfl)) (andI (notT hc23) hc25)), OpStep.at ⟨ρ, B, _⟩ (setO ⟨ρ, B, _⟩ _ _) (op_loadPAg lb tA24 (.tmp (hl hd 33 86 rfl)) rfl)⟩)) ?_
      refine DSteps.cons (j := 36) rfl (fun _ => rfl) (.run (fun γ ρ B hb hd => ⟨(Guard.eqB (Guard.cT (q := (!v_24)) (ltB rfl) rfl (hl hd 21 74 rfl)) (andI (notT hc23) hc25)), OpStep.at ⟨ρ, B, _⟩ (setO ⟨ρ, B, _⟩ _ _) ((op_call (js := []) ld cl32 (sim_ref09_Less k v_27.Dot v_28.Dot v_29 hv_v_29) .func (.cons (.tmp (hl hd 28 81 rfl)) (.cons (.tmp (hl hd 34 87 rfl)) .nil)) rfl).post (fun _ => Imp.refl))⟩)) ?_
      refine DSteps.cons (j := 37) rfl (fun _ => rfl) (.run (fun γ ρ B hb hd => ⟨(Guard.eqB (Guard.cT (q := (!v_24)) (ltB rfl) rfl (hl hd 21 74 rfl)) (andI (notT hc23) hc25)), OpStep.at ⟨ρ, B, _⟩ (setO ⟨ρ, B, _⟩ _ _) (op_not lb (.tmp (hl hd 35 88 rfl)) hv_v_30)⟩)) ?_
      refine DSteps.cons (j := 38) rfl (fun _ => rfl) (.run (fun γ ρ B hb hd => ⟨.yes rfl (ltB rfl) (hl hd 18 71 rfl) hc23, OpStep.at ⟨ρ, B, _⟩ (setO ⟨ρ, B, _⟩ _ _) (op_pickT lb (HasO.cnd (.tmp (hl hd 21 74 rfl)) (notT hc23)) hc25 (.tmp (hl hd 36 89 rfl)))⟩)) ?_
      refine dS 39 (fun γ ρ B hb hd => op_pickF lb (.tmp (hl hd 18 71 rfl)) hc23 (.tmp (hl hd 37 90 rfl))) ?_
      exact DSteps.nil)
                       (by decide +kernel) (fun _ => rfl) rfl (fun _ => rfl) (fun _ => rfl) rfl (by decide) (by decide) (by decide +kernel) (fun _ d h => by cases h)
                       (ρ' := fun γ => [(1, ov (PTR gb_2 0)), (3, ov (S (rI .i64) x_17)), (91, ov (S rB v_30))])
                       (X' := fun γ => [cvar gb_2 r_api_Event t_1])
                       (fun γ ρ hb hd => (.cons (hb 1 _ rfl (by decide)) (.cons (hb 3 _ rfl (by decide)) (.cons (hdq hd 38 91 rfl) .nil)))) (fun _ => rfl) (fun γ => ?_)
                   refine JQ.at ⟨[(1, ov (PTR gb_2 0)), (3, ov (S (rI .i64) x_17)), (91, ov (S rB v_30))], [cvar gb_2 r_api_Event t_1], []⟩ ?_
                   replace hx16 := Option.some.inj hx16
                   first | subst hx16 | clear hx16
                   exact JQ.join () (Imp.norm (js := [0]) rfl (.cons rfl (.cons rfl (.cons rfl .nil))))
                 · refine JC.anyE (kl := []) (kk := 0) (base := [(1, ov (PTR gb_2 0)), (3, ov (S (rI .i64) x_17))])
                       (fs := fun γ => [⟨some 53, ov (PTR gb_2 (0 + 20))⟩, ⟨some 54, ov (S (rL r_api_Dest) t_1.To)⟩, ⟨some 55, ov (S (rI .i64) x_17)⟩, ⟨some 56, ov (PT r_api_Dest v_19)⟩, ⟨some 57, ov (PT r_api_Dot v_19.Dot)⟩, ⟨some 58, ov (A r_api_Dot v_19.Dot)⟩, ⟨some 59, ov (S rB v_20)⟩, ⟨some 60, ov (S rB v_21)⟩, ⟨some 61, ov (S rB v_21)⟩, ⟨some 62, ov (PTR gb_2 (0 + 20))⟩, ⟨some 63, ov (S (rL r_api_Dest) t_1.To)⟩, ⟨some 64, ov (S (rI .i64) x_17)⟩, ⟨some 65, ov (PT r_api_Dest v_22)⟩, ⟨some 66, ov (PT rS v_22.Device)⟩, ⟨some 67, ov (S rS v_22.Device)⟩, ⟨some 68, ov (S rB v_23)⟩, ⟨some 69, ov (S rB v_24)⟩, ⟨some 70, ov (S rB v_24)⟩, ⟨some 71, ov (S rB v_24)⟩, ⟨some 72, bif (!v_24) then ov (S (rI .i64) x_17) else .one .und⟩, ⟨some 73, bif (!v_24) then ov (S rB v_25) else .one .und⟩, ⟨some 74, bif (!v_24) then ov (S rB v_25) else .one .und⟩, ⟨some 75, .one .und⟩, ⟨some 76, .one .und⟩, ⟨some 77, .one .und⟩, ⟨some 78, .one .und⟩, ⟨some 79, .one .und⟩, ⟨some 80, .one .und⟩, ⟨some 81, .one .und⟩, ⟨some 82, .one .und⟩, ⟨some 83, .one .und⟩, ⟨some 84, .one .und⟩, ⟨some 85, .one .und⟩, ⟨some 86, .one .und⟩, ⟨some 87, .one .und⟩, ⟨some 88, .one .und⟩, ⟨some 89, .one .und⟩, ⟨some 90, ov (S rB false)⟩, ⟨some 91, ov (S rB false)⟩])
                       (rs := fun γ => [⟨cvar gb_2 r_api_Event t_1, none, none, [1, 10]⟩])
                       (ds := [53, 54, 55, 56, 57, 58, 59, 60, 61, 62, 63, 64, 65, 66, 67, 68, 69, 70, 71, 72, 73, 74, 75, 76, 77, 78, 79, 80, 81, 82, 83, 84, 85, 86, 87, 88, 89, 90, 91]) (bs := [1, 3]) (afts := [[], [], [], [], [], [], [], [], [], [], [], [], [], [], [], [], [], [], [], [], [], [], [], [], [], [], [], [], [], [], [], [], [], [], [], [], [], [], []]) (js := [0]) mixed (.cons rfl (.cons rfl .nil)) (fun _ => rfl)
                       (by
      refine dS 1 (fun γ ρ B hb hd => op_fieldAddr (off := 20) lb tf38_4 (.tmp (hb 1 _ rfl))) ?_
      refine DSteps.cons (j := 2) rfl (fun _ => rfl) (.run (fun γ ρ B hb hd => ⟨.none, OpStep.at ⟨ρ, (cvar gb_2 r_api_Event t_1) :: B, _⟩ (setO ⟨ρ, (cvar gb_2 r_api_Event t_1) :: B, _⟩ _ _) (op_loadS (j := 0) lb tS36 (.tmp (hl hd 0 53 rfl)) rfl (Comp.trans (Comp.self r_api_Event t_1) (comp_api_Event_To t_1) (Nat.le_of_ble_eq_true rfl)) rfl rfl)⟩)) ?_
      refine dS 3 (fun γ ρ B hb hd => op_move lb (.tmp (hb 3 _ rfl))) ?_
      refine dS 4 (fun γ ρ B hb hd => op_indexAddrLg lb tu36 tz59 (.tmp (hl hd 1 54 rfl)) (.tmp (hl hd 2 55 rfl)) hv_v_19) ?_
      refine dS 5 (fun γ ρ B hb hd => op_fieldAddrP lb tf59_0 (.tmp (hl hd 3 56 rfl)) (comp_api_Dest_Dot v_19)) ?_
      refine dS 6 (fun γ ρ B hb hd => op_loadPAg lb tA24 (.tmp (hl hd 4 57 rfl)) rfl) ?_
      refine dS 7 (fun γ ρ B hb hd => (op_call (js := []) ld cl31 (sim_ref09_MayDot k v_19.Dot v_20 hv_v_20) .func (.cons (.tmp (hl hd 5 58 rfl)) .nil) rfl).post (fun _ => Imp.refl)) ?_
      refine dS 8 (fun γ ρ B hb hd => op_not lb (.tmp (hl hd 6 59 rfl)) hv_v_21) ?_
      refine dS 9 (fun γ ρ B hb hd => op_move lb (.tmp (hl hd 7 60 rfl))) ?_
      refine DSteps.cons (j := 10) rfl (fun _ => rfl) (.run (fun γ ρ B hb hd => ⟨.yes rfl (ltB rfl) (hl hd 8 61 rfl) hc18, OpStep.at ⟨ρ, B, _⟩ (setO ⟨ρ, B, _⟩ _ _) (op_fieldAddr (off := 20) lb tf38_4 (.tmp (hb 1 _ rfl)))⟩)) ?_
      refine DSteps.cons (j := 11) rfl (fun _ => rfl) (.run (fun γ ρ B hb hd => ⟨.yes rfl (ltB rfl) (hl hd 8 61 rfl) hc18, OpStep.at ⟨ρ, (cvar gb_2 r_api_Event t_1) :: B, _⟩ (setO ⟨ρ, (cvar gb_2 r_api_Event t_1) :: B, _⟩ _ _) (op_loadS (j := 0) lb tS36 (.tmp (hl hd 9 62 rfl)) rfl (Comp.trans (Comp.self r_api_Event t_1) (comp_api_Event_To t_1) (Nat.le_of_ble_eq_true rfl)) rfl rfl)⟩)) ?_
      refine DSteps.cons (j := 12) rfl (fun _ => rfl) (.run (fun γ ρ B hb hd => ⟨.yes rfl (ltB rfl) (hl hd 8 61 rfl) hc18, OpStep.at ⟨ρ, B, _⟩ (setO ⟨ρ, B, _⟩ _ _) (op_move lb (.tmp (hb 3 _ rfl)))⟩)) ?_
      refine DSteps.cons (j := 13) rfl (fun _ => rfl) (.run (fun γ ρ B hb hd => ⟨.yes rfl (ltB rfl) (hl hd 8 61 rfl) hc18, OpStep.at ⟨ρ, B, _⟩ (setO ⟨ρ, B, _⟩ _ _) (op_indexAddrLg lb tu36 tz59 (.tmp (hl hd 10 63 rfl)) (.tmp (hl hd 11 64 rfl)) hv_v_22)⟩)) ?_
      refine DSteps.cons (j := 14) rfl (fun _ => rfl) (.run (fun γ ρ B hb hd => ⟨.yes rfl (ltB rfl) (hl hd 8 61 rfl) hc18, OpStep.at ⟨ρ, B, _⟩ (setO ⟨ρ, B, _⟩ _ _) (op_fieldAddrP lb tf59_1 (.tmp (hl hd 12 65 rfl)) (comp_api_Dest_Device v_22))⟩)) ?_
      refine DSteps.cons (j := 15) rfl (fun _ => rfl) (.run (fun γ ρ B hb hd => ⟨.yes rfl (ltB rfl) (hl hd 8 61 rfl) hc18, OpStep.at ⟨ρ, B, _⟩ (setO ⟨ρ, B, _⟩ _ _) (op_loadPSg lb tS9 rfl (.tmp (hl hd 13 66 rfl)) rfl)⟩)) ?_
      refine DSteps.cons (j := 16) rfl (fun _ => rfl) (.run (fun γ ρ B hb hd => ⟨.yes rfl (ltB rfl) (hl hd 8 61 rfl) hc18, OpStep.at ⟨ρ, B, _⟩ (setO ⟨ρ, B, _⟩ _ _) ((op_call (js := []) ld cl11 (sim_ref09_MayName k v_22.Device v_23 hv_v_23) .func (.cons (.tmp (hl hd 14 67 rfl)) .nil) rfl).post (fun _ => Imp.refl))⟩)) ?_
      refine DSteps.cons (j := 17) rfl (fun _ => rfl) (.run (fun γ ρ B hb hd => ⟨.yes rfl (ltB rfl) (hl hd 8 61 rfl) hc18, OpStep.at ⟨ρ, B, _⟩ (setO ⟨ρ, B, _⟩ _ _) (op_not lb (.tmp (hl hd 15 68 rfl)) hv_v_24)⟩)) ?_
      refine dS 18 (fun γ ρ B hb hd => op_pickF lb (.tmp (hl hd 8 61 rfl)) hc18 (.tmp (hl hd 16 69 rfl))) ?_
      refine dS 19 (fun γ ρ B hb hd => op_move lb (.tmp (hl hd 17 70 rfl))) ?_
      refine dC 20 (!v_24) (fun γ => ov (S (rI .i64) x_17)) (fun γ ρ B hb hd => ⟨(Guard.isF (ltB rfl) rfl (hl hd 18 71 rfl)), fun hq_19 => op_move lb (.tmp (hb 3 _ rfl))⟩) ?_
      refine dC 21 (!v_24) (fun γ => ov (S rB v_25)) (fun γ ρ B hb hd => ⟨(Guard.isF (ltB rfl) rfl (hl hd 18 71 rfl)), fun hq_20 => op_cmpI lb (HasO.cnd (.tmp (hl hd 19 72 rfl)) (notT (notF hq_20))) .cI (congrArg some hv_v_25)⟩) ?_
      refine dC 22 (!v_24) (fun γ => ov (S rB v_25)) (fun γ ρ B hb hd => ⟨(Guard.isF (ltB rfl) rfl (hl hd 18 71 rfl)), fun hq_21 => op_move lb (HasO.cnd (.tmp (hl hd 20 73 rfl)) (notT (notF hq_21)))⟩) ?_
      refine DSteps.cons (j := 23) rfl (fun _ => rfl) (.skip (fun γ ρ B hb hd => ⟨(Guard.eqB (Guard.cT (q := (!v_24)) (ltB rfl) rfl (hl hd 21 74 rfl)) (andFR hc25)), rfl, rfl, rfl, fun d h => by cases h; exact ltB rfl⟩)) ?_
      refine DSteps.cons (j := 24) rfl (fun _ => rfl) (.skip (fun γ ρ B hb hd => ⟨(Guard.eqB (Guard.cT (q := (!v_24)) (ltB rfl) rfl (hl hd 21 74 rfl)) (andFR hc25)), rfl, rfl, rfl, fun d h => by cases h; exact ltB rfl⟩)) ?_
      refine DSteps.cons (j := 25) rfl (fun _ => rfl) (.skip (fun γ ρ B hb hd => ⟨(Guard.eqB (Guard.cT (q := (!v_24)) (ltB rfl) rfl (hl hd 21 74 rfl)) (andFR hc25)), rfl, rfl, rfl, fun d h => by cases h; exact ltB rfl⟩)) ?_
      refine DSteps.cons (j := 26) rfl (fun _ => rfl) (.skip (fun γ ρ B hb hd => ⟨(Guard.eqB (Guard.cT (q := (!v_24)) (ltB rfl) rfl (hl hd 21 74 rfl)) (andFR hc25)), rfl, rfl, rfl, fun d h => by cases h; exact ltB rfl⟩)) ?_
      refine DSteps.cons (j := 27) rfl (fun _ => rfl) (.skip (fun γ ρ B hb hd => ⟨(Guard.eqB (Guard.cT (q := (!v_24)) (ltB rfl) rfl (hl hd 21 74 rfl)) (andFR hc25)), rfl, rfl, rfl, fun d h => by cases h; exact ltB rfl⟩)) ?_
      refine DSteps.cons (j := 28) rfl (fun _ => rfl) (.skip (fun γ ρ B hb hd => ⟨(Guard.eqB (Guard.cT (q := (!v_24)) (ltB rfl) rfl (hl hd 21 74 rfl)) (andFR hc25)), rfl, rfl, rfl, fun d h => by cases h; exact ltB rfl⟩)) ?_
      refine DSteps.cons (j := 29) rfl (fun _ => rfl) (.skip (fun γ ρ B hb hd => ⟨(Guard.eqB (Guard.cT (q := (!v_24)) (ltB rfl) rfl (hl hd 21 74 rfl)) (andFR hc25)), rfl, rfl, rfl, fun d h => by cases h; exact ltB rfl⟩)) ?_
      refine DSteps.cons (j := 30) rfl (fun _ => rfl) (.skip (fun γ ρ B hb hd => ⟨(Guard.eqB (Guard.cT (q := (!v_24)) (ltB rfl) rfl (hl hd 21 74 rfl)) (andFR hc25)), rfl, rfl, rfl, fun d h => by cases h; exact ltB rfl⟩)) ?_
      refine DSteps.cons (j := 31) rfl (fun _ => rfl) (.skip (fun γ ρ B hb hd => ⟨(Guard.eqB (Guard.cT (q := (!v_24)) (ltB rfl) rfl (hl hd 21 74 rfl)) (andFR hc25)), rfl, rfl, rfl, fun d h => by cases h; exact ltB rfl⟩)) ?_
      refine DSteps.cons (j := 32) rfl (fun _ => rfl) (.skip (fun γ ρ B hb hd => ⟨(Guard.eqB (Guard.cT (q := (!v_24)) (ltB rfl) rfl (hl hd 21 74 rfl)) (andFR hc25)), rfl, rfl, rfl, fun d h => by cases h; exact ltB rfl⟩)) ?_
      refine DSteps.cons (j := 33) rfl (fun _ => rfl) (.skip (fun γ ρ B hb hd => ⟨(Guard.eqB (Guard.cT (q := (!v_24)) (ltB rfl) rfl (hl hd 21 74 rfl)) (andFR hc25)), rfl, rfl, rfl, fun d h => by cases h; exact ltB rfl⟩)) ?_
      refine DSteps.cons (j := 34) rfl (fun _ => rfl) (.skip (fun γ ρ B hb hd => ⟨(Guard.eqB (Guard.cT (q := (!v_24)) (ltB rfl) rfl (hl hd 21 74 rfl)) (andFR hc25)), rfl, rfl, rfl, fun d h => by cases h; exact ltB rfl⟩)) ?_
      refine DSteps.cons (j := 35) rfl (fun _ => rfl) (.skip (fun γ ρ B hb hd => ⟨(Guard.eqB (Guard.cT (q := (!v_24)) (ltB rfl) rfl (hl hd 21 74 rfl)) (andFR hc25)), rfl, rfl, rfl, fun d h => by cases h; exact ltB rfl⟩)) ?_
      refine DSteps.cons (j := 36) rfl (fun _ => rfl) (.skip (fun γ ρ B hb hd => ⟨(Guard.eqB (Guard.cT (q := (!v_24)) (ltB rfl) rfl (hl hd 21 74 rfl)) (andFR hc25)), rfl, rfl, rfl, fun d h => by cases h; exact ltB rfl⟩)) ?_
      refine DSteps.cons (j := 37) rfl (fun _ => rfl) (.skip (fun γ ρ B hb hd => ⟨(Guard.eqB (Guard.cT (q := (!v_24)) (ltB rfl) rfl (hl hd 21 74 rfl)) (andFR hc25)), rfl, rfl, rfl, fun d h => by cases h; exact ltB rfl⟩)) ?_
      refine DSteps.cons (j := 38) rfl (fun _ => rfl) (.run (fun γ ρ B hb hd => ⟨.yes rfl (ltB rfl) (hl hd 18 71 rfl) hc23, OpStep.at ⟨ρ, B, _⟩ (setO ⟨ρ, B, _⟩ _ _) (op_pickF lb (HasO.cnd (.tmp (hl hd 21 74 rfl)) (notT hc23)) hc25 .cB)⟩)) ?_
      refine dS 39 (fun γ ρ B hb hd => op_pickF lb (.tmp (hl hd 18 71 rfl)) hc23 (.tmp (hl hd 37 90 rfl))) ?_
      exact DSteps.nil)
                       (by decide +kernel) (fun _ => rfl) rfl (fun _ => rfl) (fun _ => rfl) rfl (by decide) (by decide) (by decide +kernel) (fun _ d h => by cases h)
                       (ρ' := fun γ => [(1, ov (PTR gb_2 0)), (3, ov (S (rI .i64) x_17)), (91, ov (S rB false))])
                       (X' := fun γ => [cvar gb_2 r_api_Event t_1])
                       (fun γ ρ hb hd => (.cons (hb 1 _ rfl (by decide)) (.cons (hb 3 _ rfl (by decide)) (.cons (hdq hd 38 91 rfl) .nil)))) (fun _ => rfl) (fun γ => ?_)
                   refine JQ.at ⟨[(1, ov (PTR gb_2 0)), (3, ov (S (rI .i64) x_17)), (91, ov (S rB false))], [cvar gb_2 r_api_Event t_1], []⟩ ?_
                   replace hx16 := Option.some.inj hx16
                   first | subst hx16 | clear hx16
                   exact JQ.join () (Imp.norm (js := [0]) rfl (.cons rfl (.cons rfl (.cons rfl .nil))))
         · refine JC.condF (.tmp rfl) hc15 ?_
           refine JC.exit ?_
           refine JQ.outX ?_
           replace hx := Option.some.inj hx
           first | subst hx | clear hx
           have ht := hr _ rfl
           clear hr
           first | subst ht | clear ht
           dsimp only at hq14
           refine JQ.outX ?_
           refine JQ.here ?_
           replace hq14 := Option.some.inj hq14
           first | subst hq14 | clear hq14
           exact JQ.joinK () () rfl (Imp.norm (js := []) rfl .nil)
 · replace hx1 := bnd_inv hx1
   obtain ⟨v_3, hv_v_3, hx1⟩ := hx1
   replace hx1 := lt1_inv hx1
   obtain ⟨v_4, hv_v_4, hx1⟩ := hx1
   replace hx1 := iteB_inv hx1
   rcases hx1 with ⟨hc3, hx1⟩ | ⟨hc3, hx1⟩
   · refine JC.anyE (kl := []) (kk := 0) (base := [(1, ov (PTR gb_2 0))])
         (fs := fun γ => [⟨some 4, ov (PTR gb_2 (0 + 0))⟩, ⟨some 5, ov (A r_api_Dot t_1.ID)⟩, ⟨some 6, ov (S rB v_3)⟩, ⟨some 7, ov (S rB v_4)⟩, ⟨some 8, ov (S rB v_4)⟩, ⟨some 9, .one .und⟩, ⟨some 10, .one .und⟩, ⟨some 11, .one .und⟩, ⟨some 12, .one .und⟩, ⟨some 13, ov (S rB true)⟩, ⟨some 14, ov (S rB true)⟩, ⟨some 15, .one .und⟩, ⟨some 16, .one .und⟩, ⟨some 17, .one .und⟩, ⟨some 18, .one .und⟩, ⟨some 19, .one .und⟩, ⟨some 20, .one .und⟩, ⟨some 21, .one .und⟩, ⟨some 22, .one .und⟩, ⟨some 23, .one .und⟩, ⟨some 24, .one .und⟩, ⟨some 25, .one .und⟩, ⟨some 26, .one .und⟩, ⟨some 27, ov (S rB true)⟩, ⟨some 28, ov (S rB true)⟩, ⟨some 29, .one .und⟩, ⟨some 30, .one .und⟩, ⟨some 31, .one .und⟩, ⟨some 32, .one .und⟩, ⟨some 33, ov (S rB true)⟩, ⟨some 34, ov (S rB true)⟩, ⟨some 35, .one .und⟩, ⟨some 36, .one .und⟩, ⟨some 37, .one .und⟩, ⟨some 38, .one .und⟩, ⟨some 39, ov (S rB true)⟩, ⟨some 40, ov (S rB true)⟩, ⟨some 41, .one .und⟩, ⟨some 42, .one .und⟩, ⟨some 43, .one .und⟩, ⟨some 44, .one .und⟩, ⟨some 45, ov (S rB true)⟩])
         (rs := fun γ => [⟨cvar gb_2 r_api_Event t_1, none, none, [1]⟩])
         (ds := [4, 5, 6, 7, 8, 9, 10, 11, 12, 13, 14, 15, 16, 17, 18, 19, 20, 21, 22, 23, 24, 25, 26, 27, 28, 29, 30, 31, 32, 33, 34, 35, 36, 37, 38, 39, 40, 41, 42, 43, 44, 45]) (bs := [1]) (afts := [[], [], [], [], [], [], [], [], [], [], [], [], [], [], [], [], [], [], [], [], [], [], [], [], [], [], [], [], [], [], [], [], [], [], [], [], [], [], [], [], [], []]) (js := [0]) mixed (.cons rfl .nil) (fun _ => rfl)
         (by
      refine dS 1 (fun γ ρ B hb hd => op_fieldAddr (off := 0) lb tf38_0 (.tmp (hb 1 _ rfl))) ?_
      refine DSteps.cons (j := 2) rfl (fun _ => rfl) (.run (fun γ ρ B hb hd => ⟨.none, OpStep.at ⟨ρ, (cvar gb_2 r_api_Event t_1) :: B, _⟩ (setO ⟨ρ, (cvar gb_2 r_api_Event t_1) :: B, _⟩ _ _) (op_loadA (j := 0) lb tA24 (.tmp (hl hd 0 4 rfl)) rfl (Comp.trans (Comp.self r_api_Event t_1) (comp_api_Event_ID t_1) (Nat.le_of_ble_eq_true rfl)) rfl)⟩)) ?_
      refine dS 3 (fun γ ρ B hb hd => (op_call (js := []) ld cl31 (sim_ref09_MayDot k t_1.ID v_3 hv_v_3) .func (.cons (.tmp (hl hd 1 5 rfl)) .nil) rfl).post (fun _ => Imp.refl)) ?_
      refine dS 4 (fun γ ρ B hb hd => op_not lb (.tmp (hl hd 2 6 rfl)) hv_v_4) ?_
      refine dS 5 (fun γ ρ B hb hd => op_move lb (.tmp (hl hd 3 7 rfl))) ?_
      refine DSteps.cons (j := 6) rfl (fun _ => rfl) (.skip (fun γ ρ B hb hd => ⟨.no rfl (ltB rfl) (hl hd 4 8 rfl) hc3, rfl, rfl, rfl, fun d h => by cases h; exact ltB rfl⟩)) ?_
      refine DSteps.cons (j := 7) rfl (fun _ => rfl) (.skip (fun γ ρ B hb hd => ⟨.no rfl (ltB rfl) (hl hd 4 8 rfl) hc3, rfl, rfl, rfl, fun d h => by cases h; exact ltB rfl⟩)) ?_
      refine DSteps.cons (j := 8) rfl (fun _ => rfl) (.skip (fun γ ρ B hb hd => ⟨.no rfl (ltB rfl) (hl hd 4 8 rfl) hc3, rfl, rfl, rfl, fun d h => by cases h; exact ltB rfl⟩)) ?_
      refine DSteps.cons (j := 9) rfl (fun _ => rfl) (.skip (fun γ ρ B hb hd => ⟨.no rfl (ltB rfl) (hl hd 4 8 rfl) hc3, rfl, rfl, rfl, fun d h => by cases h; exact ltB rfl⟩)) ?_
      refine dS 10 (fun γ ρ B hb hd => op_pickT lb (.tmp (hl hd 4 8 rfl)) hc3 .cB) ?_
      refine dS 11 (fun γ ρ B hb hd => op_move lb (.tmp (hl hd 9 13 rfl))) ?_
      refine DSteps.cons (j := 12) rfl (fun _ => rfl) (.skip (fun γ ρ B hb hd => ⟨.no rfl (ltB rfl) (hl hd 10 14 rfl) rfl, rfl, rfl, rfl, fun d h => by cases h; exact ltB rfl⟩)) ?_
      refine DSteps.cons (j := 13) rfl (fun _ => rfl) (.skip (fun γ ρ B hb hd => ⟨.no rfl (ltB rfl) (hl hd 10 14 rfl) rfl, rfl, rfl, rfl, fun d h => by cases h; exact ltB rfl⟩)) ?_
      refine DSteps.cons (j := 14) rfl (fun _ => rfl) (.skip (fun γ ρ B hb hd => ⟨.no rfl (ltB rfl) (hl hd 10 14 rfl) rfl, rfl, rfl, rfl, fun d h => by cases h; exact ltB rfl⟩)) ?_
      refine DSteps.cons (j := 15) rfl (fun _ => rfl) (.skip (fun γ ρ B hb hd => ⟨.no rfl (ltB rfl) (hl hd 10 14 rfl) rfl, rfl, rfl, rfl, fun d h => by cases h; exact ltB rfl⟩)) ?_
      refine DSteps.cons (j := 16) rfl (fun _ => rfl) (.skip (fun γ ρ B hb hd => ⟨.no rfl (ltB rfl) (hl hd 10 14 rfl) rfl, rfl, rfl, rfl, fun d h => by cases h; exact ltB rfl⟩)) ?_
      refine DSteps.cons (j := 17) rfl (fun _ => rfl) (.skip (fun γ ρ B hb hd => ⟨.no rfl (ltB rfl) (hl hd 10 14 rfl) rfl, rfl, rfl, rfl, fun d h => by cases h; exact ltB rfl⟩)) ?_
      refine DSteps.cons (j := 18) rfl (fun _ => rfl) (.skip (fun γ ρ B hb hd => ⟨.no rfl (ltB rfl) (hl hd 10 14 rfl) rfl, rfl, rfl, rfl, fun d h => by cases h; exact ltB rfl⟩)) ?_
      refine DSteps.cons (j := 19) rfl (fun _ => rfl) (.skip (fun γ ρ B hb hd => ⟨.no rfl (ltB rfl) (hl hd 10 14 rfl) rfl, rfl, rfl, rfl, fun d h => by cases h; exact ltB rfl⟩)) ?_
      refine DSteps.cons (j := 20) rfl (fun _ => rfl) (.skip (fun γ ρ B hb hd => ⟨.no rfl (ltB rfl) (hl hd 10 14 rfl) rfl, rfl, rfl, rfl, fun d h => by cases h; exact ltB rfl⟩)) ?_
      refine DSteps.cons (j := 21) rfl (fun _ => rfl) (.skip (fun γ ρ B hb hd => ⟨.no rfl (ltB rfl) (hl hd 10 14 rfl) rfl, rfl, rfl, rfl, fun d h => by cases h; exact ltB rfl⟩)) ?_
      refine DSteps.cons (j := 22) rfl (fun _ => rfl) (.skip (fun γ ρ B hb hd => ⟨.no rfl (ltB rfl) (hl hd 10 14 rfl) rfl, rfl, rfl, rfl, fun d h => by cases h; exact ltB rfl⟩)) ?_
      refine DSteps.cons (j := 23) rfl (fun _ => rfl) (.skip (fun γ ρ B hb hd => ⟨.no rfl (ltB rfl) (hl hd 10 14 rfl) rfl, rfl, rfl, rfl, fun d h => by cases h; exact ltB rfl⟩)) ?_
      refine dS 24 (fun γ ρ B hb hd => op_pickT lb (.tmp (hl hd 10 14 rfl)) rfl .cB) ?_
      refine dS 25 (fun γ ρ B hb hd => op_move lb (.tmp (hl hd 23 27 rfl))) ?_
      refine DSteps.cons (j := 26) rfl (fun _ => rfl) (.skip (fun γ ρ B hb hd => ⟨.no rfl (ltB rfl) (hl hd 24 28 rfl) rfl, rfl, rfl, rfl, fun d h => by cases h; exact ltB rfl⟩)) ?_
      refine DSteps.cons (j := 27) rfl (fun _ => rfl) (.skip (fun γ ρ B hb hd => ⟨.no rfl (ltB rfl) (hl hd 24 28 rfl) rfl, rfl, rfl, rfl, fun d h => by cases h; exact ltB rfl⟩)) ?_
      refine DSteps.cons (j := 28) rfl (fun _ => rfl) (.skip (fun γ ρ B hb hd => ⟨.no rfl (ltB rfl) (hl hd 24 28 rfl) rfl, rfl, rfl, rfl, fun d h => by cases h; exact ltB rfl⟩)) ?_
      refine DSteps.cons (j := 29) rfl (fun _ => rfl) (.skip (fun γ ρ B hb hd => ⟨.no rfl (ltB rfl) (hl hd 24 28 rfl) rfl, rfl, rfl, rfl, fun d h => by cases h; exact ltB rfl⟩)) ?_
      refine dS 30 (fun γ ρ B hb hd => op_pickT lb (.tmp (hl hd 24 28 rfl)) rfl .cB) ?_
      refine dS 31 (fun γ ρ B hb hd => op_move lb (.tmp (hl hd 29 33 rfl))) ?_
      refine DSteps.cons (j := 32) rfl (fun _ => rfl) (.skip (fun γ ρ B hb hd => ⟨.no rfl (ltB rfl) (hl hd 30 34 rfl) rfl, rfl, rfl, rfl, fun d h => by cases h; exact ltB rfl⟩)) ?_
      refine DSteps.cons (j := 33) rfl (fun _ => rfl) (.skip (fun γ ρ B hb hd => ⟨.no rfl (ltB rfl) (hl hd 30 34 rfl) rfl, rfl, rfl, rfl, fun d h => by cases h; exact ltB rfl⟩)) ?_
      refine DSteps.cons (j := 34) rfl (fun _ => rfl) (.skip (fun γ ρ B hb hd => ⟨.no rfl (ltB rfl) (hl hd 30 34 rfl) rfl, rfl, rfl, rfl, fun d h => by cases h; exact ltB rfl⟩)) ?_
      refine DSteps.cons (j := 35) rfl (fun _ => rfl) (.skip (fun γ ρ B hb hd => ⟨.no rfl (ltB rfl) (hl hd 30 34 rfl) rfl, rfl, rfl, rfl, fun d h => by cases h; exact ltB rfl⟩)) ?_
      refine dS 36 (fun γ ρ B hb hd => op_pickT lb (.tmp (hl hd 30 34 rfl)) rfl .cB) ?_
      refine dS 37 (fun γ ρ B hb hd => op_move lb (.tmp (hl hd 35 39 rfl))) ?_
      refine DSteps.cons (j := 38) rfl (fun _ => rfl) (.skip (fun γ ρ B hb hd => ⟨.no rfl (ltB rfl) (hl hd 36 40 rfl) rfl, rfl, rfl, rfl, fun d h => by cases h; exact ltB rfl⟩)) ?_
      refine DSteps.cons (j := 39) rfl (fun _ => rfl) (.skip (fun γ ρ B hb hd => ⟨.no rfl (ltB rfl) (hl hd 36 40 rfl) rfl, rfl, rfl, rfl, fun d h => by cases h; exact ltB rfl⟩)) ?_
      refine DSteps.cons (j := 40) rfl (fun _ => rfl) (.skip (fun γ ρ B hb hd => ⟨.no rfl (ltB rfl) (hl hd 36 40 rfl) rfl, rfl, rfl, rfl, fun d h => by cases h; exact ltB rfl⟩)) ?_
      refine DSteps.cons (j := 41) rfl (fun _ => rfl) (.skip (fun γ ρ B hb hd => ⟨.no rfl (ltB rfl) (hl hd 36 40 rfl) rfl, rfl, rfl, rfl, fun d h => by cases h; exact ltB rfl⟩)) ?_
      refine dS 42 (fun γ ρ B hb hd => op_pickT lb (.tmp (hl hd 36 40 rfl)) rfl .cB) ?_
      exact DSteps.nil)
         (by decide +kernel) (fun _ => rfl) rfl (fun _ => rfl) (fun _ => rfl) rfl (by decide) (by decide) (by decide +kernel) (fun _ d h => by cases h)
         (ρ' := fun γ => [(1, ov (PTR gb_2 0)), (45, ov (S rB true))])
         (X' := fun γ => [cvar gb_2 r_api_Event t_1])
         (fun γ ρ hb hd => (.cons (hb 1 _ rfl (by decide)) (.cons (hdq hd 41 45 rfl) .nil))) (fun _ => rfl) (fun γ => ?_)
     refine JQ.at ⟨[(1, ov (PTR gb_2 0)), (45, ov (S rB true))], [cvar gb_2 r_api_Event t_1], []⟩ ?_
     replace hx1 := Option.some.inj hx1
     first | subst hx1 | clear hx1
     exact JQ.join () (Imp.norm (js := [0]) rfl (.cons rfl (.cons rfl .nil)))
   · replace hx1 := bnd_inv hx1
     obtain ⟨v_5, hv_v_5, hx1⟩ := hx1
     replace hx1 := lt1_inv hx1
     obtain ⟨v_6, hv_v_6, hx1⟩ := hx1
     replace hx1 := iteB_inv hx1
     rcases hx1 with ⟨hc5, hx1⟩ | ⟨hc5, hx1⟩
     · refine JC.anyE (kl := []) (kk := 0) (base := [(1, ov (PTR gb_2 0))])
           (fs := fun γ => [⟨some 4, ov (PTR gb_2 (0 + 0))⟩, ⟨some 5, ov (A r_api_Dot t_1.ID)⟩, ⟨some 6, ov (S rB v_3)⟩, ⟨some 7, ov (S rB v_4)⟩, ⟨some 8, ov (S rB v_4)⟩, ⟨some 9, ov (PTR gb_2 (0 + 4))⟩, ⟨some 10, ov (A (rV 16 (rU UInt64)) t_1.Past)⟩, ⟨some 11, ov (S rB v_5)⟩, ⟨some 12, ov (S rB v_6)⟩, ⟨some 13, ov (S rB v_6)⟩, ⟨some 14, ov (S rB v_6)⟩, ⟨some 15, .one .und⟩, ⟨some 16, .one .und⟩, ⟨some 17, .one .und⟩, ⟨some 18, .one .und⟩, ⟨some 19, .one .und⟩, ⟨some 20, .one .und⟩, ⟨some 21, .one .und⟩, ⟨some 22, .one .und⟩, ⟨some 23, .one .und⟩, ⟨some 24, .one .und⟩, ⟨some 25, .one .und⟩, ⟨some 26, .one .und⟩, ⟨some 27, ov (S rB true)⟩, ⟨some 28, ov (S rB true)⟩, ⟨some 29, .one .und⟩, ⟨some 30, .one .und⟩, ⟨some 31, .one .und⟩, ⟨some 32, .one .und⟩, ⟨some 33, ov (S rB true)⟩, ⟨some 34, ov (S rB true)⟩, ⟨some 35, .one .und⟩, ⟨some 36, .one .und⟩, ⟨some 37, .one .und⟩, ⟨some 38, .one .und⟩, ⟨some 39, ov (S rB true)⟩, ⟨some 40, ov (S rB true)⟩, ⟨some 41, .one .und⟩, ⟨some 42, .one .und⟩, ⟨some 43, .one .und⟩, ⟨some 44, .one .und⟩, ⟨some 45, ov (S rB true)⟩])
           (rs := fun γ => [⟨cvar gb_2 r_api_Event t_1, none, none, [1, 6]⟩])
           (ds := [4, 5, 6, 7, 8, 9, 10, 11, 12, 13, 14, 15, 16, 17, 18, 19, 20, 21, 22, 23, 24, 25, 26, 27, 28, 29, 30, 31, 32, 33, 34, 35, 36, 37, 38, 39, 40, 41, 42, 43, 44, 45]) (bs := [1]) (afts := [[], [], [], [], [], [], [], [], [], [], [], [], [], [], [], [], [], [], [], [], [], [], [], [], [], [], [], [], [], [], [], [], [], [], [], [], [], [], [], [], [], []]) (js := [0]) mixed (.cons rfl .nil) (fun _ => rfl)
           (by
      refine dS 1 (fun γ ρ B hb hd => op_fieldAddr (off := 0) lb tf38_0 (.tmp (hb 1 _ rfl))) ?_
      refine DSteps.cons (j := 2) rfl (fun _ => rfl) (.run (fun γ ρ B hb hd => ⟨.none, OpStep.at ⟨ρ, (cvar gb_2 r_api_Event t_1) :: B, _⟩ (setO ⟨ρ, (cvar gb_2 r_api_Event t_1) :: B, _⟩ _ _) (op_loadA (j := 0) lb tA24 (.tmp (hl hd 0 4 rfl)) rfl (Comp.trans (Comp.self r_api_Event t_1) (comp_api_Event_ID t_1) (Nat.le_of_ble_eq_true rfl)) rfl)⟩)) ?_
      refine dS 3 (fun γ ρ B hb hd => (op_call (js := []) ld cl31 (sim_ref09_MayDot k t_1.ID v_3 hv_v_3) .func (.cons (.tmp (hl hd 1 5 rfl)) .nil) rfl).post (fun _ => Imp.refl)) ?_
      refine dS 4 (fun γ ρ B hb hd => op_not lb (.tmp (hl hd 2 6 rfl)) hv_v_4) ?_
      refine dS 5 (fun γ ρ B hb hd => op_move lb (.tmp (hl hd 3 7 rfl))) ?_
      refine DSteps.cons (j := 6) rfl (fun _ => rfl) (.run (fun γ ρ B hb hd => ⟨.yes rfl (ltB rfl) (hl hd 4 8 rfl) hc3, OpStep.at ⟨ρ, B, _⟩ (setO ⟨ρ, B, _⟩ _ _) (op_fieldAddr (off := 4) lb tf38_3 (.tmp (hb 1 _ rfl)))⟩)) ?_
      refine DSteps.cons (j := 7) rfl (fun _ => rfl) (.run (fun γ ρ B hb hd => ⟨.yes rfl (ltB rfl) (hl hd 4 8 rfl) hc3, OpStep.at ⟨ρ, (cvar gb_2 r_api_Event t_1) :: B, _⟩ (setO ⟨ρ, (cvar gb_2 r_api_Event t_1) :: B, _⟩ _ _) (op_loadA (j := 0) lb tA26 (.tmp (hl hd 5 9 rfl)) rfl (Comp.trans (Comp.self r_api_Event t_1) (comp_api_Event_Past t_1) (Nat.le_of_ble_eq_true rfl)) rfl)⟩)) ?_
      refine DSteps.cons (j := 8) rfl (fun _ => rfl) (.run (fun γ ρ B hb hd => ⟨.yes rfl (ltB rfl) (hl hd 4 8 rfl) hc3, OpStep.at ⟨ρ, B, _⟩ (setO ⟨ρ, B, _⟩ _ _) ((op_call (js := []) ld cl12 (sim_ref09_MayVector k t_1.Past v_5 hv_v_5) .func (.cons (.tmp (hl hd 6 10 rfl)) .nil) rfl).post (fun _ => Imp.refl))⟩)) ?_
      refine DSteps.cons (j := 9) rfl (fun _ => rfl) (.run (fun γ ρ B hb hd => ⟨.yes rfl (ltB rfl) (hl hd 4 8 rfl) hc3, OpStep.at ⟨ρ, B, _⟩ (setO ⟨ρ, B, _⟩ _ _) (op_not lb (.tmp (hl hd 7 11 rfl)) hv_v_6)⟩)) ?_
      refine dS 10 (fun γ ρ B hb hd => op_pickF lb (.tmp (hl hd 4 8 rfl)) hc3 (.tmp (hl hd 8 12 rfl))) ?_
      refine dS 11 (fun γ ρ B hb hd => op_move lb (.tmp (hl hd 9 13 rfl))) ?_
      refine DSteps.cons (j := 12) rfl (fun _ => rfl) (.skip (fun γ ρ B hb hd => ⟨.no rfl (ltB rfl) (hl hd 10 14 rfl) hc5, rfl, rfl, rfl, fun d h => by cases h; exact ltB rfl⟩)) ?_
      refine DSteps.cons (j := 13) rfl (fun _ => rfl) (.skip (fun γ ρ B hb hd => ⟨.no rfl (ltB rfl) (hl hd 10 14 rfl) hc5, rfl, rfl, rfl, fun d h => by cases h; exact ltB rfl⟩)) ?_
      refine DSteps.cons (j := 14) rfl (fun _ => rfl) (.skip (fun γ ρ B hb hd => ⟨.no rfl (ltB rfl) (hl hd 10 14 rfl) hc5, rfl, rfl, rfl, fun d h => by cases h; exact ltB rfl⟩)) ?_
      refine DSteps.cons (j := 15) rfl (fun _ => rfl) (.skip (fun γ ρ B hb hd => ⟨.no rfl (ltB rfl) (hl hd 10 14 rfl) hc5, rfl, rfl, rfl, fun d h => by cases h; exact ltB rfl⟩)) ?_
      refine DSteps.cons (j := 16) rfl (fun _ => rfl) (.skip (fun γ ρ B hb hd => ⟨.no rfl (ltB rfl) (hl hd 10 14 rfl) hc5, rfl, rfl, rfl, fun d h => by cases h; exact ltB rfl⟩)) ?_
      refine DSteps.cons (j := 17) rfl (fun _ => rfl) (.skip (fun γ ρ B hb hd => ⟨.no rfl (ltB rfl) (hl hd 10 14 rfl) hc5, rfl, rfl, rfl, fun d h => by cases h; exact ltB rfl⟩)) ?_
      refine DSteps.cons (j := 18) rfl (fun _ => rfl) (.skip (fun γ ρ B hb hd => ⟨.no rfl (ltB rfl) (hl hd 10 14 rfl) hc5, rfl, rfl, rfl, fun d h => by cases h; exact ltB rfl⟩)) ?_
      refine DSteps.cons (j := 19) rfl (fun _ => rfl) (.skip (fun γ ρ B hb hd => ⟨.no rfl (ltB rfl) (hl hd 10 14 rfl) hc5, rfl, rfl, rfl, fun d h => by cases h; exact ltB rfl⟩)) ?_
      refine DSteps.cons (j := 20) rfl (fun _ => rfl) (.skip (fun γ ρ B hb hd => ⟨.no rfl (ltB rfl) (hl hd 10 14 rfl) hc5, rfl, rfl, rfl, fun d h => by cases h; exact ltB rfl⟩)) ?_
      refine DSteps.cons (j := 21) rfl (fun _ => rfl) (.skip (fun γ ρ B hb hd => ⟨.no rfl (ltB rfl) (hl hd 10 14 rfl) hc5, rfl, rfl, rfl, fun d h => by cases h; exact ltB rfl⟩)) ?_
      refine DSteps.cons (j := 22) rfl (fun _ => rfl) (.skip (fun γ ρ B hb hd => ⟨.no rfl (ltB rfl) (hl hd 10 14 rfl) hc5, rfl, rfl, rfl, fun d h => by cases h; exact ltB rfl⟩)) ?_
      refine DSteps.cons (j := 23) rfl (fun _ => rfl) (.skip (fun γ ρ B hb hd => ⟨.no rfl (ltB rfl) (hl hd 10 14 rfl) hc5, rfl, rfl, rfl, fun d h => by cases h; exact ltB rfl⟩)) ?_
      refine dS 24 (fun γ ρ B hb hd => op_pickT lb (.tmp (hl hd 10 14 rfl)) hc5 .cB) ?_
      refine dS 25 (fun γ ρ B hb hd => op_move lb (.tmp (hl hd 23 27 rfl))) ?_
      refine DSteps.cons (j := 26) rfl (fun _ => rfl) (.skip (fun γ ρ B hb hd => ⟨.no rfl (ltB rfl) (hl hd 24 28 rfl) rfl, rfl, rfl, rfl, fun d h => by cases h; exact ltB rfl⟩)) ?_
      refine DSteps.cons (j := 27) rfl (fun _ => rfl) (.skip (fun γ ρ B hb hd => ⟨.no rfl (ltB rfl) (hl hd 24 28 rfl) rfl, rfl, rfl, rfl, fun d h => by cases h; exact ltB rfl⟩)) ?_
      refine DSteps.cons (j := 28) rfl (fun _ => rfl) (.skip (fun γ ρ B hb hd => ⟨.no rfl (ltB rfl) (hl hd 24 28 rfl) rfl, rfl, rfl, rfl, fun d h => by cases h; exact ltB rfl⟩)) ?_
      refine DSteps.cons (j := 29) rfl (fun _ => rfl) (.skip (fun γ ρ B hb hd => ⟨.no rfl (ltB rfl) (hl hd 24 28 rfl) rfl, rfl, rfl, rfl, fun d h => by cases h; exact ltB rfl⟩)) ?_
      refine dS 30 (fun γ ρ B hb hd => op_pickT lb (.tmp (hl hd 24 28 rfl)) rfl .cB) ?_
      refine dS 31 (fun γ ρ B hb hd => op_move lb (.tmp (hl hd 29 33 rfl))) ?_
      refine DSteps.cons (j := 32) rfl (fun _ => rfl) (.skip (fun γ ρ B hb hd => ⟨.no rfl (ltB rfl) (hl hd 30 34 rfl) rfl, rfl, rfl, rfl, fun d h => by cases h; exact ltB rfl⟩)) ?_
      refine DSteps.cons (j := 33) rfl (fun _ => rfl) (.skip (fun γ ρ B hb hd => ⟨.no rfl (ltB rfl) (hl hd 30 34 rfl) rfl, rfl, rfl, rfl, fun d h => by cases h; exact ltB rfl⟩)) ?_
      refine DSteps.cons (j := 34) rfl (fun _ => rfl) (.skip (fun γ ρ B hb hd => ⟨.no rfl (ltB rfl) (hl hd 30 34 rfl) rfl, rfl, rfl, rfl, fun d h => by cases h; exact ltB rfl⟩)) ?_
      refine DSteps.cons (j := 35) rfl (fun _ => rfl) (.skip (fun γ ρ B hb hd => ⟨.no rfl (ltB rfl) (hl hd 30 34 rfl) rfl, rfl, rfl, rfl, fun d h => by cases h; exact ltB rfl⟩)) ?_
      refine dS 36 (fun γ ρ B hb hd => op_pickT lb (.tmp (hl hd 30 34 rfl)) rfl .cB) ?_
      refine dS 37 (fun γ ρ B hb hd => op_move lb (.tmp (hl hd 35 39 rfl))) ?_
      refine DSteps.cons (j := 38) rfl (fun _ => rfl) (.skip (fun γ ρ B hb hd => ⟨.no rfl (ltB rfl) (hl hd 36 40 rfl) rfl, rfl, rfl, rfl, fun d h => by cases h; exact ltB rfl⟩)) ?_
      refine DSteps.cons (j := 39) rfl (fun _ => rfl) (.skip (fun γ ρ B hb hd => ⟨.no rfl (ltB rfl) (hl hd 36 40 rfl) rfl, rfl, rfl, rfl, fun d h => by cases h; exact ltB rfl⟩)) ?_
      refine DSteps.cons (j := 40) rfl (fun _ => rfl) (.skip (fun γ ρ B hb hd => ⟨.no rfl (ltB rfl) (hl hd 36 40 rfl) rfl, rfl, rfl, rfl, fun d h => by cases h; exact ltB rfl⟩)) ?_
      refine DSteps.cons (j := 41) rfl (fun _ => rfl) (.skip (fun γ ρ B hb hd => ⟨.no rfl (ltB rfl) (hl hd 36 40 rfl) rfl, rfl, rfl, rfl, fun d h => by cases h; exact ltB rfl⟩)) ?_
      refine dS 42 (fun γ ρ B hb hd => op_pickT lb (.tmp (hl hd 36 40 rfl)) rfl .cB) ?_
      exact DSteps.nil)
           (by decide +kernel) (fun _ => rfl) rfl (fun _ => rfl) (fun _ => rfl) rfl (by decide) (by decide) (by decide +kernel) (fun _ d h => by cases h)
           (ρ' := fun γ => [(1, ov (PTR gb_2 0)), (45, ov (S rB true))])
           (X' := fun γ => [cvar gb_2 r_api_Event t_1])
           (fun γ ρ hb hd => (.cons (hb 1 _ rfl (by decide)) (.cons (hdq hd 41 45 rfl) .nil))) (fun _ => rfl) (fun γ => ?_)
       refine JQ.at ⟨[(1, ov (PTR gb_2 0)), (45, ov (S rB true))], [cvar gb_2 r_api_Event t_1], []⟩ ?_
       replace hx1 := Option.some.inj hx1
       first | subst hx1 | clear hx1
       exact JQ.join () (Imp.norm (js := [0]) rfl (.cons rfl (.cons rfl .nil)))
     · replace hx1 := lt1_inv hx1
       obtain ⟨v_7, hv_v_7, hx1⟩ := hx1
       replace hx1 := bnd_inv hx1
       obtain ⟨i_8, hv_i_8, hx1⟩ := hx1
       replace hx1 := lt1_inv hx1
       obtain ⟨v_9, hv_v_9, hx1⟩ := hx1
       replace hx1 := lt1_inv hx1
       obtain ⟨v_10, hv_v_10, hx1⟩ := hx1
       replace hx1 := lt1_inv hx1
       obtain ⟨v_11, hv_v_11, hx1⟩ := hx1
       replace hx1 := iteB_inv hx1
       rcases hx1 with ⟨hc7, hx1⟩ | ⟨hc7, hx1⟩
       · refine JC.anyE (kl := []) (kk := 0) (base := [(1, ov (PTR gb_2 0))])
             (fs := fun γ => [⟨some 4, ov (PTR gb_2 (0 + 0))⟩, ⟨some 5, ov (A r_api_Dot t_1.ID)⟩, ⟨some 6, ov (S rB v_3)⟩, ⟨some 7, ov (S rB v_4)⟩, ⟨some 8, ov (S rB v_4)⟩, ⟨some 9, ov (PTR gb_2 (0 + 4))⟩, ⟨some 10, ov (A (rV 16 (rU UInt64)) t_1.Past)⟩, ⟨some 11, ov (S rB v_5)⟩, ⟨some 12, ov (S rB v_6)⟩, ⟨some 13, ov (S rB v_6)⟩, ⟨some 14, ov (S rB v_6)⟩, ⟨some 15, ov (PTR gb_2 (0 + 0))⟩, ⟨some 16, ov (PTR gb_2 ((0 + 0) + 0))⟩, ⟨some 17, ov (S (rI .i64) t_1.ID.Region)⟩, ⟨some 18, ov (S (rI .i64) v_7)⟩, ⟨some 19, ov (PTR gb_2 (0 + 4))⟩, ⟨some 20, ov (PTR gb_2 ((0 + 4) + i_8.1 * 1))⟩, ⟨some 21, ov (S (rU UInt64) v_9)⟩, ⟨some 22, ov (S (rU UInt64) v_10)⟩, ⟨some 23, ov (PTR gb_2 (0 + 0))⟩, ⟨some 24, ov (PTR gb_2 ((0 + 0) + 1))⟩, ⟨some 25, ov (S (rU UInt64) t_1.ID.Count)⟩, ⟨some 26, ov (S rB v_11)⟩, ⟨some 27, ov (S rB v_11)⟩, ⟨some 28, ov (S rB v_11)⟩, ⟨some 29, .one .und⟩, ⟨some 30, .one .und⟩, ⟨some 31, .one .und⟩, ⟨some 32, .one .und⟩, ⟨some 33, ov (S rB true)⟩, ⟨some 34, ov (S rB true)⟩, ⟨some 35, .one .und⟩, ⟨some 36, .one .und⟩, ⟨some 37, .one .und⟩, ⟨some 38, .one .und⟩, ⟨some 39, ov (S rB true)⟩, ⟨some 40, ov (S rB true)⟩, ⟨some 41, .one .und⟩, ⟨some 42, .one .und⟩, ⟨some 43, .one .und⟩, ⟨some 44, .one .und⟩, ⟨some 45, ov (S rB true)⟩])
             (rs := fun γ => [⟨cvar gb_2 r_api_Event t_1, none, none, [1, 6, 13, 17, 21]⟩])
             (ds := [4, 5, 6, 7, 8, 9, 10, 11, 12, 13, 14, 15, 16, 17, 18, 19, 20, 21, 22, 23, 24, 25, 26, 27, 28, 29, 30, 31, 32, 33, 34, 35, 36, 37, 38, 39, 40, 41, 42, 43, 44, 45]) (bs := [1]) (afts := [[], [], [], [], [], [], [], [], [], [], [], [], [], [], [], [], [], [], [], [], [], [], [], [], [], [], [], [], [], [], [], [], [], [], [], [], [], [], [], [], [], []]) (js := [0]) mixed (.cons rfl .nil) (fun _ => rfl)
             (by
      refine dS 1 (fun γ ρ B hb hd => op_fieldAddr (off := 0) lb tf38_0 (.tmp (hb 1 _ rfl))) ?_
      refine DSteps.cons (j := 2) rfl (fun _ => rfl) (.run (fun γ ρ B hb hd => ⟨.none, OpStep.at ⟨ρ, (cvar gb_2 r_api_Event t_1) :: B, _⟩ (setO ⟨ρ, (cvar gb_2 r_api_Event t_1) :: B, _⟩ _ _) (op_loadA (j := 0) lb tA24 (.tmp (hl hd 0 4 rfl)) rfl (Comp.trans (Comp.self r_api_Event t_1) (comp_api_Event_ID t_1) (Nat.le_of_ble_eq_true rfl)) rfl)⟩)) ?_
      refine dS 3 (fun γ ρ B hb hd => (op_call (js := []) ld cl31 (sim_ref09_MayDot k t_1.ID v_3 hv_v_3) .func (.cons (.tmp (hl hd 1 5 rfl)) .nil) rfl).post (fun _ => Imp.refl)) ?_
      refine dS 4 (fun γ ρ B hb hd => op_not lb (.tmp (hl hd 2 6 rfl)) hv_v_4) ?_
      refine dS 5 (fun γ ρ B hb hd => op_move lb (.tmp (hl hd 3 7 rfl))) ?_
      refine DSteps.cons (j := 6) rfl (fun _ => rfl) (.run (fun γ ρ B hb hd => ⟨.yes rfl (ltB rfl) (hl hd 4 8 rfl) hc3, OpStep.at ⟨ρ, B, _⟩ (setO ⟨ρ, B, _⟩ _ _) (op_fieldAddr (off := 4) lb tf38_3 (.tmp (hb 1 _ rfl)))⟩)) ?_
      refine DSteps.cons (j := 7) rfl (fun _ => rfl) (.run (fun γ ρ B hb hd => ⟨.yes rfl (ltB rfl) (hl hd 4 8 rfl) hc3, OpStep.at ⟨ρ, (cvar gb_2 r_api_Event t_1) :: B, _⟩ (setO ⟨ρ, (cvar gb_2 r_api_Event t_1) :: B, _⟩ _ _) (op_loadA (j := 0) lb tA26 (.tmp (hl hd 5 9 rfl)) rfl (Comp.trans (Comp.self r_api_Event t_1) (comp_api_Event_Past t_1) (Nat.le_of_ble_eq_true rfl)) rfl)⟩)) ?_
      refine DSteps.cons (j := 8) rfl (fun _ => rfl) (.run (fun γ ρ B hb hd => ⟨.yes rfl (ltB rfl) (hl hd 4 8 rfl) hc3, OpStep.at ⟨ρ, B, _⟩ (setO ⟨ρ, B, _⟩ _ _) ((op_call (js := []) ld cl12 (sim_ref09_MayVector k t_1.Past v_5 hv_v_5) .func (.cons (.tmp (hl hd 6 10 rfl)) .nil) rfl).post (fun _ => Imp.refl))⟩)) ?_
      refine DSteps.cons (j := 9) rfl (fun _ => rfl) (.run (fun γ ρ B hb hd => ⟨.yes rfl (ltB rfl) (hl hd 4 8 rfl) hc3, OpStep.at ⟨ρ, B, _⟩ (setO ⟨ρ, B, _⟩ _ _) (op_not lb (.tmp (hl hd 7 11 rfl)) hv_v_6)⟩)) ?_
      refine dS 10 (fun γ ρ B hb hd => op_pickF lb (.tmp (hl hd 4 8 rfl)) hc3 (.tmp (hl hd 8 12 rfl))) ?_
      refine dS 11 (fun γ ρ B hb hd => op_move lb (.tmp (hl hd 9 13 rfl))) ?_
      refine DSteps.cons (j := 12) rfl (fun _ => rfl) (.run (fun γ ρ B hb hd => ⟨.yes rfl (ltB rfl) (hl hd 10 14 rfl) hc5, OpStep.at ⟨ρ, B, _⟩ (setO ⟨ρ, B, _⟩ _ _) (op_fieldAddr (off := 0) lb tf38_0 (.tmp (hb 1 _ rfl)))⟩)) ?_
      refine DSteps.cons (j := 13) rfl (fun _ => rfl) (.run (fun γ ρ B hb hd => ⟨.yes rfl (ltB rfl) (hl hd 10 14 rfl) hc5, OpStep.at ⟨ρ, B, _⟩ (setO ⟨ρ, B, _⟩ _ _) (op_fieldAddr (off := 0) lb tf24_0 (.tmp (hl hd 11 15 rfl)))⟩)) ?_
      refine DSteps.cons (j := 14) rfl (fun _ => rfl) (.run (fun γ ρ B hb hd => ⟨.yes rfl (ltB rfl) (hl hd 10 14 rfl) hc5, OpStep.at ⟨ρ, (cvar gb_2 r_api_Event t_1) :: B, _⟩ (setO ⟨ρ, (cvar gb_2 r_api_Event t_1) :: B, _⟩ _ _) (op_loadS (j := 0) lb tS3 (.tmp (hl hd 12 16 rfl)) rfl (Comp.trans (Comp.trans (Comp.self r_api_Event t_1) (comp_api_Event_ID t_1) (Nat.le_of_ble_eq_true rfl)) (comp_api_Dot_Region t_1.ID) (Nat.le_of_ble_eq_true rfl)) rfl rfl)⟩)) ?_
      refine DSteps.cons (j := 15) rfl (fun _ => rfl) (.run (fun γ ρ B hb hd => ⟨.yes rfl (ltB rfl) (hl hd 10 14 rfl) hc5, OpStep.at ⟨ρ, B, _⟩ (setO ⟨ρ, B, _⟩ _ _) (op_arI lb (.tmp (hl hd 13 17 rfl)) .cI (congrArg some hv_v_7))⟩)) ?_
      refine DSteps.cons (j := 16) rfl (fun _ => rfl) (.run (fun γ ρ B hb hd => ⟨.yes rfl (ltB rfl) (hl hd 10 14 rfl) hc5, OpStep.at ⟨ρ, B, _⟩ (setO ⟨ρ, B, _⟩ _ _) (op_fieldAddr (off := 4) lb tf38_3 (.tmp (hb 1 _ rfl)))⟩)) ?_
      refine DSteps.cons (j := 17) rfl (fun _ => rfl) (.run (fun γ ρ B hb hd => ⟨.yes rfl (ltB rfl) (hl hd 10 14 rfl) hc5, OpStep.at ⟨ρ, B, _⟩ (setO ⟨ρ, B, _⟩ _ _) (op_indexAddrIF lb tr26 (.tmp (hl hd 15 19 rfl)) (.tmp (hl hd 14 18 rfl)) hv_i_8)⟩)) ?_
      refine DSteps.cons (j := 18) rfl (fun _ => rfl) (.run (fun γ ρ B hb hd => ⟨.yes rfl (ltB rfl) (hl hd 10 14 rfl) hc5, OpStep.at ⟨ρ, (cvar gb_2 r_api_Event t_1) :: B, _⟩ (setO ⟨ρ, (cvar gb_2 r_api_Event t_1) :: B, _⟩ _ _) (op_loadS (j := 0) lb tS22 (.tmp (hl hd 16 20 rfl)) rfl (Comp.at (Comp.trans (Comp.self r_api_Event t_1) (comp_api_Event_Past t_1) (Nat.le_of_ble_eq_true rfl)) i_8.2 rfl) rfl hv_v_9)⟩)) ?_
      refine DSteps.cons (j := 19) rfl (fun _ => rfl) (.run (fun γ ρ B hb hd => ⟨.yes rfl (ltB rfl) (hl hd 10 14 rfl) hc5, OpStep.at ⟨ρ, B, _⟩ (setO ⟨ρ, B, _⟩ _ _) (op_arU lb (.tmp (hl hd 17 21 rfl)) (HasO.cU (x := (1 : UInt64)) rfl (by decide)) (congrArg some hv_v_10))⟩)) ?_
      refine DSteps.cons (j := 20) rfl (fun _ => rfl) (.run (fun γ ρ B hb hd => ⟨.yes rfl (ltB rfl) (hl hd 10 14 rfl) hc5, OpStep.at ⟨ρ, B, _⟩ (setO ⟨ρ, B, _⟩ _ _) (op_fieldAddr (off := 0) lb tf38_0 (.tmp (hb 1 _ rfl)))⟩)) ?_
      refine DSteps.cons (j := 21) rfl (fun _ => rfl) (.run (fun γ ρ B hb hd => ⟨.yes rfl (ltB rfl) (hl hd 10 14 rfl) hc5, OpStep.at ⟨ρ, B, _⟩ (setO ⟨ρ, B, _⟩ _ _) (op_fieldAddr (off := 1) lb tf24_1 (.tmp (hl hd 19 23 rfl)))⟩)) ?_
      refine DSteps.cons (j := 22) rfl (fun _ => rfl) (.run (fun γ ρ B hb hd => ⟨.yes rfl (ltB rfl) (hl hd 10 14 rfl) hc5, OpStep.at ⟨ρ, (cvar gb_2 r_api_Event t_1) :: B, _⟩ (setO ⟨ρ, (cvar gb_2 r_api_Event t_1) :: B, _⟩ _ _) (op_loadS (j := 0) lb tS22 (.tmp (hl hd 20 24 rfl)) rfl (Comp.trans (Comp.trans (Comp.self r_api_Event t_1) (comp_api_Event_ID t_1) (Nat.le_of_ble_eq_true rfl)) (comp_api_Dot_Count t_1.ID) (Nat.le_of_ble_eq_true rfl)) rfl rfl)⟩)) ?_
      refine DSteps.cons (j := 23) rfl (fun _ => rfl) (.run (fun γ ρ B hb hd => ⟨.yes rfl (ltB rfl) (hl hd 10 14 rfl) hc5, OpStep.at ⟨ρ, B, _⟩ (setO ⟨ρ, B, _⟩ _ _) (op_cmpU lb (.tmp (hl hd 18 22 rfl)) (.tmp (hl hd 21 25 rfl)) (congrArg some hv_v_11))⟩)) ?_
      refine dS 24 (fun γ ρ B hb hd => op_pickF lb (.tmp (hl hd 10 14 rfl)) hc5 (.tmp (hl hd 22 26 rfl))) ?_
      refine dS 25 (fun γ ρ B hb hd => op_move lb (.tmp (hl hd 23 27 rfl))) ?_
      refine DSteps.cons (j := 26) rfl (fun _ => rfl) (.skip (fun γ ρ B hb hd => ⟨.no rfl (ltB rfl) (hl hd 24 28 rfl) hc7, rfl, rfl, rfl, fun d h => by cases h; exact ltB rfl⟩)) ?_
      refine DSteps.cons (j := 27) rfl (fun _ => rfl) (.skip (fun γ ρ B hb hd => ⟨.no rfl (ltB rfl) (hl hd 24 28 rfl) hc7, rfl, rfl, rfl, fun d h => by cases h; exact ltB rfl⟩)) ?_
      refine DSteps.cons (j := 28) rfl (fun _ => rfl) (.skip (fun γ ρ B hb hd => ⟨.no rfl (ltB rfl) (hl hd 24 28 rfl) hc7, rfl, rfl, rfl, fun d h => by cases h; exact ltB rfl⟩)) ?_
      refine DSteps.cons (j := 29) rfl (fun _ => rfl) (.skip (fun γ ρ B hb hd => ⟨.no rfl (ltB rfl) (hl hd 24 28 rfl) hc7, rfl, rfl, rfl, fun d h => by cases h; exact ltB rfl⟩)) ?_
      refine dS 30 (fun γ ρ B hb hd => op_pickT lb (.tmp (hl hd 24 28 rfl)) hc7 .cB) ?_
      refine dS 31 (fun γ ρ B hb hd => op_move lb (.tmp (hl hd 29 33 rfl))) ?_
      refine DSteps.cons (j := 32) rfl (fun _ => rfl) (.skip (fun γ ρ B hb hd => ⟨.no rfl (ltB rfl) (hl hd 30 34 rfl) rfl, rfl, rfl, rfl, fun d h => by cases h; exact ltB rfl⟩)) ?_
      refine DSteps.cons (j := 33) rfl (fun _ => rfl) (.skip (fun γ ρ B hb hd => ⟨.no rfl (ltB rfl) (hl hd 30 34 rfl) rfl, rfl, rfl, rfl, fun d h => by cases h; exact ltB rfl⟩)) ?_
      refine DSteps.cons (j := 34) rfl (fun _ => rfl) (.skip (fun γ ρ B hb hd => ⟨.no rfl (ltB rfl) (hl hd 30 34 rfl) rfl, rfl, rfl, rfl, fun d h => by cases h; exact ltB rfl⟩)) ?_
      refine DSteps.cons (j := 35) rfl (fun _ => rfl) (.skip (fun γ ρ B hb hd => ⟨.no rfl (ltB rfl) (hl hd 30 34 rfl) rfl, rfl, rfl, rfl, fun d h => by cases h; exact ltB rfl⟩)) ?_
      refine dS 36 (fun γ ρ B hb hd => op_pickT lb (.tmp (hl hd 30 34 rfl)) rfl .cB) ?_
      refine dS 37 (fun γ ρ B hb hd => op_move lb (.tmp (hl hd 35 39 rfl))) ?_
      refine DSteps.cons (j := 38) rfl (fun _ => rfl) (.skip (fun γ ρ B hb hd => ⟨.no rfl (ltB rfl) (hl hd 36 40 rfl) rfl, rfl, rfl, rfl, fun d h => by cases h; exact ltB rfl⟩)) ?_
      refine DSteps.cons (j := 39) rfl (fun _ => rfl) (.skip (fun γ ρ B hb hd => ⟨.no rfl (ltB rfl) (hl hd 36 40 rfl) rfl, rfl, rfl, rfl, fun d h => by cases h; exact ltB rfl⟩)) ?_
      refine DSteps.cons (j := 40) rfl (fun _ => rfl) (.skip (fun γ ρ B hb hd => ⟨.no rfl (ltB rfl) (hl hd 36 40 rfl) rfl, rfl, rfl, rfl, fun d h => by cases h; exact ltB rfl⟩)) ?_
      refine DSteps.cons (j := 41) rfl (fun _ => rfl) (.skip (fun γ ρ B hb hd => ⟨.no rfl (ltB rfl) (hl hd 36 40 rfl) rfl, rfl, rfl, rfl, fun d h => by cases h; exact ltB rfl⟩)) ?_
      refine dS 42 (fun γ ρ B hb hd => op_pickT lb (.tmp (hl hd 36 40 rfl)) rfl .cB) ?_
      exact DSteps.nil)
             (by decide +kernel) (fun _ => rfl) rfl (fun _ => rfl) (fun _ => rfl) rfl (by decide) (by decide) (by decide +kernel) (fun _ d h => by cases h)
             (ρ' := fun γ => [(1, ov (PTR gb_2 0)), (45, ov (S rB true))])
             (X' := fun γ => [cvar gb_2 r_api_Event t_1])
             (fun γ ρ hb hd => (.cons (hb 1 _ rfl (by decide)) (.cons (hdq hd 41 45 rfl) .nil))) (fun _ => rfl) (fun γ => ?_)
         refine JQ.at ⟨[(1, ov (PTR gb_2 0)), (45, ov (S rB true))], [cvar gb_2 r_api_Event t_1], []⟩ ?_
         replace hx1 := Option.some.inj hx1
         first | subst hx1 | clear hx1
         exact JQ.join () (Imp.norm (js := [0]) rfl (.cons rfl (.cons rfl .nil)))
       · replace hx1 := bnd_inv hx1
         obtain ⟨v_12, hv_v_12, hx1⟩ := hx1
         replace hx1 := lt1_inv hx1
         obtain ⟨v_13, hv_v_13, hx1⟩ := hx1
         replace hx1 := iteB_inv hx1
         rcases hx1 with ⟨hc9, hx1⟩ | ⟨hc9, hx1⟩
         · refine JC.anyE (kl := []) (kk := 0) (base := [(1, ov (PTR gb_2 0))])
               (fs := fun γ => [⟨some 4, ov (PTR gb_2 (0 + 0))⟩, ⟨some 5, ov (A r_api_Dot t_1.ID)⟩, ⟨some 6, ov (S rB v_3)⟩, ⟨some 7, ov (S rB v_4)⟩, ⟨some 8, ov (S rB v_4)⟩, ⟨some 9, ov (PTR gb_2 (0 + 4))⟩, ⟨some 10, ov (A (rV 16 (rU UInt64)) t_1.Past)⟩, ⟨some 11, ov (S rB v_5)⟩, ⟨some 12, ov (S rB v_6)⟩, ⟨some 13, ov (S rB v_6)⟩, ⟨some 14, ov (S rB v_6)⟩, ⟨some 15, ov (PTR gb_2 (0 + 0))⟩, ⟨some 16, ov (PTR gb_2 ((0 + 0) + 0))⟩, ⟨some 17, ov (S (rI .i64) t_1.ID.Region)⟩, ⟨some 18, ov (S (rI .i64) v_7)⟩, ⟨some 19, ov (PTR gb_2 (0 + 4))⟩, ⟨some 20, ov (PTR gb_2 ((0 + 4) + i_8.1 * 1))⟩, ⟨some 21, ov (S (rU UInt64) v_9)⟩, ⟨some 22, ov (S (rU UInt64) v_10)⟩, ⟨some 23, ov (PTR gb_2 (0 + 0))⟩, ⟨some 24, ov (PTR gb_2 ((0 + 0) + 1))⟩, ⟨some 25, ov (S (rU UInt64) t_1.ID.Count)⟩, ⟨some 26, ov (S rB v_11)⟩, ⟨some 27, ov (S rB v_11)⟩, ⟨some 28, ov (S rB v_11)⟩, ⟨some 29, ov (PTR gb_2 (0 + 2))⟩, ⟨some 30, ov (S rS t_1.Topic)⟩, ⟨some 31, ov (S rB v_12)⟩, ⟨some 32, ov (S rB v_13)⟩, ⟨some 33, ov (S rB v_13)⟩, ⟨some 34, ov (S rB v_13)⟩, ⟨some 35, .one .und⟩, ⟨some 36, .one .und⟩, ⟨some 37, .one .und⟩, ⟨some 38, .one .und⟩, ⟨some 39, ov (S rB true)⟩, ⟨some 40, ov (S rB true)⟩, ⟨some 41, .one .und⟩, ⟨some 42, .one .und⟩, ⟨some 43, .one .und⟩, ⟨some 44, .one .und⟩, ⟨some 45, ov (S rB true)⟩])
               (rs := fun γ => [⟨cvar gb_2 r_api_Event t_1, none, none, [1, 6, 13, 17, 21, 26]⟩])
               (ds := [4, 5, 6, 7, 8, 9, 10, 11, 12, 13, 14, 15, 16, 17, 18, 19, 20, 21, 22, 23, 24, 25, 26, 27, 28, 29, 30, 31, 32, 33, 34, 35, 36, 37, 38, 39, 40, 41, 42, 43, 44, 45]) (bs := [1]) (afts := [[], [], [], [], [], [], [], [], [], [], [], [], [], [], [], [], [], [], [], [], [], [], [], [], [], [], [], [], [], [], [], [], [], [], [], [], [], [], [], [], [], []]) (js := [0]) mixed (.cons rfl .nil) (fun _ => rfl)
               (by
      refine dS 1 (fun γ ρ B hb hd => op_fieldAddr (off := 0) lb tf38_0 (.tmp (hb 1 _ rfl))) ?_
      refine DSteps.cons (j := 2) rfl (fun _ => rfl) (.run (fun γ ρ B hb hd => ⟨.none, OpStep.at ⟨ρ, (cvar gb_2 r_api_Event t_1) :: B, _⟩ (setO ⟨ρ, (cvar gb_2 r_api_Event t_1) :: B, _⟩ _ _) (op_loadA (j := 0) lb tA24 (.tmp (hl hd 0 4 rfl)) rfl (Comp.trans (Comp.self r_api_Event t_1) (comp_api_Event_ID t_1) (Nat.le_of_ble_eq_true rfl)) rfl)⟩)) ?_
      refine dS 3 (fun γ ρ B hb hd => (op_call (js := []) ld cl31 (sim_ref09_MayDot k t_1.ID v_3 hv_v_3) .func (.cons (.tmp (hl hd 1 5 rfl)) .nil) rfl).post (fun _ => Imp.refl)) ?_
      refine dS 4 (fun γ ρ B hb hd => op_not lb (.tmp (hl hd 2 6 rfl)) hv_v_4) ?_
      refine dS 5 (fun γ ρ B hb hd => op_move lb (.tmp (hl hd 3 7 rfl))) ?_
      refine DSteps.cons (j := 6) rfl (fun _ => rfl) (.run (fun γ ρ B hb hd => ⟨.yes rfl (ltB rfl) (hl hd 4 8 rfl) hc3, OpStep.at ⟨ρ, B, _⟩ (setO ⟨ρ, B, _⟩ _ _) (op_fieldAddr (off := 4) lb tf38_3 (.tmp (hb 1 _ rfl)))⟩)) ?_
      refine DSteps.cons (j := 7) rfl (fun _ => rfl) (.run (fun γ ρ B hb hd => ⟨.yes rfl (ltB rfl) (hl hd 4 8 rfl) hc3, OpStep.at ⟨ρ, (cvar gb_2 r_api_Event t_1) :: B, _⟩ (setO ⟨ρ, (cvar gb_2 r_api_Event t_1) :: B, _⟩ _ _) (op_loadA (j := 0) lb tA26 (.tmp (hl hd 5 9 rfl)) rfl (Comp.trans (Comp.self r_api_Event t_1) (comp_api_Event_Past t_1) (Nat.le_of_ble_eq_true rfl)) rfl)⟩)) ?_
      refine DSteps.cons (j := 8) rfl (fun _ => rfl) (.run (fun γ ρ B hb hd => ⟨.yes rfl (ltB rfl) (hl hd 4 8 rfl) hc3, OpStep.at ⟨ρ, B, _⟩ (setO ⟨ρ, B, _⟩ _ _) ((op_call (js := []) ld cl12 (sim_ref09_MayVector k t_1.Past v_5 hv_v_5) .func (.cons (.tmp (hl hd 6 10 rfl)) .nil) rfl).post (fun _ => Imp.refl))⟩)) ?_
      refine DSteps.cons (j := 9) rfl (fun _ => rfl) (.run (fun γ ρ B hb hd => ⟨.yes rfl (ltB rfl) (hl hd 4 8 rfl) hc3, OpStep.at ⟨ρ, B, _⟩ (setO ⟨ρ, B, _⟩ _ _) (op_not lb (.tmp (hl hd 7 11 rfl)) hv_v_6)⟩)) ?_
      refine dS 10 (fun γ ρ B hb hd => op_pickF lb (.tmp (hl hd 4 8 rfl)) hc3 (.tmp (hl hd 8 12 rfl))) ?_
      refine dS 11 (fun γ ρ B hb hd => op_move lb (.tmp (hl hd 9 13 rfl))) ?_
      refine DSteps.cons (j := 12) rfl (fun _ => rfl) (.run (fun γ ρ B hb hd => ⟨.yes rfl (ltB rfl) (hl hd 10 14 rfl) hc5, OpStep.at ⟨ρ, B, _⟩ (setO ⟨ρ, B, _⟩ _ _) (op_fieldAddr (off := 0) lb tf38_0 (.tmp (hb 1 _ rfl)))⟩)) ?_
      refine DSteps.cons (j := 13) rfl (fun _ => rfl) (.run (fun γ ρ B hb hd => ⟨.yes rfl (ltB rfl) (hl hd 10 14 rfl) hc5, OpStep.at ⟨ρ, B, _⟩ (setO ⟨ρ, B, _⟩ _ _) (op_fieldAddr (off := 0) lb tf24_0 (.tmp (hl hd 11 15 rfl)))⟩)) ?_
      refine DSteps.cons (j := 14) rfl (fun _ => rfl) (.run (fun γ ρ B hb hd => ⟨.yes rfl (ltB rfl) (hl hd 10 14 rfl) hc5, OpStep.at ⟨ρ, (cvar gb_2 r_api_Event t_1) :: B, _⟩ (setO ⟨ρ, (cvar gb_2 r_api_Event t_1) :: B, _⟩ _ _) (op_loadS (j := 0) lb tS3 (.tmp (hl hd 12 16 rfl)) rfl (Comp.trans (Comp.trans (Comp.self r_api_Event t_1) (comp_api_Event_ID t_1) (Nat.le_of_ble_eq_true rfl)) (comp_api_Dot_Region t_1.ID) (Nat.le_of_ble_eq_true rfl)) rfl rfl)⟩)) ?_
      refine DSteps.cons (j := 15) rfl (fun _ => rfl) (.run (fun γ ρ B hb hd => ⟨.yes rfl (ltB rfl) (hl hd 10 14 rfl) hc5, OpStep.at ⟨ρ, B, _⟩ (setO ⟨ρ, B, _⟩ _ _) (op_arI lb (.tmp (hl hd 13 17 rfl)) .cI (congrArg some hv_v_7))⟩)) ?_
      refine DSteps.cons (j := 16) rfl (fun _ => rfl) (.run (fun γ ρ B hb hd => ⟨.yes rfl (ltB rfl) (hl hd 10 14 rfl) hc5, OpStep.at ⟨ρ, B, _⟩ (setO ⟨ρ, B, _⟩ _ _) (op_fieldAddr (off := 4) lb tf38_3 (.tmp (hb 1 _ rfl)))⟩)) ?_
      refine DSteps.cons (j := 17) rfl (fun _ => rfl) (.run (fun γ ρ B hb hd => ⟨.yes rfl (ltB rfl) (hl hd 10 14 rfl) hc5, OpStep.at ⟨ρ, B, _⟩ (setO ⟨ρ, B, _⟩ _ _) (op_indexAddrIF lb tr26 (.tmp (hl hd 15 19 rfl)) (.tmp (hl hd 14 18 rfl)) hv_i_8)⟩)) ?_
      refine DSteps.cons (j := 18) rfl (fun _ => rfl) (.run (fun γ ρ B hb hd => ⟨.yes rfl (ltB rfl) (hl hd 10 14 rfl) hc5, OpStep.at ⟨ρ, (cvar gb_2 r_api_Event t_1) :: B, _⟩ (setO ⟨ρ, (cvar gb_2 r_api_Event t_1) :: B, _⟩ _ _) (op_loadS (j := 0) lb tS22 (.tmp (hl hd 16 20 rfl)) rfl (Comp.at (Comp.trans (Comp.self r_api_Event t_1) (comp_api_Event_Past t_1) (Nat.le_of_ble_eq_true rfl)) i_8.2 rfl) rfl hv_v_9)⟩)) ?_
      refine DSteps.cons (j := 19) rfl (fun _ => rfl) (.run (fun γ ρ B hb hd => ⟨.yes rfl (ltB rfl) (hl hd 10 14 rfl) hc5, OpStep.at ⟨ρ, B, _⟩ (setO ⟨ρ, B, _⟩ _ _) (op_arU lb (.tmp (hl hd 17 21 rfl)) (HasO.cU (x := (1 : UInt64)) rfl (by decide)) (congrArg some hv_v_10))⟩)) ?_
      refine DSteps.cons (j := 20) rfl (fun _ => rfl) (.run (fun γ ρ B hb hd => ⟨.yes rfl (ltB rfl) (hl hd 10 14 rfl) hc5, OpStep.at ⟨ρ, B, _⟩ (setO ⟨ρ, B, _⟩ _ _) (op_fieldAddr (off := 0) lb tf38_0 (.tmp (hb 1 _ rfl)))⟩)) ?_
      refine DSteps.cons (j := 21) rfl (fun _ => rfl) (.run (fun γ ρ B hb hd => ⟨.yes rfl (ltB rfl) (hl hd 10 14 rfl) hc5, OpStep.at ⟨ρ, B, _⟩ (setO ⟨ρ, B, _⟩ _ _) (op_fieldAddr (off := 1) lb tf24_1 (.tmp (hl hd 19 23 rfl)))⟩)) ?_
      refine DSteps.cons (j := 22) rfl (fun _ => rfl) (.run (fun γ ρ B hb hd => ⟨.yes rfl (ltB rfl) (hl hd 10 14 rfl) hc5, OpStep.at ⟨ρ, (cvar gb_2 r_api_Event t_1) :: B, _⟩ (setO ⟨ρ, (cvar gb_2 r_api_Event t_1) :: B, _⟩ _ _) (op_loadS (j := 0) lb tS22 (.tmp (hl hd 20 24 rfl)) rfl (Comp.trans (Comp.trans (Comp.self r_api_Event t_1) (comp_api_Event_ID t_1) (Nat.le_of_ble_eq_true rfl)) (comp_api_Dot_Count t_1.ID) (Nat.le_of_ble_eq_true rfl)) rfl rfl)⟩)) ?_
      refine DSteps.cons (j := 23) rfl (fun _ => rfl) (.run (fun γ ρ B hb hd => ⟨.yes rfl (ltB rfl) (hl hd 10 14 rfl) hc5, OpStep.at ⟨ρ, B, _⟩ (setO ⟨ρ, B, _⟩ _ _) (op_cmpU lb (.tmp (hl hd 18 22 rfl)) (.tmp (hl hd 21 25 rfl)) (congrArg some hv_v_11))⟩)) ?_
      refine dS 24 (fun γ ρ B hb hd => op_pickF lb (.tmp (hl hd 10 14 rfl)) hc5 (.tmp (hl hd 22 26 rfl))) ?_
      refine dS 25 (fun γ ρ B hb hd => op_move lb (.tmp (hl hd 23 27 rfl))) ?_
      refine DSteps.cons (j := 26) rfl (fun _ => rfl) (.run (fun γ ρ B hb hd => ⟨.yes rfl (ltB rfl) (hl hd 24 28 rfl) hc7, OpStep.at ⟨ρ, B, _⟩ (setO ⟨ρ, B, _⟩ _ _) (op_fieldAddr (off := 2) lb tf38_1 (.tmp (hb 1 _ rfl)))⟩)) ?_
      refine DSteps.cons (j := 27) rfl (fun _ => rfl) (.run (fun γ ρ B hb hd => ⟨.yes rfl (ltB rfl) (hl hd 24 28 rfl) hc7, OpStep.at ⟨ρ, (cvar gb_2 r_api_Event t_1) :: B, _⟩ (setO ⟨ρ, (cvar gb_2 r_api_Event t_1) :: B, _⟩ _ _) (op_loadS (j := 0) lb tS9 (.tmp (hl hd 25 29 rfl)) rfl (Comp.trans (Comp.self r_api_Event t_1) (comp_api_Event_Topic t_1) (Nat.le_of_ble_eq_true rfl)) rfl rfl)⟩)) ?_
      refine DSteps.cons (j := 28) rfl (fun _ => rfl) (.run (fun γ ρ B hb hd => ⟨.yes rfl (ltB rfl) (hl hd 24 28 rfl) hc7, OpStep.at ⟨ρ, B, _⟩ (setO ⟨ρ, B, _⟩ _ _) ((op_call (js := []) ld cl11 (sim_ref09_MayName k t_1.Topic v_12 hv_v_12) .func (.cons (.tmp (hl hd 26 30 rfl)) .nil) rfl).post (fun _ => Imp.refl))⟩)) ?_
      refine DSteps.cons (j := 29) rfl (fun _ => rfl) (.run (fun γ ρ B hb hd => ⟨.yes rfl (ltB rfl) (hl hd 24 28 rfl) hc7, OpStep.at ⟨ρ, B, _⟩ (setO ⟨ρ, B, _⟩ _ _) (op_not lb (.tmp (hl hd 27 31 rfl)) hv_v_13)⟩)) ?_
      refine dS 30 (fun γ ρ B hb hd => op_pickF lb (.tmp (hl hd 24 28 rfl)) hc7 (.tmp (hl hd 28 32 rfl))) ?_
      refine dS 31 (fun γ ρ B hb hd => op_move lb (.tmp (hl hd 29 33 rfl))) ?_
      refine DSteps.cons (j := 32) rfl (fun _ => rfl) (.skip (fun γ ρ B hb hd => ⟨.no rfl (ltB rfl) (hl hd 30 34 rfl) hc9, rfl, rfl, rfl, fun d h => by cases h; exact ltB rfl⟩)) ?_
      refine DSteps.cons (j := 33) rfl (fun _ => rfl) (.skip (fun γ ρ B hb hd => ⟨.no rfl (ltB rfl) (hl hd 30 34 rfl) hc9, rfl, rfl, rfl, fun d h => by cases h; exact ltB rfl⟩)) ?_
      refine DSteps.cons (j := 34) rfl (fun _ => rfl) (.skip (fun γ ρ B hb hd => ⟨.no rfl (ltB rfl) (hl hd 30 34 rfl) hc9, rfl, rfl, rfl, fun d h => by cases h; exact ltB rfl⟩)) ?_
      refine DSteps.cons (j := 35) rfl (fun _ => rfl) (.skip (fun γ ρ B hb hd => ⟨.no rfl (ltB rfl) (hl hd 30 34 rfl) hc9, rfl, rfl, rfl, fun d h => by cases h; exact ltB rfl⟩)) ?_
      refine dS 36 (fun γ ρ B hb hd => op_pickT lb (.tmp (hl hd 30 34 rfl)) hc9 .cB) ?_
      refine dS 37 (fun γ ρ B hb hd => op_move lb (.tmp (hl hd 35 39 rfl))) ?_
      refine DSteps.cons (j := 38) rfl (fun _ => rfl) (.skip (fun γ ρ B hb hd => ⟨.no rfl (ltB rfl) (hl hd 36 40 rfl) rfl, rfl, rfl, rfl, fun d h => by cases h; exact ltB rfl⟩)) ?_
      refine DSteps.cons (j := 39) rfl (fun _ => rfl) (.skip (fun γ ρ B hb hd => ⟨.no rfl (ltB rfl) (hl hd 36 40 rfl) rfl, rfl, rfl, rfl, fun d h => by cases h; exact ltB rfl⟩)) ?_
      refine DSteps.cons (j := 40) rfl (fun _ => rfl) (.skip (fun γ ρ B hb hd => ⟨.no rfl (ltB rfl) (hl hd 36 40 rfl) rfl, rfl, rfl, rfl, fun d h => by cases h; exact ltB rfl⟩)) ?_
      refine DSteps.cons (j := 41) rfl (fun _ => rfl) (.skip (fun γ ρ B hb hd => ⟨.no rfl (ltB rfl) (hl hd 36 40 rfl) rfl, rfl, rfl, rfl, fun d h => by cases h; exact ltB rfl⟩)) ?_
      refine dS 42 (fun γ ρ B hb hd => op_pickT lb (.tmp (hl hd 36 40 rfl)) rfl .cB) ?_
      exact DSteps.nil)
               (by decide +kernel) (fun _ => rfl) rfl (fun _ => rfl) (fun _ => rfl) rfl (by decide) (by decide) (by decide +kernel) (fun _ d h => by cases h)
               (ρ' := fun γ => [(1, ov (PTR gb_2 0)), (45, ov (S rB true))])
               (X' := fun γ => [cvar gb_2 r_api_Event t_1])
               (fun γ ρ hb hd => (.cons (hb 1 _ rfl (by decide)) (.cons (hdq hd 41 45 rfl) .nil))) (fun _ => rfl) (fun γ => ?_)
           refine JQ.at ⟨[(1, ov (PTR gb_2 0)), (45, ov (S rB true))], [cvar gb_2 r_api_Event t_1], []⟩ ?_
           replace hx1 := Option.some.inj hx1
           first | subst hx1 | clear hx1
           exact JQ.join () (Imp.norm (js := [0]) rfl (.cons rfl (.cons rfl .nil)))
         · replace hx1 := lt1_inv hx1
           obtain ⟨v_14, hv_v_14, hx1⟩ := hx1
           replace hx1 := iteB_inv hx1
           rcases hx1 with ⟨hc11, hx1⟩ | ⟨hc11, hx1⟩
           · refine JC.anyE (kl := []) (kk := 0) (base := [(1, ov (PTR gb_2 0))])
                 (fs := fun γ => [⟨some 4, ov (PTR gb_2 (0 + 0))⟩, ⟨some 5, ov (A r_api_Dot t_1.ID)⟩, ⟨some 6, ov (S rB v_3)⟩, ⟨some 7, ov (S rB v_4)⟩, ⟨some 8, ov (S rB v_4)⟩, ⟨some 9, ov (PTR gb_2 (0 + 4))⟩, ⟨some 10, ov (A (rV 16 (rU UInt64)) t_1.Past)⟩, ⟨some 11, ov (S rB v_5)⟩, ⟨some 12, ov (S rB v_6)⟩, ⟨some 13, ov (S rB v_6)⟩, ⟨some 14, ov (S rB v_6)⟩, ⟨some 15, ov (PTR gb_2 (0 + 0))⟩, ⟨some 16, ov (PTR gb_2 ((0 + 0) + 0))⟩, ⟨some 17, ov (S (rI .i64) t_1.ID.Region)⟩, ⟨some 18, ov (S (rI .i64) v_7)⟩, ⟨some 19, ov (PTR gb_2 (0 + 4))⟩, ⟨some 20, ov (PTR gb_2 ((0 + 4) + i_8.1 * 1))⟩, ⟨some 21, ov (S (rU UInt64) v_9)⟩, ⟨some 22, ov (S (rU UInt64) v_10)⟩, ⟨some 23, ov (PTR gb_2 (0 + 0))⟩, ⟨some 24, ov (PTR gb_2 ((0 + 0) + 1))⟩, ⟨some 25, ov (S (rU UInt64) t_1.ID.Count)⟩, ⟨some 26, ov (S rB v_11)⟩, ⟨some 27, ov (S rB v_11)⟩, ⟨some 28, ov (S rB v_11)⟩, ⟨some 29, ov (PTR gb_2 (0 + 2))⟩, ⟨some 30, ov (S rS t_1.Topic)⟩, ⟨some 31, ov (S rB v_12)⟩, ⟨some 32, ov (S rB v_13)⟩, ⟨some 33, ov (S rB v_13)⟩, ⟨some 34, ov (S rB v_13)⟩, ⟨some 35, ov (PTR gb_2 (0 + 3))⟩, ⟨some 36, ov (S (rL (rU UInt8)) t_1.Payload)⟩, ⟨some 37, ov (S (rI .i64) (List.length t_1.Payload : Int))⟩, ⟨some 38, ov (S rB v_14)⟩, ⟨some 39, ov (S rB v_14)⟩, ⟨some 40, ov (S rB v_14)⟩, ⟨some 41, .one .und⟩, ⟨some 42, .one .und⟩, ⟨some 43, .one .und⟩, ⟨some 44, .one .und⟩, ⟨some 45, ov (S rB true)⟩])
                 (rs := fun γ => [⟨cvar gb_2 r_api_Event t_1, none, none, [1, 6, 13, 17, 21, 26, 32]⟩])
                 (ds := [4, 5, 6, 7, 8, 9, 10, 11, 12, 13, 14, 15, 16, 17, 18, 19, 20, 21, 22, 23, 24, 25, 26, 27, 28, 29, 30, 31, 32, 33, 34, 35, 36, 37, 38, 39, 40, 41, 42, 43, 44, 45]) (bs := [1]) (afts := [[], [], [], [], [], [], [], [], [], [], [], [], [], [], [], [], [], [], [], [], [], [], [], [], [], [], [], [], [], [], [], [], [], [], [], [], [], [], [], [], [], []]) (js := [0]) mixed (.cons rfl .nil) (fun _ => rfl)
                 (by
      refine dS 1 (fun γ ρ B hb hd => op_fieldAddr (off := 0) lb tf38_0 (.tmp (hb 1 _ rfl))) ?_
      refine DSteps.cons (j := 2) rfl (fun _ => rfl) (.run (fun γ ρ B hb hd => ⟨.none, OpStep.at ⟨ρ, (cvar gb_2 r_api_Event t_1) :: B, _⟩ (setO ⟨ρ, (cvar gb_2 r_api_Event t_1) :: B, _⟩ _ _) (op_loadA (j := 0) lb tA24 (.tmp (hl hd 0 4 rfl)) rfl (Comp.trans (Comp.self r_api_Event t_1) (comp_api_Event_ID t_1) (Nat.le_of_ble_eq_true rfl)) rfl)⟩)) ?_
      refine dS 3 (fun γ ρ B hb hd => (op_call (js := []) ld cl31 (sim_ref09_MayDot k t_1.ID v_3 hv_v_3) .func (.cons (.tmp (hl hd 1 5 rfl)) .nil) rfl).post (fun _ => Imp.refl)) ?_
      refine dS 4 (fun γ ρ B hb hd => op_not lb (.tmp (hl hd 2 6 rfl)) hv_v_4) ?_
      refine dS 5 (fun γ ρ B hb hd => op_move lb (.tmp (hl hd 3 7 rfl))) ?_
      refine DSteps.cons (j := 6) rfl (fun _ => rfl) (.run (fun γ ρ B hb hd => ⟨.yes rfl (ltB rfl) (hl hd 4 8 rfl) hc3, OpStep.at ⟨ρ, B, _⟩ (setO ⟨ρ, B, _⟩ _ _) (op_fieldAddr (off := 4) lb tf38_3 (.tmp (hb 1 _ rfl)))⟩)) ?_
      refine DSteps.cons (j := 7) rfl (fun _ => rfl) (.run (fun γ ρ B hb hd => ⟨.yes rfl (ltB rfl) (hl hd 4 8 rfl) hc3, OpStep.at ⟨ρ, (cvar gb_2 r_api_Event t_1) :: B, _⟩ (setO ⟨ρ, (cvar gb_2 r_api_Event t_1) :: B, _⟩ _ _) (op_loadA (j := 0) lb tA26 (.tmp (hl hd 5 9 rfl)) rfl (Comp.trans (Comp.self r_api_Event t_1) (comp_api_Event_Past t_1) (Nat.le_of_ble_eq_true rfl)) rfl)⟩)) ?_
      refine DSteps.cons (j := 8) rfl (fun _ => rfl) (.run (fun γ ρ B hb hd => ⟨.yes rfl (ltB rfl) (hl hd 4 8 rfl) hc3, OpStep.at ⟨ρ, B, _⟩ (setO ⟨ρ, B, _⟩ _ _) ((op_call (js := []) ld cl12 (sim_ref09_MayVector k t_1.Past v_5 hv_v_5) .func (.cons (.tmp (hl hd 6 10 rfl)) .nil) rfl).post (fun _ => Imp.refl))⟩)) ?_
      refine DSteps.cons (j := 9) rfl (fun _ => rfl) (.run (fun γ ρ B hb hd => ⟨.yes rfl (ltB rfl) (hl hd 4 8 rfl) hc3, OpStep.at ⟨ρ, B, _⟩ (setO ⟨ρ, B, _⟩ _ _) (op_not lb (.tmp (hl hd 7 11 rfl)) hv_v_6)⟩)) ?_
      refine dS 10 (fun γ ρ B hb hd => op_pickF lb (.tmp (hl hd 4 8 rfl)) hc3 (.tmp (hl hd 8 12 rfl))) ?_
      refine dS 11 (fun γ ρ B hb hd => op_move lb (.tmp (hl hd 9 13 rfl))) ?_
      refine DSteps.cons (j := 12) rfl (fun _ => rfl) (.run (fun γ ρ B hb hd => ⟨.yes rfl (ltB rfl) (hl hd 10 14 rfl) hc5, OpStep.at ⟨ρ, B, _⟩ (setO ⟨ρ, B, _⟩ _ _) (op_fieldAddr (off := 0) lb tf38_0 (.tmp (hb 1 _ rfl)))⟩)) ?_
      refine DSteps.cons (j := 13) rfl (fun _ => rfl) (.run (fun γ ρ B hb hd => ⟨.yes rfl (ltB rfl) (hl hd 10 14 rfl) hc5, OpStep.at ⟨ρ, B, _⟩ (setO ⟨ρ, B, _⟩ _ _) (op_fieldAddr (off := 0) lb tf24_0 (.tmp (hl hd 11 15 rfl)))⟩)) ?_
      refine DSteps.cons (j := 14) rfl (fun _ => rfl) (.run (fun γ ρ B hb hd => ⟨.yes rfl (ltB rfl) (hl hd 10 14 rfl) hc5, OpStep.at ⟨ρ, (cvar gb_2 r_api_Event t_1) :: B, _⟩ (setO ⟨ρ, (cvar gb_2 r_api_Event t_1) :: B, _⟩ _ _) (op_loadS (j := 0) lb tS3 (.tmp (hl hd 12 16 rfl)) rfl (Comp.trans (Comp.trans (Comp.self r_api_Event t_1) (comp_api_Event_ID t_1) (Nat.le_of_ble_eq_true rfl)) (comp_api_Dot_Region t_1.ID) (Nat.le_of_ble_eq_true rfl)) rfl rfl)⟩)) ?_
      refine DSteps.cons (j := 15) rfl (fun _ => rfl) (.run (fun γ ρ B hb hd => ⟨.yes rfl (ltB rfl) (hl hd 10 14 rfl) hc5, OpStep.at ⟨ρ, B, _⟩ (setO ⟨ρ, B, _⟩ _ _) (op_arI lb (.tmp (hl hd 13 17 rfl)) .cI (congrArg some hv_v_7))⟩)) ?_
      refine DSteps.cons (j := 16) rfl (fun _ => rfl) (.run (fun γ ρ B hb hd => ⟨.yes rfl (ltB rfl) (hl hd 10 14 rfl) hc5, OpStep.at ⟨ρ, B, _⟩ (setO ⟨ρ, B, _⟩ _ _) (op_fieldAddr (off := 4) lb tf38_3 (.tmp (hb 1 _ rfl)))⟩)) ?_
      refine DSteps.cons (j := 17) rfl (fun _ => rfl) (.run (fun γ ρ B hb hd => ⟨.yes rfl (ltB rfl) (hl hd 10 14 rfl) hc5, OpStep.at ⟨ρ, B, _⟩ (setO ⟨ρ, B, _⟩ _ _) (op_indexAddrIF lb tr26 (.tmp (hl hd 15 19 rfl)) (.tmp (hl hd 14 18 rfl)) hv_i_8)⟩)) ?_
      refine DSteps.cons (j := 18) rfl (fun _ => rfl) (.run (fun γ ρ B hb hd => ⟨.yes rfl (ltB rfl) (hl hd 10 14 rfl) hc5, OpStep.at ⟨ρ, (cvar gb_2 r_api_Event t_1) :: B, _⟩ (setO ⟨ρ, (cvar gb_2 r_api_Event t_1) :: B, _⟩ _ _) (op_loadS (j := 0) lb tS22 (.tmp (hl hd 16 20 rfl)) rfl (Comp.at (Comp.trans (Comp.self r_api_Event t_1) (comp_api_Event_Past t_1) (Nat.le_of_ble_eq_true rfl)) i_8.2 rfl) rfl hv_v_9)⟩)) ?_
      refine DSteps.cons (j := 19) rfl (fun _ => rfl) (.run (fun γ ρ B hb hd => ⟨.yes rfl (ltB rfl) (hl hd 10 14 rfl) hc5, OpStep.at ⟨ρ, B, _⟩ (setO ⟨ρ, B, _⟩ _ _) (op_arU lb (.tmp (hl hd 17 21 rfl)) (HasO.cU (x := (1 : UInt64)) rfl (by decide)) (congrArg some hv_v_10))⟩)) ?_
      refine DSteps.cons (j := 20) rfl (fun _ => rfl) (.run (fun γ ρ B hb hd => ⟨.yes rfl (ltB rfl) (hl hd 10 14 rfl) hc5, OpStep.at ⟨ρ, B, _⟩ (setO ⟨ρ, B, _⟩ _ _) (op_fieldAddr (off := 0) lb tf38_0 (.tmp (hb 1 _ rfl)))⟩)) ?_
      refine DSteps.cons (j := 21) rfl (fun _ => rfl) (.run (fun γ ρ B hb hd => ⟨.yes rfl (ltB rfl) (hl hd 10 14 rfl) hc5, OpStep.at ⟨ρ, B, _⟩ (setO ⟨ρ, B, _⟩ _ _) (op_fieldAddr (off := 1) lb tf24_1 (.tmp (hl hd 19 23 rfl)))⟩)) ?_
      refine DSteps.cons (j := 22) rfl (fun _ => rfl) (.run (fun γ ρ B hb hd => ⟨.yes rfl (ltB rfl) (hl hd 10 14 rfl) hc5, OpStep.at ⟨ρ, (cvar gb_2 r_api_Event t_1) :: B, _⟩ (setO ⟨ρ, (cvar gb_2 r_api_Event t_1) :: B, _⟩ _ _) (op_loadS (j := 0) lb tS22 (.tmp (hl hd 20 24 rfl)) rfl (Comp.trans (Comp.trans (Comp.self r_api_Event t_1) (comp_api_Event_ID t_1) (Nat.le_of_ble_eq_true rfl)) (comp_api_Dot_Count t_1.ID) (Nat.le_of_ble_eq_true rfl)) rfl rfl)⟩)) ?_
      refine DSteps.cons (j := 23) rfl (fun _ => rfl) (.run (fun γ ρ B hb hd => ⟨.yes rfl (ltB rfl) (hl hd 10 14 rfl) hc5, OpStep.at ⟨ρ, B, _⟩ (setO ⟨ρ, B, _⟩ _ _) (op_cmpU lb (.tmp (hl hd 18 22 rfl)) (.tmp (hl hd 21 25 rfl)) (congrArg some hv_v_11))⟩)) ?_
      refine dS 24 (fun γ ρ B hb hd => op_pickF lb (.tmp (hl hd 10 14 rfl)) hc5 (.tmp (hl hd 22 26 rfl))) ?_
      refine dS 25 (fun γ ρ B hb hd => op_move lb (.tmp (hl hd 23 27 rfl))) ?_
      refine DSteps.cons (j := 26) rfl (fun _ => rfl) (.run (fun γ ρ B hb hd => ⟨.yes rfl (ltB rfl) (hl hd 24 28 rfl) hc7, OpStep.at ⟨ρ, B, _⟩ (setO ⟨ρ, B, _⟩ _ _) (op_fieldAddr (off := 2) lb tf38_1 (.tmp (hb 1 _ rfl)))⟩)) ?_
      refine DSteps.cons (j := 27) rfl (fun _ => rfl) (.run (fun γ ρ B hb hd => ⟨.yes rfl (ltB rfl) (hl hd 24 28 rfl) hc7, OpStep.at ⟨ρ, (cvar gb_2 r_api_Event t_1) :: B, _⟩ (setO ⟨ρ, (cvar gb_2 r_api_Event t_1) :: B, _⟩ _ _) (op_loadS (j := 0) lb tS9 (.tmp (hl hd 25 29 rfl)) rfl (Comp.trans (Comp.self r_api_Event t_1) (comp_api_Event_Topic t_1) (Nat.le_of_ble_eq_true rfl)) rfl rfl)⟩)) ?_
      refine DSteps.cons (j := 28) rfl (fun _ => rfl) (.run (fun γ ρ B hb hd => ⟨.yes rfl (ltB rfl) (hl hd 24 28 rfl) hc7, OpStep.at ⟨ρ, B, _⟩ (setO ⟨ρ, B, _⟩ _ _) ((op_call (js := []) ld cl11 (sim_ref09_MayName k t_1.Topic v_12 hv_v_12) .func (.cons (.tmp (hl hd 26 30 rfl)) .nil) rfl).post (fun _ => Imp.refl))⟩)) ?_
      refine DSteps.cons (j := 29) rfl (fun _ => rfl) (.run (fun γ ρ B hb hd => ⟨.yes rfl (ltB rfl) (hl hd 24 28 rfl) hc7, OpStep.at ⟨ρ, B, _⟩ (setO ⟨ρ, B, _⟩ _ _) (op_not lb (.tmp (hl hd 27 31 rfl)) hv_v_13)⟩)) ?_
      refine dS 30 (fun γ ρ B hb hd => op_pickF lb (.tmp (hl hd 24 28 rfl)) hc7 (.tmp (hl hd 28 32 rfl))) ?_
      refine dS 31 (fun γ ρ B hb hd => op_move lb (.tmp (hl hd 29 33 rfl))) ?_
      refine DSteps.cons (j := 32) rfl (fun _ => rfl) (.run (fun γ ρ B hb hd => ⟨.yes rfl (ltB rfl) (hl hd 30 34 rfl) hc9, OpStep.at ⟨ρ, B, _⟩ (setO ⟨ρ, B, _⟩ _ _) (op_fieldAddr (off := 3) lb tf38_2 (.tmp (hb 1 _ rfl)))⟩)) ?_
      refine DSteps.cons (j := 33) rfl (fun _ => rfl) (.run (fun γ ρ B hb hd => ⟨.yes rfl (ltB rfl) (hl hd 30 34 rfl) hc9, OpStep.at ⟨ρ, (cvar gb_2 r_api_Event t_1) :: B, _⟩ (setO ⟨ρ, (cvar gb_2 r_api_Event t_1) :: B, _⟩ _ _) (op_loadS (j := 0) lb tS35 (.tmp (hl hd 31 35 rfl)) rfl (Comp.trans (Comp.self r_api_Event t_1) (comp_api_Event_Payload t_1) (Nat.le_of_ble_eq_true rfl)) rfl rfl)⟩)) ?_
      refine DSteps.cons (j := 34) rfl (fun _ => rfl) (.run (fun γ ρ B hb hd => ⟨.yes rfl (ltB rfl) (hl hd 30 34 rfl) hc9, OpStep.at ⟨ρ, B, _⟩ (setO ⟨ρ, B, _⟩ _ _) (op_lenL lb tu35 (.tmp (hl hd 32 36 rfl)))⟩)) ?_
      refine DSteps.cons (j := 35) rfl (fun _ => rfl) (.run (fun γ ρ B hb hd => ⟨.yes rfl (ltB rfl) (hl hd 30 34 rfl) hc9, OpStep.at ⟨ρ, B, _⟩ (setO ⟨ρ, B, _⟩ _ _) (op_cmpI lb (.tmp (hl hd 33 37 rfl)) .cI (congrArg some hv_v_14))⟩)) ?_
      refine dS 36 (fun γ ρ B hb hd => op_pickF lb (.tmp (hl hd 30 34 rfl)) hc9 (.tmp (hl hd 34 38 rfl))) ?_
      refine dS 37 (fun γ ρ B hb hd => op_move lb (.tmp (hl hd 35 39 rfl))) ?_
      refine DSteps.cons (j := 38) rfl (fun _ => rfl) (.skip (fun γ ρ B hb hd => ⟨.no rfl (ltB rfl) (hl hd 36 40 rfl) hc11, rfl, rfl, rfl, fun d h => by cases h; exact ltB rfl⟩)) ?_
      refine DSteps.cons (j := 39) rfl (fun _ => rfl) (.skip (fun γ ρ B hb hd => ⟨.no rfl (ltB rfl) (hl hd 36 40 rfl) hc11, rfl, rfl, rfl, fun d h => by cases h; exact ltB rfl⟩)) ?_
      refine DSteps.cons (j := 40) rfl (fun _ => rfl) (.skip (fun γ ρ B hb hd => ⟨.no rfl (ltB rfl) (hl hd 36 40 rfl) hc11, rfl, rfl, rfl, fun d h => by cases h; exact ltB rfl⟩)) ?_
      refine DSteps.cons (j := 41) rfl (fun _ => rfl) (.skip (fun γ ρ B hb hd => ⟨.no rfl (ltB rfl) (hl hd 36 40 rfl) hc11, rfl, rfl, rfl, fun d h => by cases h; exact ltB rfl⟩)) ?_
      refine dS 42 (fun γ ρ B hb hd => op_pickT lb (.tmp (hl hd 36 40 rfl)) hc11 .cB) ?_
      exact DSteps.nil)
                 (by decide +kernel) (fun _ => rfl) rfl (fun _ => rfl) (fun _ => rfl) rfl (by decide) (by decide) (by decide +kernel) (fun _ d h => by cases h)
                 (ρ' := fun γ => [(1, ov (PTR gb_2 0)), (45, ov (S rB true))])
                 (X' := fun γ => [cvar gb_2 r_api_Event t_1])
                 (fun γ ρ hb hd => (.cons (hb 1 _ rfl (by decide)) (.cons (hdq hd 41 45 rfl) .nil))) (fun _ => rfl) (fun γ => ?_)
             refine JQ.at ⟨[(1, ov (PTR gb_2 0)), (45, ov (S rB true))], [cvar gb_2 r_api_Event t_1], []⟩ ?_
             replace hx1 := Option.some.inj hx1
             first | subst hx1 | clear hx1
             exact JQ.join () (Imp.norm (js := [0]) rfl (.cons rfl (.cons rfl .nil)))
           · replace hx1 := lt1_inv hx1
             obtain ⟨v_15, hv_v_15, hx1⟩ := hx1
             refine JC.anyE (kl := []) (kk := 0) (base := [(1, ov (PTR gb_2 0))])
                 (fs := fun γ => [⟨some 4, ov (PTR gb_2 (0 + 0))⟩, ⟨some 5, ov (A r_api_Dot t_1.ID)⟩, ⟨some 6, ov (S rB v_3)⟩, ⟨some 7, ov (S rB v_4)⟩, ⟨some 8, ov (S rB v_4)⟩, ⟨some 9, ov (PTR gb_2 (0 + 4))⟩, ⟨some 10, ov (A (rV 16 (rU UInt64)) t_1.Past)⟩, ⟨some 11, ov (S rB v_5)⟩, ⟨some 12, ov (S rB v_6)⟩, ⟨some 13, ov (S rB v_6)⟩, ⟨some 14, ov (S rB v_6)⟩, ⟨some 15, ov (PTR gb_2 (0 + 0))⟩, ⟨some 16, ov (PTR gb_2 ((0 + 0) + 0))⟩, ⟨some 17, ov (S (rI .i64) t_1.ID.Region)⟩, ⟨some 18, ov (S (rI .i64) v_7)⟩, ⟨some 19, ov (PTR gb_2 (0 + 4))⟩, ⟨some 20, ov (PTR gb_2 ((0 + 4) + i_8.1 * 1))⟩, ⟨some 21, ov (S (rU UInt64) v_9)⟩, ⟨some 22, ov (S (rU UInt64) v_10)⟩, ⟨some 23, ov (PTR gb_2 (0 + 0))⟩, ⟨some 24, ov (PTR gb_2 ((0 + 0) + 1))⟩, ⟨some 25, ov (S (rU UInt64) t_1.ID.Count)⟩, ⟨some 26, ov (S rB v_11)⟩, ⟨some 27, ov (S rB v_11)⟩, ⟨some 28, ov (S rB v_11)⟩, ⟨some 29, ov (PTR gb_2 (0 + 2))⟩, ⟨some 30, ov (S rS t_1.Topic)⟩, ⟨some 31, ov (S rB v_12)⟩, ⟨some 32, ov (S rB v_13)⟩, ⟨some 33, ov (S rB v_13)⟩, ⟨some 34, ov (S rB v_13)⟩, ⟨some 35, ov (PTR gb_2 (0 + 3))⟩, ⟨some 36, ov (S (rL (rU UInt8)) t_1.Payload)⟩, ⟨some 37, ov (S (rI .i64) (List.length t_1.Payload : Int))⟩, ⟨some 38, ov (S rB v_14)⟩, ⟨some 39, ov (S rB v_14)⟩, ⟨some 40, ov (S rB v_14)⟩, ⟨some 41, ov (PTR gb_2 (0 + 20))⟩, ⟨some 42, ov (S (rL r_api_Dest) t_1.To)⟩, ⟨some 43, ov (S (rI .i64) (List.length t_1.To : Int))⟩, ⟨some 44, ov (S rB v_15)⟩, ⟨some 45, ov (S rB v_15)⟩])
                 (rs := fun γ => [⟨cvar gb_2 r_api_Event t_1, none, none, [1, 6, 13, 17, 21, 26, 32, 38]⟩])
                 (ds := [4, 5, 6, 7, 8, 9, 10, 11, 12, 13, 14, 15, 16, 17, 18, 19, 20, 21, 22, 23, 24, 25, 26, 27, 28, 29, 30, 31, 32, 33, 34, 35, 36, 37, 38, 39, 40, 41, 42, 43, 44, 45]) (bs := [1]) (afts := [[], [], [], [], [], [], [], [], [], [], [], [], [], [], [], [], [], [], [], [], [], [], [], [], [], [], [], [], [], [], [], [], [], [], [], [], [], [], [], [], [], []]) (js := [0]) mixed (.cons rfl .nil) (fun _ => rfl)
                 (by
      refine dS 1 (fun γ ρ B hb hd => op_fieldAddr (off := 0) lb tf38_0 (.tmp (hb 1 _ rfl))) ?_
      refine DSteps.cons (j := 2) rfl (fun _ => rfl) (.run (fun γ ρ B hb hd => ⟨.none, OpStep.at ⟨ρ, (cvar gb_2 r_api_Event t_1) :: B, _⟩ (setO ⟨ρ, (cvar gb_2 r_api_Event t_1) :: B, _⟩ _ _) (op_loadA (j := 0) lb tA24 (.tmp (hl hd 0 4 rfl)) rfl (Comp.trans (Comp.self r_api_Event t_1) (comp_api_Event_ID t_1) (Nat.le_of_ble_eq_true rfl)) rfl)⟩)) ?_
      refine dS 3 (fun γ ρ B hb hd => (op_call (js := []) ld cl31 (sim_ref09_MayDot k t_1.ID v_3 hv_v_3) .func (.cons (.tmp (hl hd 1 5 rfl)) .nil) rfl).post (fun _ => Imp.refl)) ?_
      refine dS 4 (fun γ ρ B hb hd => op_not lb (.tmp (hl hd 2 6 rfl)) hv_v_4) ?_
      refine dS 5 (fun γ ρ B hb hd => op_move lb (.tmp (hl hd 3 7 rfl))) ?_
      refine DSteps.cons (j := 6) rfl (fun _ => rfl) (.run (fun γ ρ B hb hd => ⟨.yes rfl (ltB rfl) (hl hd 4 8 rfl) hc3, OpStep.at ⟨ρ, B, _⟩ (setO ⟨ρ, B, _⟩ _ _) (op_fieldAddr (off := 4) lb tf38_3 (.tmp (hb 1 _ rfl)))⟩)) ?_
      refine DSteps.cons (j := 7) rfl (fun _ => rfl) (.run (fun γ ρ B hb hd => ⟨.yes rfl (ltB rfl) (hl hd 4 8 rfl) hc3, OpStep.at ⟨ρ, (cvar gb_2 r_api_Event t_1) :: B, _⟩ (setO ⟨ρ, (cvar gb_2 r_api_Event t_1) :: B, _⟩ _ _) (op_loadA (j := 0) lb tA26 (.tmp (hl hd 5 9 rfl)) rfl (Comp.trans (Comp.self r_api_Event t_1) (comp_api_Event_Past t_1) (Nat.le_of_ble_eq_true rfl)) rfl)⟩)) ?_
      refine DSteps.cons (j := 8) rfl (fun _ => rfl) (.run (fun γ ρ B hb hd => ⟨.yes rfl (ltB rfl) (hl hd 4 8 rfl) hc3, OpStep.at ⟨ρ, B, _⟩ (setO ⟨ρ, B, _⟩ _ _) ((op_call (js := []) ld cl12 (sim_ref09_MayVector k t_1.Past v_5 hv_v_5) .func (.cons (.tmp (hl hd 6 10 rfl)) .nil) rfl).post (fun _ => Imp.refl))⟩)) ?_
      refine DSteps.cons (j := 9) rfl (fun _ => rfl) (.run (fun γ ρ B hb hd => ⟨.yes rfl (ltB rfl) (hl hd 4 8 rfl) hc3, OpStep.at ⟨ρ, B, _⟩ (setO ⟨ρ, B, _⟩ _ _) (op_not lb (.tmp (hl hd 7 11 rfl)) hv_v_6)⟩)) ?_
      refine dS 10 (fun γ ρ B hb hd => op_pickF lb (.tmp (hl hd 4 8 rfl)) hc3 (.tmp (hl hd 8 12 rfl))) ?_
      refine dS 11 (fun γ ρ B hb hd => op_move lb (.tmp (hl hd 9 13 rfl))) ?_
      refine DSteps.cons (j := 12) rfl (fun _ => rfl) (.run (fun γ ρ B hb hd => ⟨.yes rfl (ltB rfl) (hl hd 10 14 rfl) hc5, OpStep.at ⟨ρ, B, _⟩ (setO ⟨ρ, B, _⟩ _ _) (op_fieldAddr (off := 0) lb tf38_0 (.tmp (hb 1 _ rfl)))⟩)) ?_
      refine DSteps.cons (j := 13) rfl (fun _ => rfl) (.run (fun γ ρ B hb hd => ⟨.yes rfl (ltB rfl) (hl hd 10 14 rfl) hc5, OpStep.at ⟨ρ, B, _⟩ (setO ⟨ρ, B, _⟩ _ _) (op_fieldAddr (off := 0) lb tf24_0 (.tmp (hl hd 11 15 rfl)))⟩)) ?_
      refine DSteps.cons (j := 14) rfl (fun _ => rfl) (.run (fun γ ρ B hb hd => ⟨.yes rfl (ltB rfl) (hl hd 10 14 rfl) hc5, OpStep.at ⟨ρ, (cvar gb_2 r_api_Event t_1) :: B, _⟩ (setO ⟨ρ, (cvar gb_2 r_api_Event t_1) :: B, _⟩ _ _) (op_loadS (j := 0) lb tS3 (.tmp (hl hd 12 16 rfl)) rfl (Comp.trans (Comp.trans (Comp.self r_api_Event t_1) (comp_api_Event_ID t_1) (Nat.le_of_ble_eq_true rfl)) (comp_api_Dot_Region t_1.ID) (Nat.le_of_ble_eq_true rfl)) rfl rfl)⟩)) ?_
      refine DSteps.cons (j := 15) rfl (fun _ => rfl) (.run (fun γ ρ B hb hd => ⟨.yes rfl (ltB rfl) (hl hd 10 14 rfl) hc5, OpStep.at ⟨ρ, B, _⟩ (setO ⟨ρ, B, _⟩ _ _) (op_arI lb (.tmp (hl hd 13 17 rfl)) .cI (congrArg some hv_v_7))⟩)) ?_
      refine DSteps.cons (j := 16) rfl (fun _ => rfl) (.run (fun γ ρ B hb hd => ⟨.yes rfl (ltB rfl) (hl hd 10 14 rfl) hc5, OpStep.at ⟨ρ, B, _⟩ (setO ⟨ρ, B, _⟩ _ _) (op_fieldAddr (off := 4) lb tf38_3 (.tmp (hb 1 _ rfl)))⟩)) ?_
      refine DSteps.cons (j := 17) rfl (fun _ => rfl) (.run (fun γ ρ B hb hd => ⟨.yes rfl (ltB rfl) (hl hd 10 14 rfl) hc5, OpStep.at ⟨ρ, B, _⟩ (setO ⟨ρ, B, _⟩ _ _) (op_indexAddrIF lb tr26 (.tmp (hl hd 15 19 rfl)) (.tmp (hl hd 14 18 rfl)) hv_i_8)⟩)) ?_
      refine DSteps.cons (j := 18) rfl (fun _ => rfl) (.run (fun γ ρ B hb hd => ⟨.yes rfl (ltB rfl) (hl hd 10 14 rfl) hc5, OpStep.at ⟨ρ, (cvar gb_2 r_api_Event t_1) :: B, _⟩ (setO ⟨ρ, (cvar gb_2 r_api_Event t_1) :: B, _⟩ _ _) (op_loadS (j := 0) lb tS22 (.tmp (hl hd 16 20 rfl)) rfl (Comp.at (Comp.trans (Comp.self r_api_Event t_1) (comp_api_Event_Past t_1) (Nat.le_of_ble_eq_true rfl)) i_8.2 rfl) rfl hv_v_9)⟩)) ?_
      refine DSteps.cons (j := 19) rfl (fun _ => rfl) (.run (fun γ ρ B hb hd => ⟨.yes rfl (ltB rfl) (hl hd 10 14 rfl) hc5, OpStep.at ⟨ρ, B, _⟩ (setO ⟨ρ, B, _⟩ _ _) (op_arU lb (.tmp (hl hd 17 21 rfl)) (HasO.cU (x := (1 : UInt64)) rfl (by decide)) (congrArg some hv_v_10))⟩)) ?_
      refine DSteps.cons (j := 20) rfl (fun _ => rfl) (.run (fun γ ρ B hb hd => ⟨.yes rfl (ltB rfl) (hl hd 10 14 rfl) hc5, OpStep.at ⟨ρ, B, _⟩ (setO ⟨ρ, B, _⟩ _ _) (op_fieldAddr (off := 0) lb tf38_0 (.tmp (hb 1 _ rfl)))⟩)) ?_
      refine DSteps.cons (j := 21) rfl (fun _ => rfl) (.run (fun γ ρ B hb hd => ⟨.yes rfl (ltB rfl) (hl hd 10 14 rfl) hc5, OpStep.at ⟨ρ, B, _⟩ (setO ⟨ρ, B, _⟩ _ _) (op_fieldAddr (off := 1) lb tf24_1 (.tmp (hl hd 19 23 rfl)))⟩)) ?_
      refine DSteps.cons (j := 22) rfl (fun _ => rfl) (.run (fun γ ρ B hb hd => ⟨.yes rfl (ltB rfl) (hl hd 10 14 rfl) hc5, OpStep.at ⟨ρ, (cvar gb_2 r_api_Event t_1) :: B, _⟩ (setO ⟨ρ, (cvar gb_2 r_api_Event t_1) :: B, _⟩ _ _) (op_loadS (j := 0) lb tS22 (.tmp (hl hd 20 24 rfl)) rfl (Comp.trans (Comp.trans (Comp.self r_api_Event t_1) (comp_api_Event_ID t_1) (Nat.le_of_ble_eq_true rfl)) (comp_api_Dot_Count t_1.ID) (Nat.le_of_ble_eq_true rfl)) rfl rfl)⟩)) ?_
      refine DSteps.cons (j := 23) rfl (fun _ => rfl) (.run (fun γ ρ B hb hd => ⟨.yes rfl (ltB rfl) (hl hd 10 14 rfl) hc5, OpStep.at ⟨ρ, B, _⟩ (setO ⟨ρ, B, _⟩ _ _) (op_cmpU lb (.tmp (hl hd 18 22 rfl)) (.tmp (hl hd 21 25 rfl)) (congrArg some hv_v_11))⟩)) ?_
      refine dS 24 (fun γ ρ B hb hd => op_pickF lb (.tmp (hl hd 10 14 rfl)) hc5 (.tmp (hl hd 22 26 rfl))) ?_
      refine dS 25 (fun γ ρ B hb hd => op_move lb (.tmp (hl hd 23 27 rfl))) ?_
      refine DSteps.cons (j := 26) rfl (fun _ => rfl) (.run (fun γ ρ B hb hd => ⟨.yes rfl (ltB rfl) (hl hd 24 28 rfl) hc7, OpStep.at ⟨ρ, B, _⟩ (setO ⟨ρ, B, _⟩ _ _) (op_fieldAddr (off := 2) lb tf38_1 (.tmp (hb 1 _ rfl)))⟩)) ?_
      refine DSteps.cons (j := 27) rfl (fun _ => rfl) (.run (fun γ ρ B hb hd => ⟨.yes rfl (ltB rfl) (hl hd 24 28 rfl) hc7, OpStep.at ⟨ρ, (cvar gb_2 r_api_Event t_1) :: B, _⟩ (setO ⟨ρ, (cvar gb_2 r_api_Event t_1) :: B, _⟩ _ _) (op_loadS (j := 0) lb tS9 (.tmp (hl hd 25 29 rfl)) rfl (Comp.trans (Comp.self r_api_Event t_1) (comp_api_Event_Topic t_1) (Nat.le_of_ble_eq_true rfl)) rfl rfl)⟩)) ?_
      refine DSteps.cons (j := 28) rfl (fun _ => rfl) (.run (fun γ ρ B hb hd => ⟨.yes rfl (ltB rfl) (hl hd 24 28 rfl) hc7, OpStep.at ⟨ρ, B, _⟩ (setO ⟨ρ, B, _⟩ _ _) ((op_call (js := []) ld cl11 (sim_ref09_MayName k t_1.Topic v_12 hv_v_12) .func (.cons (.tmp (hl hd 26 30 rfl)) .nil) rfl).post (fun _ => Imp.refl))⟩)) ?_
      refine DSteps.cons (j := 29) rfl (fun _ => rfl) (.run (fun γ ρ B hb hd => ⟨.yes rfl (ltB rfl) (hl hd 24 28 rfl) hc7, OpStep.at ⟨ρ, B, _⟩ (setO ⟨ρ, B, _⟩ _ _) (op_not lb (.tmp (hl hd 27 31 rfl)) hv_v_13)⟩)) ?_
      refine dS 30 (fun γ ρ B hb hd => op_pickF lb (.tmp (hl hd 24 28 rfl)) hc7 (.tmp (hl hd 28 32 rfl))) ?_
      refine dS 31 (fun γ ρ B hb hd => op_move lb (.tmp (hl hd 29 33 rfl))) ?_
      refine DSteps.cons (j := 32) rfl (fun _ => rfl) (.run (fun γ ρ B hb hd => ⟨.yes rfl (ltB rfl) (hl hd 30 34 rfl) hc9, OpStep.at ⟨ρ, B, _⟩ (setO ⟨ρ, B, _⟩ _ _) (op_fieldAddr (off := 3) lb tf38_2 (.tmp (hb 1 _ rfl)))⟩)) ?_
      refine DSteps.cons (j := 33) rfl (fun _ => rfl) (.run (fun γ ρ B hb hd => ⟨.yes rfl (ltB rfl) (hl hd 30 34 rfl) hc9, OpStep.at ⟨ρ, (cvar gb_2 r_api_Event t_1) :: B, _⟩ (setO ⟨ρ, (cvar gb_2 r_api_Event t_1) :: B, _⟩ _ _) (op_loadS (j := 0) lb tS35 (.tmp (hl hd 31 35 rfl)) rfl (Comp.trans (Comp.self r_api_Event t_1) (comp_api_Event_Payload t_1) (Nat.le_of_ble_eq_true rfl)) rfl rfl)⟩)) ?_
      refine DSteps.cons (j := 34) rfl (fun _ => rfl) (.run (fun γ ρ B hb hd => ⟨.yes rfl (ltB rfl) (hl hd 30 34 rfl) hc9, OpStep.at ⟨ρ, B, _⟩ (setO ⟨ρ, B, _⟩ _ _) (op_lenL lb tu35 (.tmp (hl hd 32 36 rfl)))⟩)) ?_
      refine DSteps.cons (j := 35) rfl (fun _ => rfl) (.run (fun γ ρ B hb hd => ⟨.yes rfl (ltB rfl) (hl hd 30 34 rfl) hc9, OpStep.at ⟨ρ, B, _⟩ (setO ⟨ρ, B, _⟩ _ _) (op_cmpI lb (.tmp (hl hd 33 37 rfl)) .cI (congrArg some hv_v_14))⟩)) ?_
      refine dS 36 (fun γ ρ B hb hd => op_pickF lb (.tmp (hl hd 30 34 rfl)) hc9 (.tmp (hl hd 34 38 rfl))) ?_
      refine dS 37 (fun γ ρ B hb hd => op_move lb (.tmp (hl hd 35 39 rfl))) ?_
      refine DSteps.cons (j := 38) rfl (fun _ => rfl) (.run (fun γ ρ B hb hd => ⟨.yes rfl (ltB rfl) (hl hd 36 40 rfl) hc11, OpStep.at ⟨ρ, B, _⟩ (setO ⟨ρ, B, _⟩ _ _) (op_fieldAddr (off := 20) lb tf38_4 (.tmp (hb 1 _ rfl)))⟩)) ?_
      refine DSteps.cons (j := 39) rfl (fun _ => rfl) (.run (fun γ ρ B hb hd => ⟨.yes rfl (ltB rfl) (hl hd 36 40 rfl) hc11, OpStep.at ⟨ρ, (cvar gb_2 r_api_Event t_1) :: B, _⟩ (setO ⟨ρ, (cvar gb_2 r_api_Event t_1) :: B, _⟩ _ _) (op_loadS (j := 0) lb tS36 (.tmp (hl hd 37 41 rfl)) rfl (Comp.trans (Comp.self r_api_Event t_1) (comp_api_Event_To t_1) (Nat.le_of_ble_eq_true rfl)) rfl rfl)⟩)) ?_
      refine DSteps.cons (j := 40) rfl (fun _ => rfl) (.run (fun γ ρ B hb hd => ⟨.yes rfl (ltB rfl) (hl hd 36 40 rfl) hc11, OpStep.at ⟨ρ, B, _⟩ (setO ⟨ρ, B, _⟩ _ _) (op_lenL lb tu36 (.tmp (hl hd 38 42 rfl)))⟩)) ?_
      refine DSteps.cons (j := 41) rfl (fun _ => rfl) (.run (fun γ ρ B hb hd => ⟨.yes rfl (ltB rfl) (hl hd 36 40 rfl) hc11, OpStep.at ⟨ρ, B, _⟩ (setO ⟨ρ, B, _⟩ _ _) (op_cmpI lb (.tmp (hl hd 39 43 rfl)) .cI (congrArg some hv_v_15))⟩)) ?_
      refine dS 42 (fun γ ρ B hb hd => op_pickF lb (.tmp (hl hd 36 40 rfl)) hc11 (.tmp (hl hd 40 44 rfl))) ?_
      exact DSteps.nil)
                 (by decide +kernel) (fun _ => rfl) rfl (fun _ => rfl) (fun _ => rfl) rfl (by decide) (by decide) (by decide +kernel) (fun _ d h => by cases h)
                 (ρ' := fun γ => [(1, ov (PTR gb_2 0)), (45, ov (S rB v_15))])
                 (X' := fun γ => [cvar gb_2 r_api_Event t_1])
                 (fun γ ρ hb hd => (.cons (hb 1 _ rfl (by decide)) (.cons (hdq hd 41 45 rfl) .nil))) (fun _ => rfl) (fun γ => ?_)
             refine JQ.at ⟨[(1, ov (PTR gb_2 0)), (45, ov (S rB v_15))], [cvar gb_2 r_api_Event t_1], []⟩ ?_
             replace hx1 := Option.some.inj hx1
             first | subst hx1 | clear hx1
             exact JQ.join () (Imp.norm (js := [0]) rfl (.cons rfl (.cons rfl .nil)))

end Go.Proofs.Ythoggbomakolkaa
