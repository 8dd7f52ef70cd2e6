/- Walks. -/
import Derived.Test.YtklnihlchhhhlaaGreatT
import Derived.Test.YtklnihlchhhhlaaGreatW0
import Derived.Test.YtklnihlchhhhlaaGreatW1
import Derived.Test.YtklnihlchhhhlaaGreatW7
import Derived.Test.YtklnihlchhhhlaaGreatW8
namespace Go.Proofs.YtklnihlchhhhlaaGreat
open Go Fw
set_option linter.unusedVariables false
set_option maxRecDepth 100000
set_option maxHeartbeats 4000000

theorem sim_law11_FrameLooks'4 (k : Nat) (t_1 : api_Frame) (a_2 : api_Frame) (a_3 : (List api_Item)) (r : Bool) (hm : law11_FrameLooks'4 k t_1 a_2 a_3 = some r) : Sim Tryz.prog 7 [A r_api_Frame t_1, A r_api_Frame a_2, S (rL r_api_Item) a_3] [] (γ := Unit) (fun q => []) (fun q => .one (.val (S rB r))) := by
 unfold law11_FrameLooks'4 at hm
 refine Sim.of Tryz.func7 rfl rfl (lE rfl) (fun e0 w0 => ?_)
 refine JC.at ⟨[(0, ov (A r_api_Frame t_1)), (1, ov (A r_api_Frame a_2)), (2, ov (S (rL r_api_Item) a_3))], [], []⟩ ?_
 refine jr ?_
 refine jx (op_boxA lb (.tmp rfl)) (fun gb_4 => ?_)
 refine jx (op_boxA lb (.tmp rfl)) (fun gb_5 => ?_)
 refine jc (op_assign lb .cB) <| jn <| JC.seq ?_
 obtain ⟨x_11, hx1, hq1⟩ := bnd_inv hm
 refine JC.seqJ (γ := Unit) (stj := fun _ => ⟨[(2, ov (S (rL r_api_Item) a_3)), (3, ov (PTR gb_4 0)), (4, ov (PTR gb_5 0)), (19, ov (S rB x_11))], [cvar gb_4 r_api_Frame t_1, cvar gb_5 r_api_Frame a_2], []⟩) (fun _ => ?_) ?_
 · rcases iteB_inv hq1 with ⟨hc8, hq1⟩ | ⟨hc8, hq1⟩
   · refine JC.condT (.tmp rfl) hc8 ?_
     refine jr ?_
     obtain ⟨v_12, hv_12, hq1⟩ := bnd_inv hq1
     refine jx (op_call (js := []) ld cl9 (sim_law11_known'4 k v_12 hv_12) .func .nil rfl) (fun _ => ?_)
     refine jc (op_assign lb (.tmp rfl)) <| jn ?_
     refine JC.ret ?_
     refine JQ.outR ?_
     obtain rfl := so hq1
     exact jd (.val (S rB v_12)) rfl rfl rfl rfl rfl rfl
   refine JC.condF (.tmp rfl) hc8 ?_
   refine JC.skip ?_
   refine JQ.then <| jr <| jc (op_assign lb .cB) <| jn ?_
   obtain ⟨tv9, hx9, hq9⟩ := bnd_inv hq1
   refine JC.seqK (α := Bool) (γ := Unit) (stj := fun v q => ⟨[(2, ov (S (rL r_api_Item) a_3)), (3, ov (PTR gb_4 0)), (4, ov (PTR gb_5 0)), (7, ov (S rB v))], [cvar gb_4 r_api_Frame t_1, cvar gb_5 r_api_Frame a_2], []⟩) (p := fun v => tv9 = (.inl v)) (fun v q hv => ?_) ?_
   · subst hv
     obtain ⟨x_27, hvv⟩ : ∃ z, z = v := ⟨_, rfl⟩
     subst hvv
     obtain _ := q
     dsimp only at hq9
     refine JC.at ⟨[(2, ov (S (rL r_api_Item) a_3)), (3, ov (PTR gb_4 0)), (4, ov (PTR gb_5 0)), (7, ov (S rB x_27))], [cvar gb_4 r_api_Frame t_1, cvar gb_5 r_api_Frame a_2], []⟩ ?_
     refine jr <| jmv rfl rfl ?_
     obtain ⟨v_28, hv_28, hq9⟩ := bnd_inv hq9
     refine jx (op_call (js := []) ld cl22 (sim_frame_ItemBytes k a_3 v_28 hv_28) .func (.cons (.tmp rfl) .nil) rfl) (fun q => ?_)
     obtain ⟨go_29, gc_30⟩ := q
     refine jc (op_assign lb (.tmp rfl)) <| jn <| JC.seq ?_
     obtain ⟨x_39, hx20, hq20⟩ := bnd_inv hq9
     refine JC.seqJ (γ := Unit) (stj := fun _ => ⟨[(3, ov (PTR gb_4 0)), (4, ov (PTR gb_5 0)), (65, ov (S rB x_39))], [cvar gb_4 r_api_Frame t_1, cvar gb_5 r_api_Frame a_2], []⟩) (fun _ => ?_) ?_
     · rcases iteB_inv hq20 with ⟨hc32, hq20⟩ | ⟨hc32, hq20⟩
       · refine JC.condT (.tmp rfl) hc32 ?_
         refine jr <| jc (op_assign lb .cB) <| jn ?_
         refine JC.ret ?_
         refine JQ.outR ?_
         obtain rfl := so hq20
         exact jd (.val (S rB false)) rfl rfl rfl rfl rfl rfl
       refine JC.condF (.tmp rfl) hc32 ?_
       refine JC.skip ?_
       refine JQ.then ?_
       obtain ⟨x_50, hx33, hq33⟩ := bnd_inv hq20
       refine JC.seqJ (γ := Unit) (stj := fun _ => ⟨[(6, ov (S rB x_50))], [], []⟩) (fun _ => ?_) ?_
       · refine JC.ret ?_
         obtain rfl := so hq33
         exact jd (.val (S rB x_50)) rfl rfl rfl rfl rfl rfl
       obtain ⟨v_40, hv_40, hx33⟩ := bnd_inv hx33
       obtain ⟨v_41, hv_41, hx33⟩ := bnd_inv hx33
       obtain ⟨v_42, hv_42, hx33⟩ := lt1_inv hx33
       obtain ⟨v_43, hv_43, hx33⟩ := bnd_inv hx33
       obtain ⟨v_44, hv_44, hx33⟩ := lt1_inv hx33
       rcases iteB_inv hx33 with ⟨hc39, hx33⟩ | ⟨hc39, hx33⟩
       · obtain ⟨v_45, hv_45, hx33⟩ := bnd_inv hx33
         obtain ⟨v_46, hv_46, hx33⟩ := bnd_inv hx33
         obtain ⟨v_47, hv_47, hx33⟩ := lt1_inv hx33
         obtain ⟨v_48, hv_48, hx33⟩ := bnd_inv hx33
         obtain ⟨v_49, hv_49, hx33⟩ := lt1_inv hx33
         refine JC.anyF (base := [(3, ov (PTR gb_4 0)), (4, ov (PTR gb_5 0))])
             (fs := fun γ => [⟨some 66, ov (A r_api_Frame t_1)⟩, ⟨some 67, ov (A r_api_Frame a_2)⟩, ⟨some 68, ov (S rB v_40)⟩, ⟨some 69, ov (A r_api_Frame t_1)⟩, ⟨some 70, ov (A r_api_Frame a_2)⟩, ⟨some 71, ov (S rB v_41)⟩, ⟨some 72, ov (S rB v_42)⟩, ⟨some 73, ov (S rB v_42)⟩, ⟨some 74, bif v_42 then ov (A r_api_Frame t_1) else .one .und⟩, ⟨some 75, bif v_42 then ov (A r_api_Frame t_1) else .one .und⟩, ⟨some 76, bif v_42 then ov (S rB v_43) else .one .und⟩, ⟨some 77, ov (S rB v_44)⟩, ⟨some 78, ov (S rB v_44)⟩, ⟨some 79, ov (PTR gb_4 (0 + 0))⟩, ⟨some 80, ov (S (rI .i64) t_1.Kind)⟩, ⟨some 81, ov (S rS v_45)⟩, ⟨some 82, ov (PTR gb_4 (0 + 0))⟩, ⟨some 83, ov (S (rI .i64) t_1.Kind)⟩, ⟨some 84, ov (S rS v_46)⟩, ⟨some 85, ov (S rB v_47)⟩, ⟨some 86, ov (S rB v_47)⟩, ⟨some 87, ov (S rB v_47)⟩, ⟨some 88, bif v_47 then ov (S rB v_48) else .one .und⟩, ⟨some 89, ov (S rB v_49)⟩, ⟨some 6, ov (S rB v_49)⟩])
             (rs := fun γ => [⟨cvar gb_4 r_api_Frame t_1, none, none, [0, 3, 8, 9, 14, 17]⟩, ⟨cvar gb_5 r_api_Frame a_2, none, none, [1, 4]⟩])
             (afts := nn 25) (js := [0, 0]) mixed (.cons rfl (.cons rfl .nil)) (fun _ => rfl)
             (by
      refine dR 1 (fun γ ρ B hb hd => OpStep.lk ⟨ρ, (cvar gb_4 r_api_Frame t_1) :: B, _⟩ (op_loadA (j := 0) lb tA39 (.tmp (hb 3 _ rfl)) rfl (Comp.self r_api_Frame t_1) rfl)) <| dR 2 (fun γ ρ B hb hd => OpStep.lk ⟨ρ, (cvar gb_5 r_api_Frame a_2) :: B, _⟩ (op_loadA (j := 0) lb tA39 (.tmp (hb 4 _ rfl)) rfl (Comp.self r_api_Frame a_2) rfl)) <| dS 3 (fun γ ρ B hb hd => (op_call (js := []) ld cl18 (sim_frame_Same k t_1 a_2 v_40 hv_40) .func (.cons (tl hd 0 66) (.cons (tl hd 1 67) .nil)) rfl).post (fun _ => Imp.refl)) <| dR 4 (fun γ ρ B hb hd => OpStep.lk ⟨ρ, (cvar gb_4 r_api_Frame t_1) :: B, _⟩ (op_loadA (j := 0) lb tA39 (.tmp (hb 3 _ rfl)) rfl (Comp.self r_api_Frame t_1) rfl)) <| dR 5 (fun γ ρ B hb hd => OpStep.lk ⟨ρ, (cvar gb_5 r_api_Frame a_2) :: B, _⟩ (op_loadA (j := 0) lb tA39 (.tmp (hb 4 _ rfl)) rfl (Comp.self r_api_Frame a_2) rfl)) ?_
      refine dS 6 (fun γ ρ B hb hd => (op_call (js := []) ld cl17 (sim_ref11_Same k t_1 a_2 v_41 hv_41) .func (.cons (tl hd 3 69) (.cons (tl hd 4 70) .nil)) rfl).post (fun _ => Imp.refl)) <| dS 7 (fun γ ρ B hb hd => op_eqB lb tu4 (tl hd 2 68) (tl hd 5 71) hv_42) <| dm 8 6 72 ?_
      refine DSteps.cons (j := 9) rfl (fun _ => rfl) (.cnd (q := v_42) (sv := fun γ => ov (A r_api_Frame t_1)) (fun _ => rfl) (fun _ => rfl) (fun d h => by cases h; exact ltB rfl) (fun _ => rfl) (fun γ ρ B hb hd => ⟨(Guard.isT (ltB rfl) rfl (hl hd 7 73 rfl)), fun hq_34 => OpStep.lk ⟨ρ, (cvar gb_4 r_api_Frame t_1) :: B, _⟩ (op_loadA (j := 0) lb tA39 (.tmp (hb 3 _ rfl)) rfl (Comp.self r_api_Frame t_1) rfl)⟩)) ?_
      refine DSteps.cons (j := 10) rfl (fun _ => rfl) (.cnd (q := v_42) (sv := fun γ => ov (A r_api_Frame t_1)) (fun _ => rfl) (fun _ => rfl) (fun d h => by cases h; exact ltB rfl) (fun _ => rfl) (fun γ ρ B hb hd => ⟨(Guard.isT (ltB rfl) rfl (hl hd 7 73 rfl)), fun hq_35 => OpStep.lk ⟨ρ, (cvar gb_4 r_api_Frame t_1) :: B, _⟩ (op_loadA (j := 0) lb tA39 (.tmp (hb 3 _ rfl)) rfl (Comp.self r_api_Frame t_1) rfl)⟩)) ?_
      refine dC 11 v_42 (fun γ => ov (S rB v_43)) (fun γ ρ B hb hd => ⟨(Guard.isT (ltB rfl) rfl (hl hd 7 73 rfl)), fun hq_36 => (op_call (js := []) ld cl18 (sim_frame_Same k t_1 t_1 v_43 (ifT hv_43 hq_36)) .func (.cons (HasO.cnd (tl hd 8 74) hq_36) (.cons (HasO.cnd (tl hd 9 75) hq_36) .nil)) rfl).post (fun _ => Imp.refl)⟩) ?_
      refine dS 12 (fun γ ρ B hb hd => op_pickCS lb (tl hd 7 73) (fun hb37 => (HasO.cnd (tl hd 10 76) hb37)) (fun hb37 => .cB) hv_44) <| dm 13 11 77 <| dY 14 (fun γ ρ B hb hd => ⟨.yes rfl (ltB rfl) (hl hd 12 78 rfl) hc39, lkB (op_fieldAddr (off := 0) lb tf39_0 (.tmp (hb 3 _ rfl)))⟩) <| dY 15 (fun γ ρ B hb hd => ⟨.yes rfl (ltB rfl) (hl hd 12 78 rfl) hc39, OpStep.lk ⟨ρ, (cvar gb_4 r_api_Frame t_1) :: B, _⟩ (op_loadS (j := 0) lb tS22 (tl hd 13 79) rfl (cT (comp_api_Frame_Kind t_1) rfl) rfl rfl)⟩) <| dY 16 (fun γ ρ B hb hd => ⟨.yes rfl (ltB rfl) (hl hd 12 78 rfl) hc39, lkB ((op_call (js := []) ld cl24 (sim_frame_Name k t_1.Kind v_45 hv_45) .func (.cons (tl hd 14 80) .nil) rfl).post (fun _ => Imp.refl))⟩) ?_
      refine dY 17 (fun γ ρ B hb hd => ⟨.yes rfl (ltB rfl) (hl hd 12 78 rfl) hc39, lkB (op_fieldAddr (off := 0) lb tf39_0 (.tmp (hb 3 _ rfl)))⟩) <| dY 18 (fun γ ρ B hb hd => ⟨.yes rfl (ltB rfl) (hl hd 12 78 rfl) hc39, OpStep.lk ⟨ρ, (cvar gb_4 r_api_Frame t_1) :: B, _⟩ (op_loadS (j := 0) lb tS22 (tl hd 16 82) rfl (cT (comp_api_Frame_Kind t_1) rfl) rfl rfl)⟩) <| dY 19 (fun γ ρ B hb hd => ⟨.yes rfl (ltB rfl) (hl hd 12 78 rfl) hc39, lkB ((op_call (js := []) ld cl25 (sim_ref11_Name k t_1.Kind v_46 hv_46) .func (.cons (tl hd 17 83) .nil) rfl).post (fun _ => Imp.refl))⟩) <| dY 20 (fun γ ρ B hb hd => ⟨.yes rfl (ltB rfl) (hl hd 12 78 rfl) hc39, lkB (op_cmpS lb (tl hd 15 81) (tl hd 18 84) (cs hv_47))⟩) <| dS 21 (fun γ ρ B hb hd => op_pickT lb (tl hd 12 78) hc39 (tl hd 19 85)) ?_
      refine dm 22 20 86 ?_
      refine dC 23 v_47 (fun γ => ov (S rB v_48)) (fun γ ρ B hb hd => ⟨(Guard.isT (ltB rfl) rfl (hl hd 21 87 rfl)), fun hq_40 => (op_call (js := []) ld cl9 (sim_law11_known'4 k v_48 (ifT hv_48 hq_40)) .func .nil rfl).post (fun _ => Imp.refl)⟩) ?_
      refine dS 24 (fun γ ρ B hb hd => op_pickCS lb (tl hd 21 87) (fun hb41 => (HasO.cnd (tl hd 22 88) hb41)) (fun hb41 => .cB) hv_49) <| dS 25 (fun γ ρ B hb hd => op_assign lb (tl hd 23 89)) ?_
      exact DSteps.nil)
             (by decide +kernel) (fun _ => rfl) (fun _ => rfl) (fun _ => rfl) rfl
             (ρ' := fun γ => [(6, ov (S rB v_49))])
             (X' := fun γ => [cvar gb_4 r_api_Frame t_1, cvar gb_5 r_api_Frame a_2])
             (fun γ ρ hb hd => (.cons (hdq hd 24 6 rfl) .nil)) (fun _ => rfl) (fun γ => ?_)
         refine JQ.at ⟨[(6, ov (S rB v_49))], [cvar gb_4 r_api_Frame t_1, cvar gb_5 r_api_Frame a_2], []⟩ ?_
         try obtain rfl := so hx33
         exact jo rfl rfl rfl
       refine JC.anyF (base := [(3, ov (PTR gb_4 0)), (4, ov (PTR gb_5 0))])
           (fs := fun γ => [⟨some 66, ov (A r_api_Frame t_1)⟩, ⟨some 67, ov (A r_api_Frame a_2)⟩, ⟨some 68, ov (S rB v_40)⟩, ⟨some 69, ov (A r_api_Frame t_1)⟩, ⟨some 70, ov (A r_api_Frame a_2)⟩, ⟨some 71, ov (S rB v_41)⟩, ⟨some 72, ov (S rB v_42)⟩, ⟨some 73, ov (S rB v_42)⟩, ⟨some 74, bif v_42 then ov (A r_api_Frame t_1) else .one .und⟩, ⟨some 75, bif v_42 then ov (A r_api_Frame t_1) else .one .und⟩, ⟨some 76, bif v_42 then ov (S rB v_43) else .one .und⟩, ⟨some 77, ov (S rB v_44)⟩, ⟨some 78, ov (S rB v_44)⟩, ⟨some 79, .one .und⟩, ⟨some 80, .one .und⟩, ⟨some 81, .one .und⟩, ⟨some 82, .one .und⟩, ⟨some 83, .one .und⟩, ⟨some 84, .one .und⟩, ⟨some 85, .one .und⟩, ⟨some 86, ov (S rB false)⟩, ⟨some 87, ov (S rB false)⟩, ⟨some 88, .one .und⟩, ⟨some 89, ov (S rB false)⟩, ⟨some 6, ov (S rB false)⟩])
           (rs := fun γ => [⟨cvar gb_4 r_api_Frame t_1, none, none, [0, 3, 8, 9]⟩, ⟨cvar gb_5 r_api_Frame a_2, none, none, [1, 4]⟩])
           (afts := nn 25) (js := [0, 0]) mixed (.cons rfl (.cons rfl .nil)) (fun _ => rfl)
           (by
      refine dR 1 (fun γ ρ B hb hd => OpStep.lk ⟨ρ, (cvar gb_4 r_api_Frame t_1) :: B, _⟩ (op_loadA (j := 0) lb tA39 (.tmp (hb 3 _ rfl)) rfl (Comp.self r_api_Frame t_1) rfl)) <| dR 2 (fun γ ρ B hb hd => OpStep.lk ⟨ρ, (cvar gb_5 r_api_Frame a_2) :: B, _⟩ (op_loadA (j := 0) lb tA39 (.tmp (hb 4 _ rfl)) rfl (Comp.self r_api_Frame a_2) rfl)) <| dS 3 (fun γ ρ B hb hd => (op_call (js := []) ld cl18 (sim_frame_Same k t_1 a_2 v_40 hv_40) .func (.cons (tl hd 0 66) (.cons (tl hd 1 67) .nil)) rfl).post (fun _ => Imp.refl)) <| dR 4 (fun γ ρ B hb hd => OpStep.lk ⟨ρ, (cvar gb_4 r_api_Frame t_1) :: B, _⟩ (op_loadA (j := 0) lb tA39 (.tmp (hb 3 _ rfl)) rfl (Comp.self r_api_Frame t_1) rfl)) <| dR 5 (fun γ ρ B hb hd => OpStep.lk ⟨ρ, (cvar gb_5 r_api_Frame a_2) :: B, _⟩ (op_loadA (j := 0) lb tA39 (.tmp (hb 4 _ rfl)) rfl (Comp.self r_api_Frame a_2) rfl)) ?_
      refine dS 6 (fun γ ρ B hb hd => (op_call (js := []) ld cl17 (sim_ref11_Same k t_1 a_2 v_41 hv_41) .func (.cons (tl hd 3 69) (.cons (tl hd 4 70) .nil)) rfl).post (fun _ => Imp.refl)) <| dS 7 (fun γ ρ B hb hd => op_eqB lb tu4 (tl hd 2 68) (tl hd 5 71) hv_42) <| dm 8 6 72 ?_
      refine DSteps.cons (j := 9) rfl (fun _ => rfl) (.cnd (q := v_42) (sv := fun γ => ov (A r_api_Frame t_1)) (fun _ => rfl) (fun _ => rfl) (fun d h => by cases h; exact ltB rfl) (fun _ => rfl) (fun γ ρ B hb hd => ⟨(Guard.isT (ltB rfl) rfl (hl hd 7 73 rfl)), fun hq_34 => OpStep.lk ⟨ρ, (cvar gb_4 r_api_Frame t_1) :: B, _⟩ (op_loadA (j := 0) lb tA39 (.tmp (hb 3 _ rfl)) rfl (Comp.self r_api_Frame t_1) rfl)⟩)) ?_
      refine DSteps.cons (j := 10) rfl (fun _ => rfl) (.cnd (q := v_42) (sv := fun γ => ov (A r_api_Frame t_1)) (fun _ => rfl) (fun _ => rfl) (fun d h => by cases h; exact ltB rfl) (fun _ => rfl) (fun γ ρ B hb hd => ⟨(Guard.isT (ltB rfl) rfl (hl hd 7 73 rfl)), fun hq_35 => OpStep.lk ⟨ρ, (cvar gb_4 r_api_Frame t_1) :: B, _⟩ (op_loadA (j := 0) lb tA39 (.tmp (hb 3 _ rfl)) rfl (Comp.self r_api_Frame t_1) rfl)⟩)) ?_
      refine dC 11 v_42 (fun γ => ov (S rB v_43)) (fun γ ρ B hb hd => ⟨(Guard.isT (ltB rfl) rfl (hl hd 7 73 rfl)), fun hq_36 => (op_call (js := []) ld cl18 (sim_frame_Same k t_1 t_1 v_43 (ifT hv_43 hq_36)) .func (.cons (HasO.cnd (tl hd 8 74) hq_36) (.cons (HasO.cnd (tl hd 9 75) hq_36) .nil)) rfl).post (fun _ => Imp.refl)⟩) ?_
      refine dS 12 (fun γ ρ B hb hd => op_pickCS lb (tl hd 7 73) (fun hb37 => (HasO.cnd (tl hd 10 76) hb37)) (fun hb37 => .cB) hv_44) <| dm 13 11 77 <| kn 14 12 78 rfl hc39 <| kn 15 12 78 rfl hc39 <| kn 16 12 78 rfl hc39 ?_
      refine kn 17 12 78 rfl hc39 <| kn 18 12 78 rfl hc39 <| kn 19 12 78 rfl hc39 <| kn 20 12 78 rfl hc39 <| dS 21 (fun γ ρ B hb hd => op_pickF lb (tl hd 12 78) hc39 .cB) ?_
      refine dm 22 20 86 <| kn 23 21 87 rfl rfl <| dS 24 (fun γ ρ B hb hd => op_pickF lb (tl hd 21 87) rfl .cB) <| dS 25 (fun γ ρ B hb hd => op_assign lb (tl hd 23 89)) ?_
      exact DSteps.nil)
           (by decide +kernel) (fun _ => rfl) (fun _ => rfl) (fun _ => rfl) rfl
           (ρ' := fun γ => [(6, ov (S rB false))])
           (X' := fun γ => [cvar gb_4 r_api_Frame t_1, cvar gb_5 r_api_Frame a_2])
           (fun γ ρ hb hd => (.cons (hdq hd 24 6 rfl) .nil)) (fun _ => rfl) (fun γ => ?_)
       refine JQ.at ⟨[(6, ov (S rB false))], [cvar gb_4 r_api_Frame t_1, cvar gb_5 r_api_Frame a_2], []⟩ ?_
       try obtain rfl := so hx33
       exact jo rfl rfl rfl
     rcases iteB_inv hx20 with ⟨hc22, hx20⟩ | ⟨hc22, hx20⟩
     · obtain ⟨v_31, hv_31, hx20⟩ := bnd_inv hx20
       obtain ⟨v_34, hv_34, hx20⟩ := lt1_inv hx20
       obtain ⟨v_35, hv_35, hx20⟩ := lt1_inv hx20
       rcases iteB_inv hx20 with ⟨hc27, hx20⟩ | ⟨hc27, hx20⟩
       · refine JC.anyF (base := [(2, ov (S (rL r_api_Item) a_3)), (3, ov (PTR gb_4 0)), (4, ov (PTR gb_5 0)), (7, ov (S rB x_27)), (9, ov (HDR go_29 0 (List.length v_28) gc_30))])
             (fs := fun γ => [⟨some 48, ov (S rB x_27)⟩, ⟨some 49, ov (S rB x_27)⟩, ⟨some 50, ov (HDR go_29 0 (List.length v_28) gc_30)⟩, ⟨some 51, ov (S rS v_28)⟩, ⟨some 52, ov (S (rL r_api_Item) a_3)⟩, ⟨some 53, ov (HDR (deo (γ 5 0)) 0 (List.length v_31) (γ 5 1))⟩, ⟨some 54, ov (S rS v_31)⟩, ⟨some 55, ov (S rB v_34)⟩, ⟨some 56, ov (S rB v_34)⟩, ⟨some 57, ov (S rB v_34)⟩, ⟨some 58, bif (!v_34) then ov (S rB x_27) else .one .und⟩, ⟨some 59, bif (!v_34) then ov (S rB v_35) else .one .und⟩, ⟨some 60, bif (!v_34) then ov (S rB v_35) else .one .und⟩, ⟨some 61, .one .und⟩, ⟨some 62, .one .und⟩, ⟨some 63, .one .und⟩, ⟨some 64, .one .und⟩, ⟨some 65, ov (S rB true)⟩])
             (rs := fun γ => [⟨cown go_29 (rU UInt8) v_28 0 gc_30, none, none, [3]⟩, ⟨cvar gb_4 r_api_Frame t_1, none, none, []⟩, ⟨cvar gb_5 r_api_Frame a_2, none, none, []⟩, ⟨cown (deo (γ 5 0)) (rU UInt8) v_31 0 (γ 5 1), (some 5), none, [6]⟩])
             (afts := [[], [], [], [], [], [5, 6, 7, 8, 9, 10, 11, 12, 13, 14, 15, 16, 17], [], [], [], [], [], [], [], [], [], [], [], []]) (js := [0, 0, 0]) mixed (.cons rfl (.cons rfl (.cons rfl (.cons rfl (.cons rfl .nil))))) (fun _ => rfl)
             (by
      refine db 1 7 <| dm 2 0 48 <| dY 3 (fun γ ρ B hb hd => ⟨.yes rfl (ltB rfl) (hl hd 1 49 rfl) hc22, lkB (op_move lb (.tmp (hb 9 _ rfl)))⟩) <| dY 4 (fun γ ρ B hb hd => ⟨.yes rfl (ltB rfl) (hl hd 1 49 rfl) hc22, OpStep.lk ⟨ρ, (cown go_29 (rU UInt8) v_28 0 gc_30) :: B, _⟩ (op_convOS (j := 0) lb tu27 tu5 tu9 rfl (tl hd 2 50))⟩) <| dY 5 (fun γ ρ B hb hd => ⟨.yes rfl (ltB rfl) (hl hd 1 49 rfl) hc22, lkB (op_move lb (.tmp (hb 2 _ rfl)))⟩) ?_
      refine DSteps.cons (j := 6) rfl (fun _ => rfl) (.runX (fun _ _ => rfl) (fun γ ρ B hb hd => ⟨.yes rfl (ltB rfl) (hl hd 1 49 rfl) hc22, OpX.ghost (γ := Option Nat × Nat) (st' := fun q => setO ⟨ρ, (cown q.1 (rU UInt8) v_31 0 q.2) :: B, _⟩ (some 53) (ov (HDR q.1 0 (List.length v_31) q.2))) (fun q c => bif Nat.beq c 0 then eno q.1 else q.2) (op_call (js := []) ld cl23 (sim_ref11_Items k a_3 v_31 hv_31) .func (.cons (tl hd 4 52) .nil) rfl) (fun q => by obtain ⟨q0, q1⟩ := q; cases q0 <;> exact Imp.refl)⟩) (fun _ _ => rfl) (fun _ _ => rfl)) ?_
      refine dY 7 (fun γ ρ B hb hd => ⟨.yes rfl (ltB rfl) (hl hd 1 49 rfl) hc22, OpStep.lk ⟨ρ, (cown (deo (γ 5 0)) (rU UInt8) v_31 0 (γ 5 1)) :: B, _⟩ (op_convOS (j := 0) lb tu27 tu5 tu9 rfl (tl hd 5 53))⟩) <| dY 8 (fun γ ρ B hb hd => ⟨.yes rfl (ltB rfl) (hl hd 1 49 rfl) hc22, lkB (op_cmpS lb (tl hd 3 51) (tl hd 6 54) (cs hv_34))⟩) <| dS 9 (fun γ ρ B hb hd => op_pickT lb (tl hd 1 49) hc22 (tl hd 7 55)) <| dm 10 8 56 ?_
      refine dC 11 (!v_34) (fun γ => ov (S rB x_27)) (fun γ ρ B hb hd => ⟨(Guard.isF (ltB rfl) rfl (hl hd 9 57 rfl)), fun hq_23 => op_move lb (.tmp (hb 7 _ rfl))⟩) ?_
      refine dC 12 (!v_34) (fun γ => ov (S rB v_35)) (fun γ ρ B hb hd => ⟨(Guard.isF (ltB rfl) rfl (hl hd 9 57 rfl)), fun hq_24 => op_not lb (HasO.cnd (tl hd 10 58) (notT (notF hq_24))) hv_35⟩) ?_
      refine dC 13 (!v_34) (fun γ => ov (S rB v_35)) (fun γ ρ B hb hd => ⟨(Guard.isF (ltB rfl) rfl (hl hd 9 57 rfl)), fun hq_25 => op_move lb (HasO.cnd (tl hd 11 59) (notT (notF hq_25)))⟩) ?_
      refine dK 14 (fun γ ρ B hb hd => (Guard.eqB (Guard.cT (q := (!v_34)) (ltB rfl) rfl (hl hd 12 60 rfl)) (andFL (notF' hc27)))) <| dK 15 (fun γ ρ B hb hd => (Guard.eqB (Guard.cT (q := (!v_34)) (ltB rfl) rfl (hl hd 12 60 rfl)) (andFL (notF' hc27)))) <| dK 16 (fun γ ρ B hb hd => (Guard.eqB (Guard.cT (q := (!v_34)) (ltB rfl) rfl (hl hd 12 60 rfl)) (andFL (notF' hc27)))) <| kn 17 9 57 rfl hc27 <| dS 18 (fun γ ρ B hb hd => op_pickT lb (tl hd 9 57) hc27 .cB) ?_
      exact DSteps.nil)
             (by decide +kernel) (fun _ => rfl) (fun _ => rfl) (fun _ => rfl) rfl
             (ρ' := fun γ => [(3, ov (PTR gb_4 0)), (4, ov (PTR gb_5 0)), (65, ov (S rB true))])
             (X' := fun γ => [cown go_29 (rU UInt8) v_28 0 gc_30, cvar gb_4 r_api_Frame t_1, cvar gb_5 r_api_Frame a_2, cown (deo (γ 5 0)) (rU UInt8) v_31 0 (γ 5 1)])
             (fun γ ρ hb hd => (.cons (hb 3 _ rfl) (.cons (hb 4 _ rfl) (.cons (hdq hd 17 65 rfl) .nil)))) (fun _ => rfl) (fun γ => ?_)
         generalize (deo (γ 5 0)) = go_32
         generalize (γ 5 1) = gc_33
         clear γ
         refine JQ.at ⟨[(3, ov (PTR gb_4 0)), (4, ov (PTR gb_5 0)), (65, ov (S rB true))], [cown go_29 (rU UInt8) v_28 0 gc_30, cvar gb_4 r_api_Frame t_1, cvar gb_5 r_api_Frame a_2, cown go_32 (rU UInt8) v_31 0 gc_33], []⟩ ?_
         try obtain rfl := so hx20
         exact JQ.join () (Imp.norm (js := [1, 1]) rfl (.cons rfl (.cons rfl (.cons rfl .nil))))
       rcases iteB_inv hx20 with ⟨hc29, hx20⟩ | ⟨hc29, hx20⟩
       · obtain ⟨v_36, hv_36, hx20⟩ := lt1_inv hx20
         refine JC.anyF (base := [(2, ov (S (rL r_api_Item) a_3)), (3, ov (PTR gb_4 0)), (4, ov (PTR gb_5 0)), (7, ov (S rB x_27)), (9, ov (HDR go_29 0 (List.length v_28) gc_30))])
             (fs := fun γ => [⟨some 48, ov (S rB x_27)⟩, ⟨some 49, ov (S rB x_27)⟩, ⟨some 50, ov (HDR go_29 0 (List.length v_28) gc_30)⟩, ⟨some 51, ov (S rS v_28)⟩, ⟨some 52, ov (S (rL r_api_Item) a_3)⟩, ⟨some 53, ov (HDR (deo (γ 5 0)) 0 (List.length v_31) (γ 5 1))⟩, ⟨some 54, ov (S rS v_31)⟩, ⟨some 55, ov (S rB v_34)⟩, ⟨some 56, ov (S rB v_34)⟩, ⟨some 57, ov (S rB v_34)⟩, ⟨some 58, bif (!v_34) then ov (S rB x_27) else .one .und⟩, ⟨some 59, bif (!v_34) then ov (S rB v_35) else .one .und⟩, ⟨some 60, bif (!v_34) then ov (S rB v_35) else .one .und⟩, ⟨some 61, ov (HDR go_29 0 (List.length v_28) gc_30)⟩, ⟨some 62, ov (S (rI .i64) (List.length v_28 : Int))⟩, ⟨some 63, ov (S rB v_36)⟩, ⟨some 64, ov (S rB v_36)⟩, ⟨some 65, ov (S rB v_36)⟩])
             (rs := fun γ => [⟨cown go_29 (rU UInt8) v_28 0 gc_30, none, none, [3]⟩, ⟨cvar gb_4 r_api_Frame t_1, none, none, []⟩, ⟨cvar gb_5 r_api_Frame a_2, none, none, []⟩, ⟨cown (deo (γ 5 0)) (rU UInt8) v_31 0 (γ 5 1), (some 5), none, [6]⟩])
             (afts := [[], [], [], [], [], [5, 6, 7, 8, 9, 10, 11, 12, 13, 14, 15, 16, 17], [], [], [], [], [], [], [], [], [], [], [], []]) (js := [0, 0, 0]) mixed (.cons rfl (.cons rfl (.cons rfl (.cons rfl (.cons rfl .nil))))) (fun _ => rfl)
             (by
      refine db 1 7 <| dm 2 0 48 <| dY 3 (fun γ ρ B hb hd => ⟨.yes rfl (ltB rfl) (hl hd 1 49 rfl) hc22, lkB (op_move lb (.tmp (hb 9 _ rfl)))⟩) <| dY 4 (fun γ ρ B hb hd => ⟨.yes rfl (ltB rfl) (hl hd 1 49 rfl) hc22, OpStep.lk ⟨ρ, (cown go_29 (rU UInt8) v_28 0 gc_30) :: B, _⟩ (op_convOS (j := 0) lb tu27 tu5 tu9 rfl (tl hd 2 50))⟩) <| dY 5 (fun γ ρ B hb hd => ⟨.yes rfl (ltB rfl) (hl hd 1 49 rfl) hc22, lkB (op_move lb (.tmp (hb 2 _ rfl)))⟩) ?_
      refine DSteps.cons (j := 6) rfl (fun _ => rfl) (.runX (fun _ _ => rfl) (fun γ ρ B hb hd => ⟨.yes rfl (ltB rfl) (hl hd 1 49 rfl) hc22, OpX.ghost (γ := Option Nat × Nat) (st' := fun q => setO ⟨ρ, (cown q.1 (rU UInt8) v_31 0 q.2) :: B, _⟩ (some 53) (ov (HDR q.1 0 (List.length v_31) q.2))) (fun q c => bif Nat.beq c 0 then eno q.1 else q.2) (op_call (js := []) ld cl23 (sim_ref11_Items k a_3 v_31 hv_31) .func (.cons (tl hd 4 52) .nil) rfl) (fun q => by obtain ⟨q0, q1⟩ := q; cases q0 <;> exact Imp.refl)⟩) (fun _ _ => rfl) (fun _ _ => rfl)) ?_
      refine dY 7 (fun γ ρ B hb hd => ⟨.yes rfl (ltB rfl) (hl hd 1 49 rfl) hc22, OpStep.lk ⟨ρ, (cown (deo (γ 5 0)) (rU UInt8) v_31 0 (γ 5 1)) :: B, _⟩ (op_convOS (j := 0) lb tu27 tu5 tu9 rfl (tl hd 5 53))⟩) <| dY 8 (fun γ ρ B hb hd => ⟨.yes rfl (ltB rfl) (hl hd 1 49 rfl) hc22, lkB (op_cmpS lb (tl hd 3 51) (tl hd 6 54) (cs hv_34))⟩) <| dS 9 (fun γ ρ B hb hd => op_pickT lb (tl hd 1 49) hc22 (tl hd 7 55)) <| dm 10 8 56 ?_
      refine dC 11 (!v_34) (fun γ => ov (S rB x_27)) (fun γ ρ B hb hd => ⟨(Guard.isF (ltB rfl) rfl (hl hd 9 57 rfl)), fun hq_23 => op_move lb (.tmp (hb 7 _ rfl))⟩) ?_
      refine dC 12 (!v_34) (fun γ => ov (S rB v_35)) (fun γ ρ B hb hd => ⟨(Guard.isF (ltB rfl) rfl (hl hd 9 57 rfl)), fun hq_24 => op_not lb (HasO.cnd (tl hd 10 58) (notT (notF hq_24))) hv_35⟩) ?_
      refine dC 13 (!v_34) (fun γ => ov (S rB v_35)) (fun γ ρ B hb hd => ⟨(Guard.isF (ltB rfl) rfl (hl hd 9 57 rfl)), fun hq_25 => op_move lb (HasO.cnd (tl hd 11 59) (notT (notF hq_25)))⟩) ?_
      refine DSteps.cons (j := 14) rfl (fun _ => rfl) (.run (fun γ ρ B hb hd => ⟨(Guard.eqB (Guard.cT (q := (!v_34)) (ltB rfl) rfl (hl hd 12 60 rfl)) (andI (notT hc27) hc29)), lkB (op_move lb (.tmp (hb 9 _ rfl)))⟩)) ?_
      refine DSteps.cons (j := 15) rfl (fun _ => rfl) (.run (fun γ ρ B hb hd => ⟨(Guard.eqB (Guard.cT (q := (!v_34)) (ltB rfl) rfl (hl hd 12 60 rfl)) (andI (notT hc27) hc29)), lkB (op_lenH lb tu27 (tl hd 13 61))⟩)) ?_
      refine DSteps.cons (j := 16) rfl (fun _ => rfl) (.run (fun γ ρ B hb hd => ⟨(Guard.eqB (Guard.cT (q := (!v_34)) (ltB rfl) rfl (hl hd 12 60 rfl)) (andI (notT hc27) hc29)), lkB (op_cmpI lb (tl hd 14 62) .cI (cs hv_36))⟩)) ?_
      refine dY 17 (fun γ ρ B hb hd => ⟨.yes rfl (ltB rfl) (hl hd 9 57 rfl) hc27, lkB (op_pickT lb (HasO.cnd (tl hd 12 60) (notT hc27)) hc29 (tl hd 15 63))⟩) <| dS 18 (fun γ ρ B hb hd => op_pickF lb (tl hd 9 57) hc27 (tl hd 16 64)) ?_
      exact DSteps.nil)
             (by decide +kernel) (fun _ => rfl) (fun _ => rfl) (fun _ => rfl) rfl
             (ρ' := fun γ => [(3, ov (PTR gb_4 0)), (4, ov (PTR gb_5 0)), (65, ov (S rB v_36))])
             (X' := fun γ => [cown go_29 (rU UInt8) v_28 0 gc_30, cvar gb_4 r_api_Frame t_1, cvar gb_5 r_api_Frame a_2, cown (deo (γ 5 0)) (rU UInt8) v_31 0 (γ 5 1)])
             (fun γ ρ hb hd => (.cons (hb 3 _ rfl) (.cons (hb 4 _ rfl) (.cons (hdq hd 17 65 rfl) .nil)))) (fun _ => rfl) (fun γ => ?_)
         generalize (deo (γ 5 0)) = go_32
         generalize (γ 5 1) = gc_33
         clear γ
         refine JQ.at ⟨[(3, ov (PTR gb_4 0)), (4, ov (PTR gb_5 0)), (65, ov (S rB v_36))], [cown go_29 (rU UInt8) v_28 0 gc_30, cvar gb_4 r_api_Frame t_1, cvar gb_5 r_api_Frame a_2, cown go_32 (rU UInt8) v_31 0 gc_33], []⟩ ?_
         try obtain rfl := so hx20
         exact JQ.join () (Imp.norm (js := [1, 1]) rfl (.cons rfl (.cons rfl (.cons rfl .nil))))
       refine JC.anyF (base := [(2, ov (S (rL r_api_Item) a_3)), (3, ov (PTR gb_4 0)), (4, ov (PTR gb_5 0)), (7, ov (S rB x_27)), (9, ov (HDR go_29 0 (List.length v_28) gc_30))])
           (fs := fun γ => [⟨some 48, ov (S rB x_27)⟩, ⟨some 49, ov (S rB x_27)⟩, ⟨some 50, ov (HDR go_29 0 (List.length v_28) gc_30)⟩, ⟨some 51, ov (S rS v_28)⟩, ⟨some 52, ov (S (rL r_api_Item) a_3)⟩, ⟨some 53, ov (HDR (deo (γ 5 0)) 0 (List.length v_31) (γ 5 1))⟩, ⟨some 54, ov (S rS v_31)⟩, ⟨some 55, ov (S rB v_34)⟩, ⟨some 56, ov (S rB v_34)⟩, ⟨some 57, ov (S rB v_34)⟩, ⟨some 58, bif (!v_34) then ov (S rB x_27) else .one .und⟩, ⟨some 59, bif (!v_34) then ov (S rB v_35) else .one .und⟩, ⟨some 60, bif (!v_34) then ov (S rB v_35) else .one .und⟩, ⟨some 61, .one .und⟩, ⟨some 62, .one .und⟩, ⟨some 63, .one .und⟩, ⟨some 64, ov (S rB false)⟩, ⟨some 65, ov (S rB false)⟩])
           (rs := fun γ => [⟨cown go_29 (rU UInt8) v_28 0 gc_30, none, none, [3]⟩, ⟨cvar gb_4 r_api_Frame t_1, none, none, []⟩, ⟨cvar gb_5 r_api_Frame a_2, none, none, []⟩, ⟨cown (deo (γ 5 0)) (rU UInt8) v_31 0 (γ 5 1), (some 5), none, [6]⟩])
           (afts := [[], [], [], [], [], [5, 6, 7, 8, 9, 10, 11, 12, 13, 14, 15, 16, 17], [], [], [], [], [], [], [], [], [], [], [], []]) (js := [0, 0, 0]) mixed (.cons rfl (.cons rfl (.cons rfl (.cons rfl (.cons rfl .nil))))) (fun _ => rfl)
           (by
      refine db 1 7 <| dm 2 0 48 <| dY 3 (fun γ ρ B hb hd => ⟨.yes rfl (ltB rfl) (hl hd 1 49 rfl) hc22, lkB (op_move lb (.tmp (hb 9 _ rfl)))⟩) <| dY 4 (fun γ ρ B hb hd => ⟨.yes rfl (ltB rfl) (hl hd 1 49 rfl) hc22, OpStep.lk ⟨ρ, (cown go_29 (rU UInt8) v_28 0 gc_30) :: B, _⟩ (op_convOS (j := 0) lb tu27 tu5 tu9 rfl (tl hd 2 50))⟩) <| dY 5 (fun γ ρ B hb hd => ⟨.yes rfl (ltB rfl) (hl hd 1 49 rfl) hc22, lkB (op_move lb (.tmp (hb 2 _ rfl)))⟩) ?_
      refine DSteps.cons (j := 6) rfl (fun _ => rfl) (.runX (fun _ _ => rfl) (fun γ ρ B hb hd => ⟨.yes rfl (ltB rfl) (hl hd 1 49 rfl) hc22, OpX.ghost (γ := Option Nat × Nat) (st' := fun q => setO ⟨ρ, (cown q.1 (rU UInt8) v_31 0 q.2) :: B, _⟩ (some 53) (ov (HDR q.1 0 (List.length v_31) q.2))) (fun q c => bif Nat.beq c 0 then eno q.1 else q.2) (op_call (js := []) ld cl23 (sim_ref11_Items k a_3 v_31 hv_31) .func (.cons (tl hd 4 52) .nil) rfl) (fun q => by obtain ⟨q0, q1⟩ := q; cases q0 <;> exact Imp.refl)⟩) (fun _ _ => rfl) (fun _ _ => rfl)) ?_
      refine dY 7 (fun γ ρ B hb hd => ⟨.yes rfl (ltB rfl) (hl hd 1 49 rfl) hc22, OpStep.lk ⟨ρ, (cown (deo (γ 5 0)) (rU UInt8) v_31 0 (γ 5 1)) :: B, _⟩ (op_convOS (j := 0) lb tu27 tu5 tu9 rfl (tl hd 5 53))⟩) <| dY 8 (fun γ ρ B hb hd => ⟨.yes rfl (ltB rfl) (hl hd 1 49 rfl) hc22, lkB (op_cmpS lb (tl hd 3 51) (tl hd 6 54) (cs hv_34))⟩) <| dS 9 (fun γ ρ B hb hd => op_pickT lb (tl hd 1 49) hc22 (tl hd 7 55)) <| dm 10 8 56 ?_
      refine dC 11 (!v_34) (fun γ => ov (S rB x_27)) (fun γ ρ B hb hd => ⟨(Guard.isF (ltB rfl) rfl (hl hd 9 57 rfl)), fun hq_23 => op_move lb (.tmp (hb 7 _ rfl))⟩) ?_
      refine dC 12 (!v_34) (fun γ => ov (S rB v_35)) (fun γ ρ B hb hd => ⟨(Guard.isF (ltB rfl) rfl (hl hd 9 57 rfl)), fun hq_24 => op_not lb (HasO.cnd (tl hd 10 58) (notT (notF hq_24))) hv_35⟩) ?_
      refine dC 13 (!v_34) (fun γ => ov (S rB v_35)) (fun γ ρ B hb hd => ⟨(Guard.isF (ltB rfl) rfl (hl hd 9 57 rfl)), fun hq_25 => op_move lb (HasO.cnd (tl hd 11 59) (notT (notF hq_25)))⟩) ?_
      refine dK 14 (fun γ ρ B hb hd => (Guard.eqB (Guard.cT (q := (!v_34)) (ltB rfl) rfl (hl hd 12 60 rfl)) (andFR hc29))) <| dK 15 (fun γ ρ B hb hd => (Guard.eqB (Guard.cT (q := (!v_34)) (ltB rfl) rfl (hl hd 12 60 rfl)) (andFR hc29))) <| dK 16 (fun γ ρ B hb hd => (Guard.eqB (Guard.cT (q := (!v_34)) (ltB rfl) rfl (hl hd 12 60 rfl)) (andFR hc29))) <| dY 17 (fun γ ρ B hb hd => ⟨.yes rfl (ltB rfl) (hl hd 9 57 rfl) hc27, lkB (op_pickF lb (HasO.cnd (tl hd 12 60) (notT hc27)) hc29 .cB)⟩) <| dS 18 (fun γ ρ B hb hd => op_pickF lb (tl hd 9 57) hc27 (tl hd 16 64)) ?_
      exact DSteps.nil)
           (by decide +kernel) (fun _ => rfl) (fun _ => rfl) (fun _ => rfl) rfl
           (ρ' := fun γ => [(3, ov (PTR gb_4 0)), (4, ov (PTR gb_5 0)), (65, ov (S rB false))])
           (X' := fun γ => [cown go_29 (rU UInt8) v_28 0 gc_30, cvar gb_4 r_api_Frame t_1, cvar gb_5 r_api_Frame a_2, cown (deo (γ 5 0)) (rU UInt8) v_31 0 (γ 5 1)])
           (fun γ ρ hb hd => (.cons (hb 3 _ rfl) (.cons (hb 4 _ rfl) (.cons (hdq hd 17 65 rfl) .nil)))) (fun _ => rfl) (fun γ => ?_)
       generalize (deo (γ 5 0)) = go_32
       generalize (γ 5 1) = gc_33
       clear γ
       refine JQ.at ⟨[(3, ov (PTR gb_4 0)), (4, ov (PTR gb_5 0)), (65, ov (S rB false))], [cown go_29 (rU UInt8) v_28 0 gc_30, cvar gb_4 r_api_Frame t_1, cvar gb_5 r_api_Frame a_2, cown go_32 (rU UInt8) v_31 0 gc_33], []⟩ ?_
       try obtain rfl := so hx20
       exact JQ.join () (Imp.norm (js := [1, 1]) rfl (.cons rfl (.cons rfl (.cons rfl .nil))))
     obtain ⟨v_37, hv_37, hx20⟩ := lt1_inv hx20
     rcases iteB_inv hx20 with ⟨hc31, hx20⟩ | ⟨hc31, hx20⟩
     · obtain ⟨v_38, hv_38, hx20⟩ := lt1_inv hx20
       refine JC.anyF (base := [(3, ov (PTR gb_4 0)), (4, ov (PTR gb_5 0)), (7, ov (S rB x_27)), (9, ov (HDR go_29 0 (List.length v_28) gc_30))])
           (fs := fun γ => [⟨some 48, ov (S rB x_27)⟩, ⟨some 49, ov (S rB x_27)⟩, ⟨some 50, .one .und⟩, ⟨some 51, .one .und⟩, ⟨some 52, .one .und⟩, ⟨some 53, .one .und⟩, ⟨some 54, .one .und⟩, ⟨some 55, .one .und⟩, ⟨some 56, ov (S rB false)⟩, ⟨some 57, ov (S rB false)⟩, ⟨some 58, ov (S rB x_27)⟩, ⟨some 59, ov (S rB v_37)⟩, ⟨some 60, ov (S rB v_37)⟩, ⟨some 61, ov (HDR go_29 0 (List.length v_28) gc_30)⟩, ⟨some 62, ov (S (rI .i64) (List.length v_28 : Int))⟩, ⟨some 63, ov (S rB v_38)⟩, ⟨some 64, ov (S rB v_38)⟩, ⟨some 65, ov (S rB v_38)⟩])
           (rs := fun γ => [⟨cown go_29 (rU UInt8) v_28 0 gc_30, none, none, []⟩, ⟨cvar gb_4 r_api_Frame t_1, none, none, []⟩, ⟨cvar gb_5 r_api_Frame a_2, none, none, []⟩])
           (afts := nn 18) (js := [0, 0, 0]) mixed (.cons rfl (.cons rfl (.cons rfl (.cons rfl .nil)))) (fun _ => rfl)
           (by
      refine db 1 7 <| dm 2 0 48 <| kn 3 1 49 rfl hc22 <| kn 4 1 49 rfl hc22 <| kn 5 1 49 rfl hc22 ?_
      refine kn 6 1 49 rfl hc22 <| kn 7 1 49 rfl hc22 <| kn 8 1 49 rfl hc22 <| dS 9 (fun γ ρ B hb hd => op_pickF lb (tl hd 1 49) hc22 .cB) <| dm 10 8 56 ?_
      refine dY 11 (fun γ ρ B hb hd => ⟨.yes rfl (ltB rfl) (hl hd 9 57 rfl) rfl, lkB (op_move lb (.tmp (hb 7 _ rfl)))⟩) <| dY 12 (fun γ ρ B hb hd => ⟨.yes rfl (ltB rfl) (hl hd 9 57 rfl) rfl, lkB (op_not lb (tl hd 10 58) hv_37)⟩) <| dY 13 (fun γ ρ B hb hd => ⟨.yes rfl (ltB rfl) (hl hd 9 57 rfl) rfl, lkB (op_move lb (tl hd 11 59))⟩) <| dY 14 (fun γ ρ B hb hd => ⟨.yes rfl (ltB rfl) (hl hd 12 60 rfl) hc31, lkB (op_move lb (.tmp (hb 9 _ rfl)))⟩) <| dY 15 (fun γ ρ B hb hd => ⟨.yes rfl (ltB rfl) (hl hd 12 60 rfl) hc31, lkB (op_lenH lb tu27 (tl hd 13 61))⟩) ?_
      refine dY 16 (fun γ ρ B hb hd => ⟨.yes rfl (ltB rfl) (hl hd 12 60 rfl) hc31, lkB (op_cmpI lb (tl hd 14 62) .cI (cs hv_38))⟩) <| dY 17 (fun γ ρ B hb hd => ⟨.yes rfl (ltB rfl) (hl hd 9 57 rfl) rfl, lkB (op_pickT lb (tl hd 12 60) hc31 (tl hd 15 63))⟩) <| dS 18 (fun γ ρ B hb hd => op_pickF lb (tl hd 9 57) rfl (tl hd 16 64)) ?_
      exact DSteps.nil)
           (by decide +kernel) (fun _ => rfl) (fun _ => rfl) (fun _ => rfl) rfl
           (ρ' := fun γ => [(3, ov (PTR gb_4 0)), (4, ov (PTR gb_5 0)), (65, ov (S rB v_38))])
           (X' := fun γ => [cown go_29 (rU UInt8) v_28 0 gc_30, cvar gb_4 r_api_Frame t_1, cvar gb_5 r_api_Frame a_2])
           (fun γ ρ hb hd => (.cons (hb 3 _ rfl) (.cons (hb 4 _ rfl) (.cons (hdq hd 17 65 rfl) .nil)))) (fun _ => rfl) (fun γ => ?_)
       refine JQ.at ⟨[(3, ov (PTR gb_4 0)), (4, ov (PTR gb_5 0)), (65, ov (S rB v_38))], [cown go_29 (rU UInt8) v_28 0 gc_30, cvar gb_4 r_api_Frame t_1, cvar gb_5 r_api_Frame a_2], []⟩ ?_
       try obtain rfl := so hx20
       exact JQ.join () (Imp.norm (js := [1, 1]) rfl (.cons rfl (.cons rfl (.cons rfl .nil))))
     refine JC.anyF (base := [(3, ov (PTR gb_4 0)), (4, ov (PTR gb_5 0)), (7, ov (S rB x_27))])
         (fs := fun γ => [⟨some 48, ov (S rB x_27)⟩, ⟨some 49, ov (S rB x_27)⟩, ⟨some 50, .one .und⟩, ⟨some 51, .one .und⟩, ⟨some 52, .one .und⟩, ⟨some 53, .one .und⟩, ⟨some 54, .one .und⟩, ⟨some 55, .one .und⟩, ⟨some 56, ov (S rB false)⟩, ⟨some 57, ov (S rB false)⟩, ⟨some 58, ov (S rB x_27)⟩, ⟨some 59, ov (S rB v_37)⟩, ⟨some 60, ov (S rB v_37)⟩, ⟨some 61, .one .und⟩, ⟨some 62, .one .und⟩, ⟨some 63, .one .und⟩, ⟨some 64, ov (S rB false)⟩, ⟨some 65, ov (S rB false)⟩])
         (rs := fun γ => [⟨cown go_29 (rU UInt8) v_28 0 gc_30, none, none, []⟩, ⟨cvar gb_4 r_api_Frame t_1, none, none, []⟩, ⟨cvar gb_5 r_api_Frame a_2, none, none, []⟩])
         (afts := nn 18) (js := [0, 0, 0]) mixed (.cons rfl (.cons rfl (.cons rfl .nil))) (fun _ => rfl)
         (by
      refine db 1 7 <| dm 2 0 48 <| kn 3 1 49 rfl hc22 <| kn 4 1 49 rfl hc22 <| kn 5 1 49 rfl hc22 ?_
      refine kn 6 1 49 rfl hc22 <| kn 7 1 49 rfl hc22 <| kn 8 1 49 rfl hc22 <| dS 9 (fun γ ρ B hb hd => op_pickF lb (tl hd 1 49) hc22 .cB) <| dm 10 8 56 ?_
      refine dY 11 (fun γ ρ B hb hd => ⟨.yes rfl (ltB rfl) (hl hd 9 57 rfl) rfl, lkB (op_move lb (.tmp (hb 7 _ rfl)))⟩) <| dY 12 (fun γ ρ B hb hd => ⟨.yes rfl (ltB rfl) (hl hd 9 57 rfl) rfl, lkB (op_not lb (tl hd 10 58) hv_37)⟩) <| dY 13 (fun γ ρ B hb hd => ⟨.yes rfl (ltB rfl) (hl hd 9 57 rfl) rfl, lkB (op_move lb (tl hd 11 59))⟩) <| kn 14 12 60 rfl hc31 <| kn 15 12 60 rfl hc31 ?_
      refine kn 16 12 60 rfl hc31 <| dY 17 (fun γ ρ B hb hd => ⟨.yes rfl (ltB rfl) (hl hd 9 57 rfl) rfl, lkB (op_pickF lb (tl hd 12 60) hc31 .cB)⟩) <| dS 18 (fun γ ρ B hb hd => op_pickF lb (tl hd 9 57) rfl (tl hd 16 64)) ?_
      exact DSteps.nil)
         (by decide +kernel) (fun _ => rfl) (fun _ => rfl) (fun _ => rfl) rfl
         (ρ' := fun γ => [(3, ov (PTR gb_4 0)), (4, ov (PTR gb_5 0)), (65, ov (S rB false))])
         (X' := fun γ => [cown go_29 (rU UInt8) v_28 0 gc_30, cvar gb_4 r_api_Frame t_1, cvar gb_5 r_api_Frame a_2])
         (fun γ ρ hb hd => (.cons (hb 3 _ rfl) (.cons (hb 4 _ rfl) (.cons (hdq hd 17 65 rfl) .nil)))) (fun _ => rfl) (fun γ => ?_)
     refine JQ.at ⟨[(3, ov (PTR gb_4 0)), (4, ov (PTR gb_5 0)), (65, ov (S rB false))], [cown go_29 (rU UInt8) v_28 0 gc_30, cvar gb_4 r_api_Frame t_1, cvar gb_5 r_api_Frame a_2], []⟩ ?_
     try obtain rfl := so hx20
     exact JQ.join () (Imp.norm (js := [1, 1]) rfl (.cons rfl (.cons rfl (.cons rfl .nil))))
   refine jr <| jc (op_assign lb .cI) <| jn <| JC.block ?_
   obtain ⟨tv10, hL10, hq10⟩ := bnd_inv hx9
   refine JC.pre ?_ (JC.loop (γ := Unit) (stf := fun s q => ⟨[(2, ov (S (rL r_api_Item) a_3)), (3, ov (PTR gb_4 0)), (4, ov (PTR gb_5 0)), (7, ov (S rB s.1)), (8, ov (S (rI .i64) s.2))], [cvar gb_4 r_api_Frame t_1, cvar gb_5 r_api_Frame a_2], []⟩) (q := ()) hL10 ?_)
   · exact (Imp.norm (js := [0, 0]) rfl (.cons rfl (.cons rfl (.cons rfl (.cons rfl (.cons rfl .nil))))))
   intro s q x hx hr
   obtain ⟨x_13, x_14⟩ := s
   obtain _ := q
   change law11_FrameLooks'4.b1 k a_3 x_13 x_14 = some x at hx
   unfold law11_FrameLooks'4.b1 at hx
   refine JC.at ⟨[(2, ov (S (rL r_api_Item) a_3)), (3, ov (PTR gb_4 0)), (4, ov (PTR gb_5 0)), (7, ov (S rB x_13)), (8, ov (S (rI .i64) x_14))], [cvar gb_4 r_api_Frame t_1, cvar gb_5 r_api_Frame a_2], []⟩ ?_
   refine JC.seq <| jr <| jmv rfl rfl <| jmv rfl rfl <| jc (op_lenL lb tu23 (.tmp rfl)) ?_
   obtain ⟨v_15, hv_15, hx⟩ := lt1_inv hx
   refine jc (op_cmpI lb (.tmp rfl) (.tmp rfl) (cs hv_15)) <| jn ?_
   rcases iteB_inv hx with ⟨hc11, hx⟩ | ⟨hc11, hx⟩
   · refine JC.condT (.tmp rfl) hc11 ?_
     refine JC.skip ?_
     refine JQ.then ?_
     obtain ⟨tv12, hx12, hq12⟩ := bnd_inv hx
     refine JC.seqK (α := Bool) (γ := Unit) (stj := fun v q => ⟨[(2, ov (S (rL r_api_Item) a_3)), (3, ov (PTR gb_4 0)), (4, ov (PTR gb_5 0)), (7, ov (S rB v)), (8, ov (S (rI .i64) x_14))], [cvar gb_4 r_api_Frame t_1, cvar gb_5 r_api_Frame a_2], []⟩) (p := fun v => tv12 = (.inl v)) (fun v q hv => ?_) ?_
     · subst hv
       obtain ⟨x_24, hvv⟩ : ∃ z, z = v := ⟨_, rfl⟩
       subst hvv
       obtain _ := q
       dsimp only at hq12
       refine JC.at ⟨[(2, ov (S (rL r_api_Item) a_3)), (3, ov (PTR gb_4 0)), (4, ov (PTR gb_5 0)), (7, ov (S rB x_24)), (8, ov (S (rI .i64) x_14))], [cvar gb_4 r_api_Frame t_1, cvar gb_5 r_api_Frame a_2], []⟩ ?_
       refine JC.region <| jmv rfl rfl ?_
       obtain ⟨v_25, hv_25, hq12⟩ := lt1_inv hq12
       refine jc (op_arI lb (.tmp rfl) .cI (cs hv_25)) <| jc (op_assign lb (.tmp rfl)) <| JL.nil ?_
       try obtain rfl := so hq12
       exact JQ.next () rfl (Imp.norm (js := [0, 0]) rfl (.cons rfl (.cons rfl (.cons rfl (.cons rfl (.cons rfl .nil))))))
     refine JC.block <| JC.seq <| JC.seq ?_
     obtain ⟨v_16, hv_16, hx12⟩ := bnd_inv hx12
     obtain ⟨v_17, hv_17, hx12⟩ := bnd_inv hx12
     obtain ⟨v_18, hv_18, hx12⟩ := bnd_inv hx12
     obtain ⟨v_19, hv_19, hx12⟩ := bnd_inv hx12
     obtain ⟨v_20, hv_20, hx12⟩ := lt1_inv hx12
     refine JC.anyF (base := [(2, ov (S (rL r_api_Item) a_3)), (3, ov (PTR gb_4 0)), (4, ov (PTR gb_5 0)), (7, ov (S rB x_13)), (8, ov (S (rI .i64) x_14))])
         (fs := fun γ => [⟨some 27, ov (S (rL r_api_Item) a_3)⟩, ⟨some 28, ov (S (rI .i64) x_14)⟩, ⟨some 29, ov (PT r_api_Item v_16)⟩, ⟨some 30, ov (A r_api_Item v_16)⟩, ⟨some 31, ov (S rB v_17)⟩, ⟨some 32, ov (S (rL r_api_Item) a_3)⟩, ⟨some 33, ov (S (rI .i64) x_14)⟩, ⟨some 34, ov (PT r_api_Item v_18)⟩, ⟨some 35, ov (A r_api_Item v_18)⟩, ⟨some 36, ov (S rB v_19)⟩, ⟨some 37, ov (S rB v_20)⟩])
         (rs := fun γ => [⟨cvar gb_4 r_api_Frame t_1, none, none, []⟩, ⟨cvar gb_5 r_api_Frame a_2, none, none, []⟩])
         (afts := nn 11) (js := [0, 0]) mixed (.cons rfl (.cons rfl (.cons rfl (.cons rfl (.cons rfl .nil))))) (fun _ => rfl)
         (by
      refine db 1 2 <| db 2 8 <| dS 3 (fun γ ρ B hb hd => op_indexAddrLg lb tu23 tz62 (tl hd 0 27) (tl hd 1 28) hv_16) <| dS 4 (fun γ ρ B hb hd => op_loadPAg lb tA62 (tl hd 2 29) rfl) <| dS 5 (fun γ ρ B hb hd => (op_call (js := []) ld cl20 (sim_frame_MayItem k v_16 v_17 hv_17) .func (.cons (tl hd 3 30) .nil) rfl).post (fun _ => Imp.refl)) ?_
      refine db 6 2 <| db 7 8 <| dS 8 (fun γ ρ B hb hd => op_indexAddrLg lb tu23 tz62 (tl hd 5 32) (tl hd 6 33) hv_18) <| dS 9 (fun γ ρ B hb hd => op_loadPAg lb tA62 (tl hd 7 34) rfl) <| dS 10 (fun γ ρ B hb hd => (op_call (js := []) ld cl21 (sim_ref11_MayItem k v_18 v_19 hv_19) .func (.cons (tl hd 8 35) .nil) rfl).post (fun _ => Imp.refl)) ?_
      refine dS 11 (fun γ ρ B hb hd => op_neB lb tu4 (tl hd 4 31) (tl hd 9 36) hv_20) ?_
      exact DSteps.nil)
         (by decide +kernel) (fun _ => rfl) (fun _ => rfl) (fun _ => rfl) rfl
         (ρ' := fun γ => [(2, ov (S (rL r_api_Item) a_3)), (3, ov (PTR gb_4 0)), (4, ov (PTR gb_5 0)), (7, ov (S rB x_13)), (8, ov (S (rI .i64) x_14)), (37, ov (S rB v_20))])
         (X' := fun γ => [cvar gb_4 r_api_Frame t_1, cvar gb_5 r_api_Frame a_2])
         (fun γ ρ hb hd => (.cons (hb 2 _ rfl) (.cons (hb 3 _ rfl) (.cons (hb 4 _ rfl) (.cons (hb 7 _ rfl) (.cons (hb 8 _ rfl) (.cons (hdq hd 10 37 rfl) .nil))))))) (fun _ => rfl) (fun γ => ?_)
     refine JQ.at ⟨[(2, ov (S (rL r_api_Item) a_3)), (3, ov (PTR gb_4 0)), (4, ov (PTR gb_5 0)), (7, ov (S rB x_13)), (8, ov (S (rI .i64) x_14)), (37, ov (S rB v_20))], [cvar gb_4 r_api_Frame t_1, cvar gb_5 r_api_Frame a_2], []⟩ ?_
     refine JQ.then ?_
     rcases iteB_inv hx12 with ⟨hc13, hx12⟩ | ⟨hc13, hx12⟩
     · refine JC.condT (.tmp rfl) hc13 ?_
       refine jr <| jc (op_assign lb .cB) <| jn ?_
       refine JC.ret ?_
       refine JQ.outR ?_
       refine JQ.outRB ?_
       try obtain rfl := so hx12
       dsimp only at hq12
       refine JQ.outR ?_
       try obtain rfl := so hq12
       have ht := hr _ rfl
       clear hr
       first | subst ht | clear ht
       dsimp only at hq10
       refine JQ.outR ?_
       refine JQ.outRB ?_
       try obtain rfl := so hq10
       dsimp only at hq9
       refine JQ.outR ?_
       obtain rfl := so hq9
       exact jd (.val (S rB false)) rfl rfl rfl rfl rfl rfl
     refine JC.condF (.tmp rfl) hc13 ?_
     refine JC.skip ?_
     refine JQ.then <| JC.region <| jmv rfl rfl <| jmv rfl rfl ?_
     refine JL.cnd (sv := ov (S (rL r_api_Item) a_3)) (Guard.isT (ltB rfl) rfl rfl) rfl (ltB rfl) (fun hq_14 => op_move lb (.tmp rfl)) ?_
     refine JL.cnd (sv := ov (S (rI .i64) x_14)) (Guard.isT (ltB rfl) rfl rfl) rfl (ltB rfl) (fun hq_15 => op_move lb (.tmp rfl)) ?_
     obtain ⟨v_21, hv_21, hx12⟩ := bnd_inv hx12
     refine JL.cnd (sv := ov (PT r_api_Item v_21)) (Guard.isT (ltB rfl) rfl rfl) rfl (ltB rfl) (fun hq_16 => op_indexAddrLg lb tu23 tz62 (HasO.cnd (.tmp rfl) hq_16) (HasO.cnd (.tmp rfl) hq_16) (ifT hv_21 hq_16)) ?_
     refine JL.cnd (sv := ov (A r_api_Item v_21)) (Guard.isT (ltB rfl) rfl rfl) rfl (ltB rfl) (fun hq_17 => op_loadPAg lb tA62 (HasO.cnd (.tmp rfl) hq_17) rfl) ?_
     obtain ⟨v_22, hv_22, hx12⟩ := bnd_inv hx12
     refine JL.cnd (sv := ov (S rB v_22)) (Guard.isT (ltB rfl) rfl rfl) rfl (ltB rfl) (fun hq_18 => (op_call (js := []) ld cl21 (sim_ref11_MayItem k v_21 v_22 (ifT hv_22 hq_18)) .func (.cons (HasO.cnd (.tmp rfl) hq_18) .nil) rfl).post (fun _ => Imp.refl)) ?_
     obtain ⟨v_23, hv_23, hx12⟩ := lt1_inv hx12
     refine jc (op_pickCS lb (.tmp rfl) (fun hb19 => (HasO.cnd (.tmp rfl) hb19)) (fun hb19 => .cB) hv_23) <| jc (op_assign lb (.tmp rfl)) <| JL.nil ?_
     refine JQ.outNB ?_
     try obtain rfl := so hx12
     exact JQ.joinK v_23 () rfl (Imp.norm (js := [0, 0]) rfl (.cons rfl (.cons rfl (.cons rfl (.cons rfl (.cons rfl .nil))))))
   refine JC.condF (.tmp rfl) hc11 ?_
   refine JC.exit ?_
   refine JQ.outX ?_
   try obtain rfl := so hx
   have ht := hr _ rfl
   clear hr
   first | subst ht | clear ht
   dsimp only at hq10
   refine JQ.outX ?_
   refine JQ.here ?_
   try obtain rfl := so hq10
   exact JQ.joinK x_13 () rfl (Imp.norm (js := [0, 0]) rfl (.cons rfl (.cons rfl (.cons rfl (.cons rfl .nil)))))
 refine JC.region <| jc (op_loadA (j := 0) lb tA39 (.tmp rfl) rfl (Comp.self r_api_Frame t_1) rfl) ?_
 obtain ⟨v_6, hv_6, hx1⟩ := bnd_inv hx1
 refine jx (op_call (js := []) ld cl8 (sim_ref11_Much k t_1 v_6 hv_6) .func (.cons (.tmp rfl) .nil) rfl) (fun _ => ?_)
 refine jmv rfl rfl ?_
 refine JL.cnd (sv := ov (A r_api_Frame a_2)) (Guard.isF (ltB rfl) rfl rfl) rfl (ltB rfl) (fun hq_2 => op_loadA (j := 1) lb tA39 (.tmp rfl) rfl (Comp.self r_api_Frame a_2) rfl) ?_
 obtain ⟨v_7, hv_7, hx1⟩ := bnd_inv hx1
 refine JL.cnd (sv := ov (S rB v_7)) (Guard.isF (ltB rfl) rfl rfl) rfl (ltB rfl) (fun hq_3 => (op_call (js := []) ld cl8 (sim_ref11_Much k a_2 v_7 (ifT hv_7 hq_3)) .func (.cons (HasO.cnd (.tmp rfl) (notT (notF hq_3))) .nil) rfl).post (fun _ => Imp.refl)) ?_
 refine JL.sub ⟨[(2, ov (S (rL r_api_Item) a_3)), (3, ov (PTR gb_4 0)), (4, ov (PTR gb_5 0)), (12, ov (S rB v_6)), (14, bif (!v_6) then ov (S rB v_7) else .one .und)], [cvar gb_4 r_api_Frame t_1, cvar gb_5 r_api_Frame a_2], []⟩ (.cons rfl (.cons rfl (.cons rfl (.cons rfl (.cons rfl .nil))))) rfl rfl ?_
 obtain ⟨v_8, hv_8, hx1⟩ := lt1_inv hx1
 refine jc (op_pickCS lb (.tmp rfl) (fun hb4 => .cB) (fun hb4 => (HasO.cnd (.tmp rfl) (notT hb4))) hv_8) <| jmv rfl rfl ?_
 refine JL.cnd (sv := ov (S (rL r_api_Item) a_3)) (Guard.isF (ltB rfl) rfl rfl) rfl (ltB rfl) (fun hq_5 => op_move lb (.tmp rfl)) ?_
 obtain ⟨v_9, hv_9, hx1⟩ := bnd_inv hx1
 refine JL.cnd (sv := ov (S rB v_9)) (Guard.isF (ltB rfl) rfl rfl) rfl (ltB rfl) (fun hq_6 => (op_call (js := []) ld cl19 (sim_ref11_Long k a_3 v_9 (ifT hv_9 hq_6)) .func (.cons (HasO.cnd (.tmp rfl) (notT (notF hq_6))) .nil) rfl).post (fun _ => Imp.refl)) ?_
 obtain ⟨v_10, hv_10, hx1⟩ := lt1_inv hx1
 refine jc (op_pickCS lb (.tmp rfl) (fun hb7 => .cB) (fun hb7 => (HasO.cnd (.tmp rfl) (notT hb7))) hv_10) <| JL.nil ?_
 try obtain rfl := so hx1
 exact JQ.join () (Imp.norm (js := [0, 0]) rfl (.cons rfl (.cons rfl (.cons rfl (.cons rfl .nil)))))

end Go.Proofs.YtklnihlchhhhlaaGreat
