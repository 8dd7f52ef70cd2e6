/- Walks. -/
import Derived.Test.YtkbkdfcakpbojaaT
import Derived.Test.YtkbkdfcakpbojaaW1
import Derived.Test.YtkbkdfcakpbojaaW3
import Derived.Test.YtkbkdfcakpbojaaW4
import Derived.Test.YtkbkdfcakpbojaaW6
namespace Go.Proofs.Ytkbkdfcakpbojaa
open Go Fw
set_option linter.unusedVariables false
set_option maxRecDepth 100000
set_option maxHeartbeats 4000000

theorem sim_law01_step'2 (k : Nat) (a_1 : law01_Step) (o_2 : Nat) (n_3 : Nat) (is_4 : Bool) (made_5 : Bool) (x_7 : (List UInt8)) (x_10 : ref01_Reader) (gb_6 : Nat) (go_8 : Option Nat) (gc_9 : Nat) (gb_11 : Nat) (r : Bool × (List UInt8) × Nat × Nat × Bool × Bool × ref01_Reader) (hm : law01_step'2 k a_1 o_2 n_3 is_4 made_5 x_7 x_10 = some r) : Sim Try.prog 17 [PTR gb_6 0, PTR gb_11 0, A r_law01_Step a_1] [cvar gb_6 (rP (rW (HDX go_8 (o_2 * 1) n_3)) (rP rB (rP rB r0))) ((), (is_4, (made_5, ()))), cown go_8 (rU UInt8) x_7 0 gc_9, cvar gb_11 r_ref01_Reader x_10] (γ := Unit) (fun q => [cvar gb_6 (rP (rW (HDX go_8 (r.2.2.1 * 1) r.2.2.2.1)) (rP rB (rP rB r0))) ((), (r.2.2.2.2.1, (r.2.2.2.2.2.1, ()))), cown go_8 (rU UInt8) r.2.1 0 gc_9, cvar gb_11 r_ref01_Reader r.2.2.2.2.2.2]) (fun q => .one (.val (S rB r.1))) := by
 unfold law01_step'2 at hm
 refine Sim.of Try.func17 rfl rfl (Nat.le_of_ble_eq_true rfl) (fun e0 w0 => ?_)
 refine JC.at ⟨[(0, ov (PTR gb_6 0)), (1, ov (PTR gb_11 0)), (2, ov (A r_law01_Step a_1))], [cvar gb_6 (rP (rW (HDX go_8 (o_2 * 1) n_3)) (rP rB (rP rB r0))) ((), (is_4, (made_5, ()))), cown go_8 (rU UInt8) x_7 0 gc_9, cvar gb_11 r_ref01_Reader x_10], []⟩ ?_
 refine JC.seq ?_
 refine JC.region ?_
 refine jx (op_boxA lb (.tmp rfl)) (fun q => ?_)
 obtain ⟨gb_12, hqq⟩ : ∃ z, z = q := ⟨_, rfl⟩
 subst hqq
 refine jc (op_assign lb .cB) ?_
 refine JL.nil ?_
 refine JQ.then ?_
 replace hm := bnd_inv hm
 obtain ⟨tv1, hx1, hq1⟩ := hm
 refine JC.seqK (α := Unit) (γ := Unit) (stj := fun v q => ⟨[], [cvar gb_6 (rP (rW (HDX go_8 (o_2 * 1) n_3)) (rP rB (rP rB r0))) ((), (is_4, (made_5, ()))), cown go_8 (rU UInt8) x_7 0 gc_9, cvar gb_11 r_ref01_Reader x_10], []⟩) (p := fun v => tv1 = (.inl v)) (fun v q hv => ?_) ?_
 · subst hv
   skip
   obtain _ := q
   dsimp only at hq1
   refine JC.at ⟨[], [cvar gb_6 (rP (rW (HDX go_8 (o_2 * 1) n_3)) (rP rB (rP rB r0))) ((), (is_4, (made_5, ()))), cown go_8 (rU UInt8) x_7 0 gc_9, cvar gb_11 r_ref01_Reader x_10], []⟩ ?_
   refine JC.seq ?_
   refine JC.region ?_
   refine jc (op_assign lb .cB) ?_
   refine JL.nil ?_
   refine JQ.then ?_
   refine JC.ret ?_
   replace hq1 := Option.some.inj hq1
   subst hq1
   exact JQ.done (js := [0, 0, 0]) (ss := [.val (S rB true)]) () (.inl rfl) (.nil rfl) rfl (.cons (.tmp rfl) .nil) rfl rfl rfl
 · refine JC.seq ?_
   refine JC.region ?_
   refine jc (op_fieldAddr (off := 0) lb tf43_0 (.tmp rfl)) ?_
   refine jc (op_loadS (j := 3) lb tS3 (.tmp rfl) rfl (Comp.trans (Comp.self r_law01_Step a_1) (comp_law01_Step_Kind a_1) (Nat.le_of_ble_eq_true rfl)) rfl rfl) ?_
   refine JL.nil ?_
   refine JQ.then ?_
   refine JC.block ?_
   refine JC.seq ?_
   refine JC.region ?_
   replace hx1 := lt1_inv hx1
   obtain ⟨v_13, hv_v_13, hx1⟩ := hx1
   refine jc (op_cmpI lb (.tmp rfl) .cI (congrArg some hv_v_13)) ?_
   refine jc (op_assign lb (.tmp rfl)) ?_
   refine JL.nil ?_
   refine JQ.then ?_
   replace hx1 := iteB_inv hx1
   rcases hx1 with ⟨hc2, hx1⟩ | ⟨hc2, hx1⟩
   · refine JC.condT (.tmp rfl) hc2 ?_
     refine JC.seq ?_
     replace hx1 := bnd_inv hx1
     obtain ⟨⟨v_14, x_15, x_16, x_17, x_18⟩, hv_v_14, hx1⟩ := hx1
     replace hx1 := bnd_inv hx1
     obtain ⟨⟨v_19, x_20⟩, hv_v_19, hx1⟩ := hx1
     replace hx1 := lt1_inv hx1
     obtain ⟨v_21, hv_v_21, hx1⟩ := hx1
     refine JC.anyE (kl := []) (kk := 0) (base := [(0, ov (PTR gb_6 0)), (1, ov (PTR gb_11 0)), (5, ov (PTR gb_12 0))])
         (fs := fun γ => [⟨some 14, ov (PTR gb_6 0)⟩, ⟨some 15, ov (PTR gb_12 (0 + 1))⟩, ⟨some 16, ov (S (rI .i64) a_1.N)⟩, ⟨some 17, ov (S (rU UInt64) v_14)⟩, ⟨some 18, ov (PTR gb_11 0)⟩, ⟨some 19, ov (PTR gb_12 (0 + 1))⟩, ⟨some 20, ov (S (rI .i64) a_1.N)⟩, ⟨some 21, ov (S (rU UInt64) v_19)⟩, ⟨some 22, ov (S rB v_21)⟩, ⟨some 6, ov (S rB v_21)⟩])
         (rs := fun γ => [⟨cvar gb_6 (rP (rW (HDX go_8 (o_2 * 1) n_3)) (rP rB (rP rB r0))) ((), (is_4, (made_5, ()))), none, (some 3), []⟩, ⟨cown go_8 (rU UInt8) x_7 0 gc_9, none, (some 3), []⟩, ⟨cvar gb_11 r_ref01_Reader x_10, none, (some 7), []⟩, ⟨cvar gb_12 r_law01_Step a_1, none, none, [2, 6]⟩, ⟨cvar gb_6 (rP (rW (HDX go_8 (x_15 * 1) x_16)) (rP rB (rP rB r0))) ((), (x_17, (x_18, ()))), (some 3), none, []⟩, ⟨cown go_8 (rU UInt8) x_7 0 gc_9, (some 3), none, []⟩, ⟨cvar gb_11 r_ref01_Reader x_20, (some 7), none, []⟩])
         (ds := [14, 15, 16, 17, 18, 19, 20, 21, 22, 6]) (bs := [0, 1, 5]) (afts := [[], [], [], [], [], [], [], [], [], []]) (js := [0, 0, 0, 0]) mixed (.cons rfl (.cons rfl (.cons rfl .nil))) (fun _ => rfl)
         (by
      refine dS 1 (fun γ ρ B hb hd => op_move lb (.tmp (hb 0 _ rfl))) ?_
      refine dS 2 (fun γ ρ B hb hd => op_fieldAddr (off := 1) lb tf43_1 (.tmp (hb 5 _ rfl))) ?_
      refine DSteps.cons (j := 3) rfl (fun _ => rfl) (.run (fun γ ρ B hb hd => ⟨.none, OpStep.at ⟨ρ, (cvar gb_12 r_law01_Step a_1) :: B, _⟩ (setO ⟨ρ, (cvar gb_12 r_law01_Step a_1) :: B, _⟩ _ _) (op_loadS (j := 0) lb tS3 (.tmp (hl hd 1 15 rfl)) rfl (Comp.trans (Comp.self r_law01_Step a_1) (comp_law01_Step_N a_1) (Nat.le_of_ble_eq_true rfl)) rfl rfl)⟩)) ?_
      refine DSteps.cons (j := 4) rfl (fun _ => rfl) (.run (fun γ ρ B hb hd => ⟨.none, OpStep.at ⟨ρ, (cvar gb_6 (rP (rW (HDX go_8 (o_2 * 1) n_3)) (rP rB (rP rB r0))) ((), (is_4, (made_5, ())))) :: (cown go_8 (rU UInt8) x_7 0 gc_9) :: B, _⟩ (setO ⟨ρ, (cvar gb_6 (rP (rW (HDX go_8 (x_15 * 1) x_16)) (rP rB (rP rB r0))) ((), (x_17, (x_18, ())))) :: (cown go_8 (rU UInt8) x_7 0 gc_9) :: B, _⟩ _ _) ((op_call (js := [0, 0]) ld cl39 (sim_wire_Reader_Number k a_1.N o_2 n_3 is_4 made_5 x_7 gb_6 go_8 gc_9 (v_14, x_15, x_16, x_17, x_18) hv_v_14) .func (.cons (.tmp (hl hd 0 14 rfl)) (.cons (.tmp (hl hd 2 16 rfl)) .nil)) rfl).post (fun _ => Imp.refl))⟩)) ?_
      refine dS 5 (fun γ ρ B hb hd => op_move lb (.tmp (hb 1 _ rfl))) ?_
      refine dS 6 (fun γ ρ B hb hd => op_fieldAddr (off := 1) lb tf43_1 (.tmp (hb 5 _ rfl))) ?_
      refine DSteps.cons (j := 7) rfl (fun _ => rfl) (.run (fun γ ρ B hb hd => ⟨.none, OpStep.at ⟨ρ, (cvar gb_12 r_law01_Step a_1) :: B, _⟩ (setO ⟨ρ, (cvar gb_12 r_law01_Step a_1) :: B, _⟩ _ _) (op_loadS (j := 0) lb tS3 (.tmp (hl hd 5 19 rfl)) rfl (Comp.trans (Comp.self r_law01_Step a_1) (comp_law01_Step_N a_1) (Nat.le_of_ble_eq_true rfl)) rfl rfl)⟩)) ?_
      refine DSteps.cons (j := 8) rfl (fun _ => rfl) (.run (fun γ ρ B hb hd => ⟨.none, OpStep.at ⟨ρ, (cvar gb_11 r_ref01_Reader x_10) :: B, _⟩ (setO ⟨ρ, (cvar gb_11 r_ref01_Reader x_20) :: B, _⟩ _ _) ((op_call (js := [0]) ld cl42 (sim_ref01_Reader_Number'2 k a_1.N x_10 gb_11 (v_19, x_20) hv_v_19) .func (.cons (.tmp (hl hd 4 18 rfl)) (.cons (.tmp (hl hd 6 20 rfl)) .nil)) rfl).post (fun _ => Imp.refl))⟩)) ?_
      refine dS 9 (fun γ ρ B hb hd => op_cmpU lb (.tmp (hl hd 3 17 rfl)) (.tmp (hl hd 7 21 rfl)) (congrArg some hv_v_21)) ?_
      refine dS 10 (fun γ ρ B hb hd => op_assign lb (.tmp (hl hd 8 22 rfl))) ?_
      exact DSteps.nil)
         (by decide +kernel) (fun _ => rfl) rfl (fun _ => rfl) (fun _ => rfl) rfl (by decide) (by decide) (by decide +kernel) (fun _ d h => by cases h)
         (ρ' := fun γ => [(6, ov (S rB v_21))])
         (X' := fun γ => [cvar gb_12 r_law01_Step a_1, cvar gb_6 (rP (rW (HDX go_8 (x_15 * 1) x_16)) (rP rB (rP rB r0))) ((), (x_17, (x_18, ()))), cown go_8 (rU UInt8) x_7 0 gc_9, cvar gb_11 r_ref01_Reader x_20])
         (fun γ ρ hb hd => (.cons (hdq hd 9 6 rfl) .nil)) (fun _ => rfl) (fun γ => ?_)
     refine JQ.at ⟨[(6, ov (S rB v_21))], [cvar gb_12 r_law01_Step a_1, cvar gb_6 (rP (rW (HDX go_8 (x_15 * 1) x_16)) (rP rB (rP rB r0))) ((), (x_17, (x_18, ()))), cown go_8 (rU UInt8) x_7 0 gc_9, cvar gb_11 r_ref01_Reader x_20], []⟩ ?_
     refine JQ.then ?_
     refine JC.ret ?_
     refine JQ.outRB ?_
     replace hx1 := Option.some.inj hx1
     first | subst hx1 | clear hx1
     dsimp only at hq1
     refine JQ.outR ?_
     replace hq1 := Option.some.inj hq1
     subst hq1
     exact JQ.done (js := [1, 1, 1]) (ss := [.val (S rB v_21)]) () (.inl rfl) (.nil rfl) rfl (.cons (.tmp rfl) .nil) rfl rfl rfl
   · refine JC.condF (.tmp rfl) hc2 ?_
     refine JC.seq ?_
     refine JC.region ?_
     replace hx1 := lt1_inv hx1
     obtain ⟨v_22, hv_v_22, hx1⟩ := hx1
     refine jc (op_cmpI lb (.tmp rfl) .cI (congrArg some hv_v_22)) ?_
     refine jc (op_assign lb (.tmp rfl)) ?_
     refine JL.nil ?_
     refine JQ.then ?_
     replace hx1 := iteB_inv hx1
     rcases hx1 with ⟨hc3, hx1⟩ | ⟨hc3, hx1⟩
     · refine JC.condT (.tmp rfl) hc3 ?_
       refine JC.seq ?_
       replace hx1 := bnd_inv hx1
       obtain ⟨⟨v_23, x_24, x_25, x_26, x_27, x_28⟩, hv_v_23, hx1⟩ := hx1
       replace hx1 := bnd_inv hx1
       obtain ⟨v_29, hv_v_29, hx1⟩ := hx1
       replace hx1 := bnd_inv hx1
       obtain ⟨⟨v_30, x_31⟩, hv_v_30, hx1⟩ := hx1
       replace hx1 := lt1_inv hx1
       obtain ⟨v_32, hv_v_32, hx1⟩ := hx1
       refine JC.anyE (kl := []) (kk := 0) (base := [(0, ov (PTR gb_6 0)), (1, ov (PTR gb_11 0))])
           (fs := fun γ => [⟨some 25, ov (PTR gb_6 0)⟩, ⟨some 26, ov (HDX go_8 (v_23 * 1) x_24)⟩, ⟨some 27, ov (S rS v_29)⟩, ⟨some 28, ov (PTR gb_11 0)⟩, ⟨some 29, ov (S (rL (rU UInt8)) v_30)⟩, ⟨some 30, ov (S rS v_30)⟩, ⟨some 31, ov (S rB v_32)⟩, ⟨some 6, ov (S rB v_32)⟩])
           (rs := fun γ => [⟨cvar gb_6 (rP (rW (HDX go_8 (o_2 * 1) n_3)) (rP rB (rP rB r0))) ((), (is_4, (made_5, ()))), none, (some 1), []⟩, ⟨cown go_8 (rU UInt8) x_7 0 gc_9, none, (some 1), []⟩, ⟨cvar gb_11 r_ref01_Reader x_10, none, (some 4), []⟩, ⟨cvar gb_12 r_law01_Step a_1, none, none, []⟩, ⟨cown go_8 (rU UInt8) x_7 0 gc_9, (some 1), none, [2]⟩, ⟨cvar gb_6 (rP (rW (HDX go_8 (x_25 * 1) x_26)) (rP rB (rP rB r0))) ((), (x_27, (x_28, ()))), (some 1), none, []⟩, ⟨cvar gb_11 r_ref01_Reader x_31, (some 4), none, []⟩])
           (ds := [25, 26, 27, 28, 29, 30, 31, 6]) (bs := [0, 1]) (afts := [[], [], [], [], [], [], [], []]) (js := [0, 0, 0, 0]) mixed (.cons rfl (.cons rfl .nil)) (fun _ => rfl)
           (by
      refine dS 1 (fun γ ρ B hb hd => op_move lb (.tmp (hb 0 _ rfl))) ?_
      refine DSteps.cons (j := 2) rfl (fun _ => rfl) (.run (fun γ ρ B hb hd => ⟨.none, OpStep.at ⟨ρ, (cvar gb_6 (rP (rW (HDX go_8 (o_2 * 1) n_3)) (rP rB (rP rB r0))) ((), (is_4, (made_5, ())))) :: (cown go_8 (rU UInt8) x_7 0 gc_9) :: B, _⟩ (setO ⟨ρ, (cown go_8 (rU UInt8) x_7 0 gc_9) :: (cvar gb_6 (rP (rW (HDX go_8 (x_25 * 1) x_26)) (rP rB (rP rB r0))) ((), (x_27, (x_28, ())))) :: B, _⟩ _ _) ((op_call (js := [0, 0]) ld cl26 (sim_wire_Reader_Blob k o_2 n_3 is_4 made_5 x_7 gb_6 go_8 gc_9 (v_23, x_24, x_25, x_26, x_27, x_28) hv_v_23) .func (.cons (.tmp (hl hd 0 25 rfl)) .nil) rfl).post (fun _ => Imp.refl))⟩)) ?_
      refine DSteps.cons (j := 3) rfl (fun _ => rfl) (.run (fun γ ρ B hb hd => ⟨.none, OpStep.at ⟨ρ, (cown go_8 (rU UInt8) x_7 0 gc_9) :: B, _⟩ (setO ⟨ρ, (cown go_8 (rU UInt8) x_7 0 gc_9) :: B, _⟩ _ _) (op_convXS (j := 0) (o := v_23) lb tu23 tu5 tu9 rfl (.tmp (hl hd 1 26 rfl)) hv_v_29)⟩)) ?_
      refine dS 4 (fun γ ρ B hb hd => op_move lb (.tmp (hb 1 _ rfl))) ?_
      refine DSteps.cons (j := 5) rfl (fun _ => rfl) (.run (fun γ ρ B hb hd => ⟨.none, OpStep.at ⟨ρ, (cvar gb_11 r_ref01_Reader x_10) :: B, _⟩ (setO ⟨ρ, (cvar gb_11 r_ref01_Reader x_31) :: B, _⟩ _ _) ((op_call (js := [0]) ld cl43 (sim_ref01_Reader_Blob'2 k x_10 gb_11 (v_30, x_31) hv_v_30) .func (.cons (.tmp (hl hd 3 28 rfl)) .nil) rfl).post (fun _ => Imp.refl))⟩)) ?_
      refine dS 6 (fun γ ρ B hb hd => op_convBS lb tu23 tu5 tu9 (.tmp (hl hd 4 29 rfl))) ?_
      refine dS 7 (fun γ ρ B hb hd => op_cmpS lb (.tmp (hl hd 2 27 rfl)) (.tmp (hl hd 5 30 rfl)) (congrArg some hv_v_32)) ?_
      refine dS 8 (fun γ ρ B hb hd => op_assign lb (.tmp (hl hd 6 31 rfl))) ?_
      exact DSteps.nil)
           (by decide +kernel) (fun _ => rfl) rfl (fun _ => rfl) (fun _ => rfl) rfl (by decide) (by decide) (by decide +kernel) (fun _ d h => by cases h)
           (ρ' := fun γ => [(6, ov (S rB v_32))])
           (X' := fun γ => [cvar gb_12 r_law01_Step a_1, cown go_8 (rU UInt8) x_7 0 gc_9, cvar gb_6 (rP (rW (HDX go_8 (x_25 * 1) x_26)) (rP rB (rP rB r0))) ((), (x_27, (x_28, ()))), cvar gb_11 r_ref01_Reader x_31])
           (fun γ ρ hb hd => (.cons (hdq hd 7 6 rfl) .nil)) (fun _ => rfl) (fun γ => ?_)
       refine JQ.at ⟨[(6, ov (S rB v_32))], [cvar gb_12 r_law01_Step a_1, cown go_8 (rU UInt8) x_7 0 gc_9, cvar gb_6 (rP (rW (HDX go_8 (x_25 * 1) x_26)) (rP rB (rP rB r0))) ((), (x_27, (x_28, ()))), cvar gb_11 r_ref01_Reader x_31], []⟩ ?_
       refine JQ.then ?_
       refine JC.ret ?_
       refine JQ.outRB ?_
       replace hx1 := Option.some.inj hx1
       first | subst hx1 | clear hx1
       dsimp only at hq1
       refine JQ.outR ?_
       replace hq1 := Option.some.inj hq1
       subst hq1
       exact JQ.done (js := [2, 1, 1]) (ss := [.val (S rB v_32)]) () (.inl rfl) (.nil rfl) rfl (.cons (.tmp rfl) .nil) rfl rfl rfl
     · refine JC.condF (.tmp rfl) hc3 ?_
       refine JC.seq ?_
       refine JC.region ?_
       replace hx1 := lt1_inv hx1
       obtain ⟨v_33, hv_v_33, hx1⟩ := hx1
       refine jc (op_cmpI lb (.tmp rfl) .cI (congrArg some hv_v_33)) ?_
       refine jc (op_assign lb (.tmp rfl)) ?_
       refine JL.sub ⟨[(0, ov (PTR gb_6 0)), (1, ov (PTR gb_11 0)), (5, ov (PTR gb_12 0)), (11, ov (S (rI .i64) a_1.Kind)), (32, ov (S rB v_33))], [cvar gb_6 (rP (rW (HDX go_8 (o_2 * 1) n_3)) (rP rB (rP rB r0))) ((), (is_4, (made_5, ()))), cown go_8 (rU UInt8) x_7 0 gc_9, cvar gb_11 r_ref01_Reader x_10, cvar gb_12 r_law01_Step a_1], []⟩ (.cons rfl (.cons rfl (.cons rfl (.cons rfl (.cons rfl .nil))))) rfl rfl ?_
       refine JL.nil ?_
       refine JQ.then ?_
       replace hx1 := iteB_inv hx1
       rcases hx1 with ⟨hc4, hx1⟩ | ⟨hc4, hx1⟩
       · refine JC.condT (.tmp rfl) hc4 ?_
         refine JC.seq ?_
         refine JC.region ?_
         refine jc (op_move lb (.tmp rfl)) ?_
         replace hx1 := bnd_inv hx1
         obtain ⟨⟨v_34, x_35, x_36, x_37, x_38⟩, hv_v_34, hx1⟩ := hx1
         refine jx (op_call (js := [0, 0]) ld cl27 (sim_wire_Reader_Dot k o_2 n_3 is_4 made_5 x_7 gb_6 go_8 gc_9 (v_34, x_35, x_36, x_37, x_38) hv_v_34) .func (.cons (.tmp rfl) .nil) rfl) (fun _ => ?_)
         refine jc (op_move lb (.tmp rfl)) ?_
         replace hx1 := bnd_inv hx1
         obtain ⟨⟨v_39, x_40⟩, hv_v_39, hx1⟩ := hx1
         refine jx (op_call (js := [2]) ld cl44 (sim_ref01_Reader_Dot k x_10 gb_11 (v_39, x_40) hv_v_39) .func (.cons (.tmp rfl) .nil) rfl) (fun _ => ?_)
         replace hx1 := lt1_inv hx1
         obtain ⟨v_41, hv_v_41, hx1⟩ := hx1
         refine jc (op_eqA lb qa48 (by decide) ng48 (.tmp rfl) (.tmp rfl) hv_v_41) ?_
         refine jc (op_assign lb (.tmp rfl)) ?_
         refine JL.nil ?_
         refine JQ.then ?_
         refine JC.ret ?_
         refine JQ.outRB ?_
         replace hx1 := Option.some.inj hx1
         first | subst hx1 | clear hx1
         dsimp only at hq1
         refine JQ.outR ?_
         replace hq1 := Option.some.inj hq1
         subst hq1
         exact JQ.done (js := [1, 1, 0]) (ss := [.val (S rB v_41)]) () (.inl rfl) (.nil rfl) rfl (.cons (.tmp rfl) .nil) rfl rfl rfl
       · refine JC.condF (.tmp rfl) hc4 ?_
         refine JC.seq ?_
         refine JC.region ?_
         replace hx1 := lt1_inv hx1
         obtain ⟨v_42, hv_v_42, hx1⟩ := hx1
         refine jc (op_cmpI lb (.tmp rfl) .cI (congrArg some hv_v_42)) ?_
         refine jc (op_assign lb (.tmp rfl)) ?_
         refine JL.nil ?_
         refine JQ.then ?_
         replace hx1 := iteB_inv hx1
         rcases hx1 with ⟨hc5, hx1⟩ | ⟨hc5, hx1⟩
         · refine JC.condT (.tmp rfl) hc5 ?_
           refine JC.seq ?_
           refine JC.region ?_
           refine jc (op_move lb (.tmp rfl)) ?_
           replace hx1 := bnd_inv hx1
           obtain ⟨⟨v_43, x_44, x_45, x_46, x_47⟩, hv_v_43, hx1⟩ := hx1
           refine jx (op_call (js := [0, 0]) ld cl28 (sim_wire_Reader_Vector k o_2 n_3 is_4 made_5 x_7 gb_6 go_8 gc_9 (v_43, x_44, x_45, x_46, x_47) hv_v_43) .func (.cons (.tmp rfl) .nil) rfl) (fun _ => ?_)
           refine jc (op_move lb (.tmp rfl)) ?_
           replace hx1 := bnd_inv hx1
           obtain ⟨⟨v_48, x_49⟩, hv_v_48, hx1⟩ := hx1
           refine jx (op_call (js := [2]) ld cl45 (sim_ref01_Reader_Vector k x_10 gb_11 (v_48, x_49) hv_v_48) .func (.cons (.tmp rfl) .nil) rfl) (fun _ => ?_)
           replace hx1 := lt1_inv hx1
           obtain ⟨v_50, hv_v_50, hx1⟩ := hx1
           refine jc (op_eqA lb qa50 (by decide) ng50 (.tmp rfl) (.tmp rfl) hv_v_50) ?_
           refine jc (op_assign lb (.tmp rfl)) ?_
           refine JL.nrm ⟨[(6, ov (S rB v_50))], [cvar gb_11 r_ref01_Reader x_49, cvar gb_6 (rP (rW (HDX go_8 (x_44 * 1) x_45)) (rP rB (rP rB r0))) ((), (x_46, (x_47, ()))), cown go_8 (rU UInt8) x_7 0 gc_9], []⟩ [0, 0, 0] rfl (.cons rfl .nil) rfl ?_
           refine JL.nil ?_
           refine JQ.then ?_
           refine JC.ret ?_
           refine JQ.outRB ?_
           replace hx1 := Option.some.inj hx1
           first | subst hx1 | clear hx1
           dsimp only at hq1
           refine JQ.outR ?_
           replace hq1 := Option.some.inj hq1
           subst hq1
           exact JQ.done (js := [1, 1, 0]) (ss := [.val (S rB v_50)]) () (.inl rfl) (.nil rfl) rfl (.cons (.tmp rfl) .nil) rfl rfl rfl
         · refine JC.condF (.tmp rfl) hc5 ?_
           refine JC.seq ?_
           refine JC.region ?_
           replace hx1 := lt1_inv hx1
           obtain ⟨v_51, hv_v_51, hx1⟩ := hx1
           refine jc (op_cmpI lb (.tmp rfl) .cI (congrArg some hv_v_51)) ?_
           refine jc (op_assign lb (.tmp rfl)) ?_
           refine JL.nil ?_
           refine JQ.then ?_
           replace hx1 := iteB_inv hx1
           rcases hx1 with ⟨hc6, hx1⟩ | ⟨hc6, hx1⟩
           · refine JC.condT (.tmp rfl) hc6 ?_
             refine JC.seq ?_
             refine JC.region ?_
             refine jc (op_move lb (.tmp rfl)) ?_
             refine jc (op_fieldAddr (off := 1) lb tf43_1 (.tmp rfl)) ?_
             refine jc (op_loadS (j := 3) lb tS3 (.tmp rfl) rfl (Comp.trans (Comp.self r_law01_Step a_1) (comp_law01_Step_N a_1) (Nat.le_of_ble_eq_true rfl)) rfl rfl) ?_
             replace hx1 := bnd_inv hx1
             obtain ⟨⟨v_52, x_53, x_54, x_55, x_56, x_57⟩, hv_v_52, hx1⟩ := hx1
             refine jx (op_call (js := [0, 0]) ld cl40 (sim_wire_Reader_Bytes k a_1.N o_2 n_3 is_4 made_5 x_7 gb_6 go_8 gc_9 (v_52, x_53, x_54, x_55, x_56, x_57) hv_v_52) .func (.cons (.tmp rfl) (.cons (.tmp rfl) .nil)) rfl) (fun _ => ?_)
             refine jc (op_assign lb (.tmp rfl)) ?_
             refine JL.nil ?_
             refine JQ.then ?_
             refine JC.seq ?_
             replace hx1 := bnd_inv hx1
             obtain ⟨v_58, hv_v_58, hx1⟩ := hx1
             replace hx1 := bnd_inv hx1
             obtain ⟨⟨v_59, x_60⟩, hv_v_59, hx1⟩ := hx1
             replace hx1 := lt1_inv hx1
             obtain ⟨v_61, hv_v_61, hx1⟩ := hx1
             refine JC.anyE (kl := []) (kk := 0) (base := [(1, ov (PTR gb_11 0)), (5, ov (PTR gb_12 0)), (7, ov (HDX go_8 (v_52 * 1) x_53))])
                 (fs := fun γ => [⟨some 52, ov (HDX go_8 (v_52 * 1) x_53)⟩, ⟨some 53, ov (S rS v_58)⟩, ⟨some 54, ov (PTR gb_11 0)⟩, ⟨some 55, ov (PTR gb_12 (0 + 1))⟩, ⟨some 56, ov (S (rI .i64) a_1.N)⟩, ⟨some 57, ov (S (rL (rU UInt8)) v_59)⟩, ⟨some 58, ov (S rS v_59)⟩, ⟨some 59, ov (S rB v_61)⟩, ⟨some 8, ov (S rB v_61)⟩])
                 (rs := fun γ => [⟨cown go_8 (rU UInt8) x_7 0 gc_9, none, none, [1]⟩, ⟨cvar gb_6 (rP (rW (HDX go_8 (x_54 * 1) x_55)) (rP rB (rP rB r0))) ((), (x_56, (x_57, ()))), none, none, []⟩, ⟨cvar gb_11 r_ref01_Reader x_10, none, (some 5), []⟩, ⟨cvar gb_12 r_law01_Step a_1, none, none, [4]⟩, ⟨cvar gb_11 r_ref01_Reader x_60, (some 5), none, []⟩])
                 (ds := [52, 53, 54, 55, 56, 57, 58, 59, 8]) (bs := [1, 5, 7]) (afts := [[], [], [], [], [], [], [], [], []]) (js := [0, 0, 0, 0]) mixed (.cons rfl (.cons rfl (.cons rfl .nil))) (fun _ => rfl)
                 (by
      refine dS 1 (fun γ ρ B hb hd => op_move lb (.tmp (hb 7 _ rfl))) ?_
      refine DSteps.cons (j := 2) rfl (fun _ => rfl) (.run (fun γ ρ B hb hd => ⟨.none, OpStep.at ⟨ρ, (cown go_8 (rU UInt8) x_7 0 gc_9) :: B, _⟩ (setO ⟨ρ, (cown go_8 (rU UInt8) x_7 0 gc_9) :: B, _⟩ _ _) (op_convXS (j := 0) (o := v_52) lb tu23 tu5 tu9 rfl (.tmp (hl hd 0 52 rfl)) hv_v_58)⟩)) ?_
      refine dS 3 (fun γ ρ B hb hd => op_move lb (.tmp (hb 1 _ rfl))) ?_
      refine dS 4 (fun γ ρ B hb hd => op_fieldAddr (off := 1) lb tf43_1 (.tmp (hb 5 _ rfl))) ?_
      refine DSteps.cons (j := 5) rfl (fun _ => rfl) (.run (fun γ ρ B hb hd => ⟨.none, OpStep.at ⟨ρ, (cvar gb_12 r_law01_Step a_1) :: B, _⟩ (setO ⟨ρ, (cvar gb_12 r_law01_Step a_1) :: B, _⟩ _ _) (op_loadS (j := 0) lb tS3 (.tmp (hl hd 3 55 rfl)) rfl (Comp.trans (Comp.self r_law01_Step a_1) (comp_law01_Step_N a_1) (Nat.le_of_ble_eq_true rfl)) rfl rfl)⟩)) ?_
      refine DSteps.cons (j := 6) rfl (fun _ => rfl) (.run (fun γ ρ B hb hd => ⟨.none, OpStep.at ⟨ρ, (cvar gb_11 r_ref01_Reader x_10) :: B, _⟩ (setO ⟨ρ, (cvar gb_11 r_ref01_Reader x_60) :: B, _⟩ _ _) ((op_call (js := [0]) ld cl46 (sim_ref01_Reader_Bytes k a_1.N x_10 gb_11 (v_59, x_60) hv_v_59) .func (.cons (.tmp (hl hd 2 54 rfl)) (.cons (.tmp (hl hd 4 56 rfl)) .nil)) rfl).post (fun _ => Imp.refl))⟩)) ?_
      refine dS 7 (fun γ ρ B hb hd => op_convBS lb tu23 tu5 tu9 (.tmp (hl hd 5 57 rfl))) ?_
      refine dS 8 (fun γ ρ B hb hd => op_cmpS lb (.tmp (hl hd 1 53 rfl)) (.tmp (hl hd 6 58 rfl)) (congrArg some hv_v_61)) ?_
      refine dS 9 (fun γ ρ B hb hd => op_assign lb (.tmp (hl hd 7 59 rfl))) ?_
      exact DSteps.nil)
                 (by decide +kernel) (fun _ => rfl) rfl (fun _ => rfl) (fun _ => rfl) rfl (by decide) (by decide) (by decide +kernel) (fun _ d h => by cases h)
                 (ρ' := fun γ => [(7, ov (HDX go_8 (v_52 * 1) x_53)), (8, ov (S rB v_61))])
                 (X' := fun γ => [cown go_8 (rU UInt8) x_7 0 gc_9, cvar gb_6 (rP (rW (HDX go_8 (x_54 * 1) x_55)) (rP rB (rP rB r0))) ((), (x_56, (x_57, ()))), cvar gb_12 r_law01_Step a_1, cvar gb_11 r_ref01_Reader x_60])
                 (fun γ ρ hb hd => (.cons (hb 7 _ rfl (by decide)) (.cons (hdq hd 8 8 rfl) .nil))) (fun _ => rfl) (fun γ => ?_)
             refine JQ.at ⟨[(7, ov (HDX go_8 (v_52 * 1) x_53)), (8, ov (S rB v_61))], [cown go_8 (rU UInt8) x_7 0 gc_9, cvar gb_6 (rP (rW (HDX go_8 (x_54 * 1) x_55)) (rP rB (rP rB r0))) ((), (x_56, (x_57, ()))), cvar gb_12 r_law01_Step a_1, cvar gb_11 r_ref01_Reader x_60], []⟩ ?_
             refine JQ.then ?_
             replace hx1 := bnd_inv hx1
             obtain ⟨x_71, hx7, hq7⟩ := hx1
             refine JC.seqJ (γ := Unit) (stj := fun q => ⟨[(8, ov (S rB v_61))], [cvar gb_6 (rP (rW (HDX go_8 (x_54 * 1) x_55)) (rP rB (rP rB r0))) ((), (x_56, (x_57, ()))), cown go_8 (rU UInt8) x_71 0 gc_9, cvar gb_11 r_ref01_Reader x_60], []⟩) (fun q => ?_) ?_
             · obtain _ := q
               refine JC.at ⟨[(8, ov (S rB v_61))], [cvar gb_6 (rP (rW (HDX go_8 (x_54 * 1) x_55)) (rP rB (rP rB r0))) ((), (x_56, (x_57, ()))), cown go_8 (rU UInt8) x_71 0 gc_9, cvar gb_11 r_ref01_Reader x_60], []⟩ ?_
               refine JC.seq ?_
               refine JC.region ?_
               refine jc (op_move lb (.tmp rfl)) ?_
               refine jc (op_assign lb (.tmp rfl)) ?_
               refine JL.nil ?_
               refine JQ.then ?_
               refine JC.ret ?_
               refine JQ.outRB ?_
               replace hq7 := Option.some.inj hq7
               first | subst hq7 | clear hq7
               dsimp only at hq1
               refine JQ.outR ?_
               replace hq1 := Option.some.inj hq1
               subst hq1
               exact JQ.done (js := [0, 0, 0]) (ss := [.val (S rB v_61)]) () (.inl rfl) (.nil rfl) rfl (.cons (.tmp rfl) .nil) rfl rfl rfl
             · refine JC.seq ?_
               refine JC.region ?_
               refine jc (op_assign lb .cI) ?_
               refine JL.nil ?_
               refine JQ.then ?_
               refine JC.block ?_
               refine JC.pre ?_ (JC.loop (γ := Unit) (stf := fun s q => ⟨[(7, ov (HDX go_8 (v_52 * 1) x_53)), (8, ov (S rB v_61)), (9, ov (S (rI .i64) s.2))], [cown go_8 (rU UInt8) s.1 0 gc_9, cvar gb_6 (rP (rW (HDX go_8 (x_54 * 1) x_55)) (rP rB (rP rB r0))) ((), (x_56, (x_57, ()))), cvar gb_11 r_ref01_Reader x_60], []⟩) (q := ()) hx7 ?_)
               · exact (Imp.norm (js := [0, 0, 1]) rfl (.cons rfl (.cons rfl (.cons rfl .nil))))
               · intro s q x hx hr
                 obtain ⟨x_62, x_63⟩ := s
                 obtain _ := q
                 change law01_step'2.b1 k x_53 v_52 x_62 x_63 = some x at hx
                 unfold law01_step'2.b1 at hx
                 refine JC.at ⟨[(7, ov (HDX go_8 (v_52 * 1) x_53)), (8, ov (S rB v_61)), (9, ov (S (rI .i64) x_63))], [cown go_8 (rU UInt8) x_62 0 gc_9, cvar gb_6 (rP (rW (HDX go_8 (x_54 * 1) x_55)) (rP rB (rP rB r0))) ((), (x_56, (x_57, ()))), cvar gb_11 r_ref01_Reader x_60], []⟩ ?_
                 refine JC.seq ?_
                 refine JC.seq ?_
                 refine JC.region ?_
                 refine jc (op_move lb (.tmp rfl)) ?_
                 refine jc (op_move lb (.tmp rfl)) ?_
                 refine jc (op_lenX lb tu23 (.tmp rfl)) ?_
                 replace hx := lt1_inv hx
                 obtain ⟨v_64, hv_v_64, hx⟩ := hx
                 refine jc (op_cmpI lb (.tmp rfl) (.tmp rfl) (congrArg some hv_v_64)) ?_
                 refine JL.nil ?_
                 refine JQ.then ?_
                 replace hx := iteB_inv hx
                 rcases hx with ⟨hc9, hx⟩ | ⟨hc9, hx⟩
                 · refine JC.condT (.tmp rfl) hc9 ?_
                   refine JC.skip ?_
                   refine JQ.then ?_
                   refine JC.seq ?_
                   refine JC.block ?_
                   refine JC.region ?_
                   refine jc (op_move lb (.tmp rfl)) ?_
                   refine jc (op_move lb (.tmp rfl)) ?_
                   refine jc (op_move lb (.tmp rfl)) ?_
                   refine jc (op_move lb (.tmp rfl)) ?_
                   replace hx := bnd_inv hx
                   obtain ⟨i_65, hv_i_65, hx⟩ := hx
                   refine jc (op_indexAddrXF (r := (rU UInt8)) (o := v_52) lb tu23 tz5 (.tmp rfl) (.tmp rfl) hv_i_65) ?_
                   replace hx := bnd_inv hx
                   obtain ⟨v_66, hv_v_66, hx⟩ := hx
                   refine jc (op_loadOS (r := (rU UInt8)) (i := i_65) (off := 0) (j := 0) lb tS5 rfl rfl (.tmp rfl) hv_v_66 (Comp.self (rU UInt8) v_66) (by decide)) ?_
                   replace hx := lt1_inv hx
                   obtain ⟨v_67, hv_v_67, hx⟩ := hx
                   refine jc (op_arU lb (.tmp rfl) (HasO.cU (x := (1 : UInt8)) rfl (by decide)) (congrArg some hv_v_67)) ?_
                   replace hx := bnd_inv hx
                   obtain ⟨i_68, hv_i_68, hx⟩ := hx
                   refine jc (op_indexAddrXF (r := (rU UInt8)) (o := v_52) lb tu23 tz5 (.tmp rfl) (.tmp rfl) hv_i_68) ?_
                   refine JL.sub ⟨[(7, ov (HDX go_8 (v_52 * 1) x_53)), (8, ov (S rB v_61)), (9, ov (S (rI .i64) x_63)), (72, ov (S (rU UInt8) v_67)), (73, ov (EPT go_8 (i_68 * 1)))], [cown go_8 (rU UInt8) x_62 0 gc_9, cvar gb_6 (rP (rW (HDX go_8 (x_54 * 1) x_55)) (rP rB (rP rB r0))) ((), (x_56, (x_57, ()))), cvar gb_11 r_ref01_Reader x_60], []⟩ (.cons rfl (.cons rfl (.cons rfl (.cons rfl (.cons rfl .nil))))) rfl rfl ?_
                   replace hx := bnd_inv hx
                   obtain ⟨x_69, hv_x_69, hx⟩ := hx
                   refine jc (op_storeOSg (r := (rU UInt8)) (j := 0) tS5 rfl rfl (.tmp rfl) (.tmp rfl) hv_x_69) ?_
                   refine JL.nil ?_
                   refine JQ.outNB ?_
                   refine JQ.then ?_
                   refine JC.region ?_
                   refine jc (op_move lb (.tmp rfl)) ?_
                   replace hx := lt1_inv hx
                   obtain ⟨v_70, hv_v_70, hx⟩ := hx
                   refine jc (op_arI lb (.tmp rfl) .cI (congrArg some hv_v_70)) ?_
                   refine jc (op_assign lb (.tmp rfl)) ?_
                   refine JL.nil ?_
                   replace hx := Option.some.inj hx
                   first | subst hx | clear hx
                   exact JQ.next () rfl (Imp.norm (js := [0, 0, 0]) rfl (.cons rfl (.cons rfl (.cons rfl .nil))))
                 · refine JC.condF (.tmp rfl) hc9 ?_
                   refine JC.exit ?_
                   refine JQ.outX ?_
                   replace hx := Option.some.inj hx
                   first | subst hx | clear hx
                   have ht := hr _ rfl
                   have hq8 := congrArg some ht
                   clear hr ht
                   refine JQ.outX ?_
                   refine JQ.here ?_
                   replace hq8 := Option.some.inj hq8
                   first | subst hq8 | clear hq8
                   exact JQ.join () (Imp.norm (js := [1, 0, 0]) rfl (.cons rfl .nil))
           · refine JC.condF (.tmp rfl) hc6 ?_
             refine JC.skip ?_
             refine JQ.outNB ?_
             replace hx1 := Option.some.inj hx1
             first | subst hx1 | clear hx1
             refine JQ.pre (Imp.var (j := 0) (q := (rP (rW (HDX go_8 (o_2 * 1) n_3)) (rP rB (rP rB r0)))) (y := ((), (is_4, (made_5, ())))) rfl Wk.refl) ?_
             exact JQ.joinK () () rfl (Imp.norm (js := [0, 0, 0]) rfl .nil)

end Go.Proofs.Ytkbkdfcakpbojaa
