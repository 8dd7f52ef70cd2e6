/- Walks. -/
import Derived.Test.YtkbkdfcakpbojaaT
import Derived.Test.YtkbkdfcakpbojaaW1
import Derived.Test.YtkbkdfcakpbojaaW3
import Derived.Test.YtkbkdfcakpbojaaW4
import Derived.Test.YtkbkdfcakpbojaaW5
namespace Go.Proofs.Ytkbkdfcakpbojaa
open Go Fw
set_option linter.unusedVariables false
set_option maxRecDepth 100000
set_option maxHeartbeats 4000000

theorem sim_law01_step (k : Nat) (a_1 : law01_Step) (o_2 : Nat) (n_3 : Nat) (is_4 : Bool) (made_5 : Bool) (x_7 : (List UInt8)) (B_10 : (List UInt8)) (At_11 : Int) (Failed_12 : Bool) (gb_6 : Nat) (go_8 : Option Nat) (gc_9 : Nat) (gb_13 : Nat) (r : Bool × (List UInt8) × Nat × Nat × Bool × Bool × ref01_Reader) (hm : law01_step k a_1 o_2 n_3 is_4 made_5 x_7 B_10 At_11 Failed_12 = some r) : Sim Try.prog 17 [PTR gb_6 0, PTR gb_13 0, A r_law01_Step a_1] [cvar gb_6 (rP (rW (HDX go_8 (o_2 * 1) n_3)) (rP rB (rP rB r0))) ((), (is_4, (made_5, ()))), cown go_8 (rU UInt8) x_7 0 gc_9, cvar gb_13 (rP (rL (rU UInt8)) (rP (rI .i64) (rP rB r0))) (B_10, (At_11, (Failed_12, ())))] (γ := Unit) (fun q => [cvar gb_6 (rP (rW (HDX go_8 (r.2.2.1 * 1) r.2.2.2.1)) (rP rB (rP rB r0))) ((), (r.2.2.2.2.1, (r.2.2.2.2.2.1, ()))), cown go_8 (rU UInt8) r.2.1 0 gc_9, cvar gb_13 r_ref01_Reader r.2.2.2.2.2.2]) (fun q => .one (.val (S rB r.1))) := by
 unfold law01_step at hm
 refine Sim.of Try.func17 rfl rfl (Nat.le_of_ble_eq_true rfl) (fun e0 w0 => ?_)
 refine JC.at ⟨[(0, ov (PTR gb_6 0)), (1, ov (PTR gb_13 0)), (2, ov (A r_law01_Step a_1))], [cvar gb_6 (rP (rW (HDX go_8 (o_2 * 1) n_3)) (rP rB (rP rB r0))) ((), (is_4, (made_5, ()))), cown go_8 (rU UInt8) x_7 0 gc_9, cvar gb_13 (rP (rL (rU UInt8)) (rP (rI .i64) (rP rB r0))) (B_10, (At_11, (Failed_12, ())))], []⟩ ?_
 refine JC.seq ?_
 refine JC.region ?_
 refine jx (op_boxA lb (.tmp rfl)) (fun q => ?_)
 obtain ⟨gb_14, hqq⟩ : ∃ z, z = q := ⟨_, rfl⟩
 subst hqq
 refine jc (op_assign lb .cB) ?_
 refine JL.nil ?_
 refine JQ.then ?_
 replace hm := bnd_inv hm
 obtain ⟨tv1, hx1, hq1⟩ := hm
 refine JC.seqK (α := Unit) (γ := Unit) (stj := fun v q => ⟨[], [cvar gb_6 (rP (rW (HDX go_8 (o_2 * 1) n_3)) (rP rB (rP rB r0))) ((), (is_4, (made_5, ()))), cown go_8 (rU UInt8) x_7 0 gc_9, cvar gb_13 (rP (rL (rU UInt8)) (rP (rI .i64) (rP rB r0))) (B_10, (At_11, (Failed_12, ())))], []⟩) (p := fun v => tv1 = (.inl v)) (fun v q hv => ?_) ?_
 · subst hv
   skip
   obtain _ := q
   dsimp only at hq1
   refine JC.at ⟨[], [cvar gb_6 (rP (rW (HDX go_8 (o_2 * 1) n_3)) (rP rB (rP rB r0))) ((), (is_4, (made_5, ()))), cown go_8 (rU UInt8) x_7 0 gc_9, cvar gb_13 (rP (rL (rU UInt8)) (rP (rI .i64) (rP rB r0))) (B_10, (At_11, (Failed_12, ())))], []⟩ ?_
   refine JC.seq ?_
   refine JC.region ?_
   refine jc (op_assign lb .cB) ?_
   refine JL.nil ?_
   refine JQ.then ?_
   refine JC.ret ?_
   replace hq1 := Option.some.inj hq1
   subst hq1
   refine JQ.pre (Imp.var (j := 2) (q := r_ref01_Reader) (y := (ref01_Reader.mk B_10 At_11 Failed_12)) rfl (Wk.st Wk.refl)) ?_
   exact JQ.done (js := [0, 0, 0]) (ss := [.val (S rB true)]) () (.inl rfl) (.nil rfl) rfl (.cons (.tmp rfl) .nil) rfl rfl rfl
 · refine JC.seq ?_
   refine JC.region ?_
   refine jc (op_fieldAddr (off := 0) lb tf43_0 (.tmp rfl)) ?_
   refine jc (op_loadS (j := 3) lb tS3 (.tmp rfl) rfl (Comp.trans (Comp.self r_law01_Step a_1) (comp_law01_Step_Kind a_1) (Nat.le_of_ble_eq_true rfl)) rfl rfl) ?_
   refine JL.nil ?_
   refine JQ.then ?_
   refine JC.block ?_
   refine JC.seq ?_
   refine JC.region ?_
   replace hx1 := lt1_inv hx1
   obtain ⟨v_15, hv_v_15, hx1⟩ := hx1
   refine jc (op_cmpI lb (.tmp rfl) .cI (congrArg some hv_v_15)) ?_
   refine jc (op_assign lb (.tmp rfl)) ?_
   refine JL.nil ?_
   refine JQ.then ?_
   replace hx1 := iteB_inv hx1
   rcases hx1 with ⟨hc2, hx1⟩ | ⟨hc2, hx1⟩
   · refine JC.condT (.tmp rfl) hc2 ?_
     refine JC.seq ?_
     replace hx1 := bnd_inv hx1
     obtain ⟨⟨v_16, x_17, x_18, x_19, x_20⟩, hv_v_16, hx1⟩ := hx1
     replace hx1 := bnd_inv hx1
     obtain ⟨⟨v_21, x_22⟩, hv_v_21, hx1⟩ := hx1
     replace hx1 := lt1_inv hx1
     obtain ⟨v_23, hv_v_23, hx1⟩ := hx1
     refine JC.anyE (kl := []) (kk := 0) (base := [(0, ov (PTR gb_6 0)), (1, ov (PTR gb_13 0)), (5, ov (PTR gb_14 0))])
         (fs := fun γ => [⟨some 14, ov (PTR gb_6 0)⟩, ⟨some 15, ov (PTR gb_14 (0 + 1))⟩, ⟨some 16, ov (S (rI .i64) a_1.N)⟩, ⟨some 17, ov (S (rU UInt64) v_16)⟩, ⟨some 18, ov (PTR gb_13 0)⟩, ⟨some 19, ov (PTR gb_14 (0 + 1))⟩, ⟨some 20, ov (S (rI .i64) a_1.N)⟩, ⟨some 21, ov (S (rU UInt64) v_21)⟩, ⟨some 22, ov (S rB v_23)⟩, ⟨some 6, ov (S rB v_23)⟩])
         (rs := fun γ => [⟨cvar gb_6 (rP (rW (HDX go_8 (o_2 * 1) n_3)) (rP rB (rP rB r0))) ((), (is_4, (made_5, ()))), none, (some 3), []⟩, ⟨cown go_8 (rU UInt8) x_7 0 gc_9, none, (some 3), []⟩, ⟨cvar gb_13 (rP (rL (rU UInt8)) (rP (rI .i64) (rP rB r0))) (B_10, (At_11, (Failed_12, ()))), none, (some 7), []⟩, ⟨cvar gb_14 r_law01_Step a_1, none, none, [2, 6]⟩, ⟨cvar gb_6 (rP (rW (HDX go_8 (x_17 * 1) x_18)) (rP rB (rP rB r0))) ((), (x_19, (x_20, ()))), (some 3), none, []⟩, ⟨cown go_8 (rU UInt8) x_7 0 gc_9, (some 3), none, []⟩, ⟨cvar gb_13 r_ref01_Reader x_22, (some 7), none, []⟩])
         (ds := [14, 15, 16, 17, 18, 19, 20, 21, 22, 6]) (bs := [0, 1, 5]) (afts := [[], [], [], [], [], [], [], [], [], []]) (js := [0, 0, 0, 0]) mixed (.cons rfl (.cons rfl (.cons rfl .nil))) (fun _ => rfl)
         (by
      refine dS 1 (fun γ ρ B hb hd => op_move lb (.tmp (hb 0 _ rfl))) ?_
      refine dS 2 (fun γ ρ B hb hd => op_fieldAddr (off := 1) lb tf43_1 (.tmp (hb 5 _ rfl))) ?_
      refine DSteps.cons (j := 3) rfl (fun _ => rfl) (.run (fun γ ρ B hb hd => ⟨.none, OpStep.at ⟨ρ, (cvar gb_14 r_law01_Step a_1) :: B, _⟩ (setO ⟨ρ, (cvar gb_14 r_law01_Step a_1) :: B, _⟩ _ _) (op_loadS (j := 0) lb tS3 (.tmp (hl hd 1 15 rfl)) rfl (Comp.trans (Comp.self r_law01_Step a_1) (comp_law01_Step_N a_1) (Nat.le_of_ble_eq_true rfl)) rfl rfl)⟩)) ?_
      refine DSteps.cons (j := 4) rfl (fun _ => rfl) (.run (fun γ ρ B hb hd => ⟨.none, OpStep.at ⟨ρ, (cvar gb_6 (rP (rW (HDX go_8 (o_2 * 1) n_3)) (rP rB (rP rB r0))) ((), (is_4, (made_5, ())))) :: (cown go_8 (rU UInt8) x_7 0 gc_9) :: B, _⟩ (setO ⟨ρ, (cvar gb_6 (rP (rW (HDX go_8 (x_17 * 1) x_18)) (rP rB (rP rB r0))) ((), (x_19, (x_20, ())))) :: (cown go_8 (rU UInt8) x_7 0 gc_9) :: B, _⟩ _ _) ((op_call (js := [0, 0]) ld cl39 (sim_wire_Reader_Number k a_1.N o_2 n_3 is_4 made_5 x_7 gb_6 go_8 gc_9 (v_16, x_17, x_18, x_19, x_20) hv_v_16) .func (.cons (.tmp (hl hd 0 14 rfl)) (.cons (.tmp (hl hd 2 16 rfl)) .nil)) rfl).post (fun _ => Imp.refl))⟩)) ?_
      refine dS 5 (fun γ ρ B hb hd => op_move lb (.tmp (hb 1 _ rfl))) ?_
      refine dS 6 (fun γ ρ B hb hd => op_fieldAddr (off := 1) lb tf43_1 (.tmp (hb 5 _ rfl))) ?_
      refine DSteps.cons (j := 7) rfl (fun _ => rfl) (.run (fun γ ρ B hb hd => ⟨.none, OpStep.at ⟨ρ, (cvar gb_14 r_law01_Step a_1) :: B, _⟩ (setO ⟨ρ, (cvar gb_14 r_law01_Step a_1) :: B, _⟩ _ _) (op_loadS (j := 0) lb tS3 (.tmp (hl hd 5 19 rfl)) rfl (Comp.trans (Comp.self r_law01_Step a_1) (comp_law01_Step_N a_1) (Nat.le_of_ble_eq_true rfl)) rfl rfl)⟩)) ?_
      refine DSteps.cons (j := 8) rfl (fun _ => rfl) (.run (fun γ ρ B hb hd => ⟨.none, OpStep.at ⟨ρ, (cvar gb_13 (rP (rL (rU UInt8)) (rP (rI .i64) (rP rB r0))) (B_10, (At_11, (Failed_12, ())))) :: B, _⟩ (setO ⟨ρ, (cvar gb_13 r_ref01_Reader x_22) :: B, _⟩ _ _) ((op_call (js := [0]) ld cl42 (sim_ref01_Reader_Number k a_1.N B_10 At_11 Failed_12 gb_13 (v_21, x_22) hv_v_21) .func (.cons (.tmp (hl hd 4 18 rfl)) (.cons (.tmp (hl hd 6 20 rfl)) .nil)) rfl).post (fun _ => Imp.refl))⟩)) ?_
      refine dS 9 (fun γ ρ B hb hd => op_cmpU lb (.tmp (hl hd 3 17 rfl)) (.tmp (hl hd 7 21 rfl)) (congrArg some hv_v_23)) ?_
      refine dS 10 (fun γ ρ B hb hd => op_assign lb (.tmp (hl hd 8 22 rfl))) ?_
      exact DSteps.nil)
         (by decide +kernel) (fun _ => rfl) rfl (fun _ => rfl) (fun _ => rfl) rfl (by decide) (by decide) (by decide +kernel) (fun _ d h => by cases h)
         (ρ' := fun γ => [(6, ov (S rB v_23))])
         (X' := fun γ => [cvar gb_14 r_law01_Step a_1, cvar gb_6 (rP (rW (HDX go_8 (x_17 * 1) x_18)) (rP rB (rP rB r0))) ((), (x_19, (x_20, ()))), cown go_8 (rU UInt8) x_7 0 gc_9, cvar gb_13 r_ref01_Reader x_22])
         (fun γ ρ hb hd => (.cons (hdq hd 9 6 rfl) .nil)) (fun _ => rfl) (fun γ => ?_)
     refine JQ.at ⟨[(6, ov (S rB v_23))], [cvar gb_14 r_law01_Step a_1, cvar gb_6 (rP (rW (HDX go_8 (x_17 * 1) x_18)) (rP rB (rP rB r0))) ((), (x_19, (x_20, ()))), cown go_8 (rU UInt8) x_7 0 gc_9, cvar gb_13 r_ref01_Reader x_22], []⟩ ?_
     refine JQ.then ?_
     refine JC.ret ?_
     refine JQ.outRB ?_
     replace hx1 := Option.some.inj hx1
     first | subst hx1 | clear hx1
     dsimp only at hq1
     refine JQ.outR ?_
     replace hq1 := Option.some.inj hq1
     subst hq1
     exact JQ.done (js := [1, 1, 1]) (ss := [.val (S rB v_23)]) () (.inl rfl) (.nil rfl) rfl (.cons (.tmp rfl) .nil) rfl rfl rfl
   · refine JC.condF (.tmp rfl) hc2 ?_
     refine JC.seq ?_
     refine JC.region ?_
     replace hx1 := lt1_inv hx1
     obtain ⟨v_24, hv_v_24, hx1⟩ := hx1
     refine jc (op_cmpI lb (.tmp rfl) .cI (congrArg some hv_v_24)) ?_
     refine jc (op_assign lb (.tmp rfl)) ?_
     refine JL.nil ?_
     refine JQ.then ?_
     replace hx1 := iteB_inv hx1
     rcases hx1 with ⟨hc3, hx1⟩ | ⟨hc3, hx1⟩
     · refine JC.condT (.tmp rfl) hc3 ?_
       refine JC.seq ?_
       replace hx1 := bnd_inv hx1
       obtain ⟨⟨v_25, x_26, x_27, x_28, x_29, x_30⟩, hv_v_25, hx1⟩ := hx1
       replace hx1 := bnd_inv hx1
       obtain ⟨v_31, hv_v_31, hx1⟩ := hx1
       replace hx1 := bnd_inv hx1
       obtain ⟨⟨v_32, x_33⟩, hv_v_32, hx1⟩ := hx1
       replace hx1 := lt1_inv hx1
       obtain ⟨v_34, hv_v_34, hx1⟩ := hx1
       refine JC.anyE (kl := []) (kk := 0) (base := [(0, ov (PTR gb_6 0)), (1, ov (PTR gb_13 0))])
           (fs := fun γ => [⟨some 25, ov (PTR gb_6 0)⟩, ⟨some 26, ov (HDX go_8 (v_25 * 1) x_26)⟩, ⟨some 27, ov (S rS v_31)⟩, ⟨some 28, ov (PTR gb_13 0)⟩, ⟨some 29, ov (S (rL (rU UInt8)) v_32)⟩, ⟨some 30, ov (S rS v_32)⟩, ⟨some 31, ov (S rB v_34)⟩, ⟨some 6, ov (S rB v_34)⟩])
           (rs := fun γ => [⟨cvar gb_6 (rP (rW (HDX go_8 (o_2 * 1) n_3)) (rP rB (rP rB r0))) ((), (is_4, (made_5, ()))), none, (some 1), []⟩, ⟨cown go_8 (rU UInt8) x_7 0 gc_9, none, (some 1), []⟩, ⟨cvar gb_13 (rP (rL (rU UInt8)) (rP (rI .i64) (rP rB r0))) (B_10, (At_11, (Failed_12, ()))), none, (some 4), []⟩, ⟨cvar gb_14 r_law01_Step a_1, none, none, []⟩, ⟨cown go_8 (rU UInt8) x_7 0 gc_9, (some 1), none, [2]⟩, ⟨cvar gb_6 (rP (rW (HDX go_8 (x_27 * 1) x_28)) (rP rB (rP rB r0))) ((), (x_29, (x_30, ()))), (some 1), none, []⟩, ⟨cvar gb_13 r_ref01_Reader x_33, (some 4), none, []⟩])
           (ds := [25, 26, 27, 28, 29, 30, 31, 6]) (bs := [0, 1]) (afts := [[], [], [], [], [], [], [], []]) (js := [0, 0, 0, 0]) mixed (.cons rfl (.cons rfl .nil)) (fun _ => rfl)
           (by
      refine dS 1 (fun γ ρ B hb hd => op_move lb (.tmp (hb 0 _ rfl))) ?_
      refine DSteps.cons (j := 2) rfl (fun _ => rfl) (.run (fun γ ρ B hb hd => ⟨.none, OpStep.at ⟨ρ, (cvar gb_6 (rP (rW (HDX go_8 (o_2 * 1) n_3)) (rP rB (rP rB r0))) ((), (is_4, (made_5, ())))) :: (cown go_8 (rU UInt8) x_7 0 gc_9) :: B, _⟩ (setO ⟨ρ, (cown go_8 (rU UInt8) x_7 0 gc_9) :: (cvar gb_6 (rP (rW (HDX go_8 (x_27 * 1) x_28)) (rP rB (rP rB r0))) ((), (x_29, (x_30, ())))) :: B, _⟩ _ _) ((op_call (js := [0, 0]) ld cl26 (sim_wire_Reader_Blob k o_2 n_3 is_4 made_5 x_7 gb_6 go_8 gc_9 (v_25, x_26, x_27, x_28, x_29, x_30) hv_v_25) .func (.cons (.tmp (hl hd 0 25 rfl)) .nil) rfl).post (fun _ => Imp.refl))⟩)) ?_
      refine DSteps.cons (j := 3) rfl (fun _ => rfl) (.run (fun γ ρ B hb hd => ⟨.none, OpStep.at ⟨ρ, (cown go_8 (rU UInt8) x_7 0 gc_9) :: B, _⟩ (setO ⟨ρ, (cown go_8 (rU UInt8) x_7 0 gc_9) :: B, _⟩ _ _) (op_convXS (j := 0) (o := v_25) lb tu23 tu5 tu9 rfl (.tmp (hl hd 1 26 rfl)) hv_v_31)⟩)) ?_
      refine dS 4 (fun γ ρ B hb hd => op_move lb (.tmp (hb 1 _ rfl))) ?_
      refine DSteps.cons (j := 5) rfl (fun _ => rfl) (.run (fun γ ρ B hb hd => ⟨.none, OpStep.at ⟨ρ, (cvar gb_13 (rP (rL (rU UInt8)) (rP (rI .i64) (rP rB r0))) (B_10, (At_11, (Failed_12, ())))) :: B, _⟩ (setO ⟨ρ, (cvar gb_13 r_ref01_Reader x_33) :: B, _⟩ _ _) ((op_call (js := [0]) ld cl43 (sim_ref01_Reader_Blob k B_10 At_11 Failed_12 gb_13 (v_32, x_33) hv_v_32) .func (.cons (.tmp (hl hd 3 28 rfl)) .nil) rfl).post (fun _ => Imp.refl))⟩)) ?_
      refine dS 6 (fun γ ρ B hb hd => op_convBS lb tu23 tu5 tu9 (.tmp (hl hd 4 29 rfl))) ?_
      refine dS 7 (fun γ ρ B hb hd => op_cmpS lb (.tmp (hl hd 2 27 rfl)) (.tmp (hl hd 5 30 rfl)) (congrArg some hv_v_34)) ?_
      refine dS 8 (fun γ ρ B hb hd => op_assign lb (.tmp (hl hd 6 31 rfl))) ?_
      exact DSteps.nil)
           (by decide +kernel) (fun _ => rfl) rfl (fun _ => rfl) (fun _ => rfl) rfl (by decide) (by decide) (by decide +kernel) (fun _ d h => by cases h)
           (ρ' := fun γ => [(6, ov (S rB v_34))])
           (X' := fun γ => [cvar gb_14 r_law01_Step a_1, cown go_8 (rU UInt8) x_7 0 gc_9, cvar gb_6 (rP (rW (HDX go_8 (x_27 * 1) x_28)) (rP rB (rP rB r0))) ((), (x_29, (x_30, ()))), cvar gb_13 r_ref01_Reader x_33])
           (fun γ ρ hb hd => (.cons (hdq hd 7 6 rfl) .nil)) (fun _ => rfl) (fun γ => ?_)
       refine JQ.at ⟨[(6, ov (S rB v_34))], [cvar gb_14 r_law01_Step a_1, cown go_8 (rU UInt8) x_7 0 gc_9, cvar gb_6 (rP (rW (HDX go_8 (x_27 * 1) x_28)) (rP rB (rP rB r0))) ((), (x_29, (x_30, ()))), cvar gb_13 r_ref01_Reader x_33], []⟩ ?_
       refine JQ.then ?_
       refine JC.ret ?_
       refine JQ.outRB ?_
       replace hx1 := Option.some.inj hx1
       first | subst hx1 | clear hx1
       dsimp only at hq1
       refine JQ.outR ?_
       replace hq1 := Option.some.inj hq1
       subst hq1
       exact JQ.done (js := [2, 1, 1]) (ss := [.val (S rB v_34)]) () (.inl rfl) (.nil rfl) rfl (.cons (.tmp rfl) .nil) rfl rfl rfl
     · refine JC.condF (.tmp rfl) hc3 ?_
       refine JC.seq ?_
       refine JC.region ?_
       replace hx1 := lt1_inv hx1
       obtain ⟨v_35, hv_v_35, hx1⟩ := hx1
       refine jc (op_cmpI lb (.tmp rfl) .cI (congrArg some hv_v_35)) ?_
       refine jc (op_assign lb (.tmp rfl)) ?_
       refine JL.sub ⟨[(0, ov (PTR gb_6 0)), (1, ov (PTR gb_13 0)), (5, ov (PTR gb_14 0)), (11, ov (S (rI .i64) a_1.Kind)), (32, ov (S rB v_35))], [cvar gb_6 (rP (rW (HDX go_8 (o_2 * 1) n_3)) (rP rB (rP rB r0))) ((), (is_4, (made_5, ()))), cown go_8 (rU UInt8) x_7 0 gc_9, cvar gb_13 (rP (rL (rU UInt8)) (rP (rI .i64) (rP rB r0))) (B_10, (At_11, (Failed_12, ()))), cvar gb_14 r_law01_Step a_1], []⟩ (.cons rfl (.cons rfl (.cons rfl (.cons rfl (.cons rfl .nil))))) rfl rfl ?_
       refine JL.nil ?_
       refine JQ.then ?_
       replace hx1 := iteB_inv hx1
       rcases hx1 with ⟨hc4, hx1⟩ | ⟨hc4, hx1⟩
       · refine JC.condT (.tmp rfl) hc4 ?_
         refine JC.seq ?_
         refine JC.region ?_
         refine jc (op_move lb (.tmp rfl)) ?_
         replace hx1 := bnd_inv hx1
         obtain ⟨⟨v_36, x_37, x_38, x_39, x_40⟩, hv_v_36, hx1⟩ := hx1
         refine jx (op_call (js := [0, 0]) ld cl27 (sim_wire_Reader_Dot k o_2 n_3 is_4 made_5 x_7 gb_6 go_8 gc_9 (v_36, x_37, x_38, x_39, x_40) hv_v_36) .func (.cons (.tmp rfl) .nil) rfl) (fun _ => ?_)
         refine jc (op_move lb (.tmp rfl)) ?_
         replace hx1 := bnd_inv hx1
         obtain ⟨⟨v_41, x_42⟩, hv_v_41, hx1⟩ := hx1
         refine JL.pre (Imp.var (j := 2) (q := r_ref01_Reader) (y := (ref01_Reader.mk B_10 At_11 Failed_12)) rfl (Wk.st Wk.refl)) ?_
         refine jx (op_call (js := [2]) ld cl44 (sim_ref01_Reader_Dot k (ref01_Reader.mk B_10 At_11 Failed_12) gb_13 (v_41, x_42) hv_v_41) .func (.cons (.tmp rfl) .nil) rfl) (fun _ => ?_)
         replace hx1 := lt1_inv hx1
         obtain ⟨v_43, hv_v_43, hx1⟩ := hx1
         refine jc (op_eqA lb qa48 (by decide) ng48 (.tmp rfl) (.tmp rfl) hv_v_43) ?_
         refine jc (op_assign lb (.tmp rfl)) ?_
         refine JL.nil ?_
         refine JQ.then ?_
         refine JC.ret ?_
         refine JQ.outRB ?_
         replace hx1 := Option.some.inj hx1
         first | subst hx1 | clear hx1
         dsimp only at hq1
         refine JQ.outR ?_
         replace hq1 := Option.some.inj hq1
         subst hq1
         exact JQ.done (js := [1, 1, 0]) (ss := [.val (S rB v_43)]) () (.inl rfl) (.nil rfl) rfl (.cons (.tmp rfl) .nil) rfl rfl rfl
       · refine JC.condF (.tmp rfl) hc4 ?_
         refine JC.seq ?_
         refine JC.region ?_
         replace hx1 := lt1_inv hx1
         obtain ⟨v_44, hv_v_44, hx1⟩ := hx1
         refine jc (op_cmpI lb (.tmp rfl) .cI (congrArg some hv_v_44)) ?_
         refine jc (op_assign lb (.tmp rfl)) ?_
         refine JL.nil ?_
         refine JQ.then ?_
         replace hx1 := iteB_inv hx1
         rcases hx1 with ⟨hc5, hx1⟩ | ⟨hc5, hx1⟩
         · refine JC.condT (.tmp rfl) hc5 ?_
           refine JC.seq ?_
           refine JC.region ?_
           refine jc (op_move lb (.tmp rfl)) ?_
           replace hx1 := bnd_inv hx1
           obtain ⟨⟨v_45, x_46, x_47, x_48, x_49⟩, hv_v_45, hx1⟩ := hx1
           refine jx (op_call (js := [0, 0]) ld cl28 (sim_wire_Reader_Vector k o_2 n_3 is_4 made_5 x_7 gb_6 go_8 gc_9 (v_45, x_46, x_47, x_48, x_49) hv_v_45) .func (.cons (.tmp rfl) .nil) rfl) (fun _ => ?_)
           refine jc (op_move lb (.tmp rfl)) ?_
           replace hx1 := bnd_inv hx1
           obtain ⟨⟨v_50, x_51⟩, hv_v_50, hx1⟩ := hx1
           refine JL.pre (Imp.var (j := 2) (q := r_ref01_Reader) (y := (ref01_Reader.mk B_10 At_11 Failed_12)) rfl (Wk.st Wk.refl)) ?_
           refine jx (op_call (js := [2]) ld cl45 (sim_ref01_Reader_Vector k (ref01_Reader.mk B_10 At_11 Failed_12) gb_13 (v_50, x_51) hv_v_50) .func (.cons (.tmp rfl) .nil) rfl) (fun _ => ?_)
           replace hx1 := lt1_inv hx1
           obtain ⟨v_52, hv_v_52, hx1⟩ := hx1
           refine jc (op_eqA lb qa50 (by decide) ng50 (.tmp rfl) (.tmp rfl) hv_v_52) ?_
           refine jc (op_assign lb (.tmp rfl)) ?_
           refine JL.nrm ⟨[(6, ov (S rB v_52))], [cvar gb_13 r_ref01_Reader x_51, cvar gb_6 (rP (rW (HDX go_8 (x_46 * 1) x_47)) (rP rB (rP rB r0))) ((), (x_48, (x_49, ()))), cown go_8 (rU UInt8) x_7 0 gc_9], []⟩ [0, 0, 0] rfl (.cons rfl .nil) rfl ?_
           refine JL.nil ?_
           refine JQ.then ?_
           refine JC.ret ?_
           refine JQ.outRB ?_
           replace hx1 := Option.some.inj hx1
           first | subst hx1 | clear hx1
           dsimp only at hq1
           refine JQ.outR ?_
           replace hq1 := Option.some.inj hq1
           subst hq1
           exact JQ.done (js := [1, 1, 0]) (ss := [.val (S rB v_52)]) () (.inl rfl) (.nil rfl) rfl (.cons (.tmp rfl) .nil) rfl rfl rfl
         · refine JC.condF (.tmp rfl) hc5 ?_
           refine JC.seq ?_
           refine JC.region ?_
           replace hx1 := lt1_inv hx1
           obtain ⟨v_53, hv_v_53, hx1⟩ := hx1
           refine jc (op_cmpI lb (.tmp rfl) .cI (congrArg some hv_v_53)) ?_
           refine jc (op_assign lb (.tmp rfl)) ?_
           refine JL.nil ?_
           refine JQ.then ?_
           replace hx1 := iteB_inv hx1
           rcases hx1 with ⟨hc6, hx1⟩ | ⟨hc6, hx1⟩
           · refine JC.condT (.tmp rfl) hc6 ?_
             refine JC.seq ?_
             refine JC.region ?_
             refine jc (op_move lb (.tmp rfl)) ?_
             refine jc (op_fieldAddr (off := 1) lb tf43_1 (.tmp rfl)) ?_
             refine jc (op_loadS (j := 3) lb tS3 (.tmp rfl) rfl (Comp.trans (Comp.self r_law01_Step a_1) (comp_law01_Step_N a_1) (Nat.le_of_ble_eq_true rfl)) rfl rfl) ?_
             replace hx1 := bnd_inv hx1
             obtain ⟨⟨v_54, x_55, x_56, x_57, x_58, x_59⟩, hv_v_54, hx1⟩ := hx1
             refine jx (op_call (js := [0, 0]) ld cl40 (sim_wire_Reader_Bytes k a_1.N o_2 n_3 is_4 made_5 x_7 gb_6 go_8 gc_9 (v_54, x_55, x_56, x_57, x_58, x_59) hv_v_54) .func (.cons (.tmp rfl) (.cons (.tmp rfl) .nil)) rfl) (fun _ => ?_)
             refine jc (op_assign lb (.tmp rfl)) ?_
             refine JL.nil ?_
             refine JQ.then ?_
             refine JC.seq ?_
             replace hx1 := bnd_inv hx1
             obtain ⟨v_60, hv_v_60, hx1⟩ := hx1
             replace hx1 := bnd_inv hx1
             obtain ⟨⟨v_61, x_62⟩, hv_v_61, hx1⟩ := hx1
             replace hx1 := lt1_inv hx1
             obtain ⟨v_63, hv_v_63, hx1⟩ := hx1
             refine JC.anyE (kl := []) (kk := 0) (base := [(1, ov (PTR gb_13 0)), (5, ov (PTR gb_14 0)), (7, ov (HDX go_8 (v_54 * 1) x_55))])
                 (fs := fun γ => [⟨some 52, ov (HDX go_8 (v_54 * 1) x_55)⟩, ⟨some 53, ov (S rS v_60)⟩, ⟨some 54, ov (PTR gb_13 0)⟩, ⟨some 55, ov (PTR gb_14 (0 + 1))⟩, ⟨some 56, ov (S (rI .i64) a_1.N)⟩, ⟨some 57, ov (S (rL (rU UInt8)) v_61)⟩, ⟨some 58, ov (S rS v_61)⟩, ⟨some 59, ov (S rB v_63)⟩, ⟨some 8, ov (S rB v_63)⟩])
                 (rs := fun γ => [⟨cown go_8 (rU UInt8) x_7 0 gc_9, none, none, [1]⟩, ⟨cvar gb_6 (rP (rW (HDX go_8 (x_56 * 1) x_57)) (rP rB (rP rB r0))) ((), (x_58, (x_59, ()))), none, none, []⟩, ⟨cvar gb_13 (rP (rL (rU UInt8)) (rP (rI .i64) (rP rB r0))) (B_10, (At_11, (Failed_12, ()))), none, (some 5), []⟩, ⟨cvar gb_14 r_law01_Step a_1, none, none, [4]⟩, ⟨cvar gb_13 r_ref01_Reader x_62, (some 5), none, []⟩])
                 (ds := [52, 53, 54, 55, 56, 57, 58, 59, 8]) (bs := [1, 5, 7]) (afts := [[], [], [], [], [], [], [], [], []]) (js := [0, 0, 0, 0]) mixed (.cons rfl (.cons rfl (.cons rfl .nil))) (fun _ => rfl)
                 (by
      refine dS 1 (fun γ ρ B hb hd => op_move lb (.tmp (hb 7 _ rfl))) ?_
      refine DSteps.cons (j := 2) rfl (fun _ => rfl) (.run (fun γ ρ B hb hd => ⟨.none, OpStep.at ⟨ρ, (cown go_8 (rU UInt8) x_7 0 gc_9) :: B, _⟩ (setO ⟨ρ, (cown go_8 (rU UInt8) x_7 0 gc_9) :: B, _⟩ _ _) (op_convXS (j := 0) (o := v_54) lb tu23 tu5 tu9 rfl (.tmp (hl hd 0 52 rfl)) hv_v_60)⟩)) ?_
      refine dS 3 (fun γ ρ B hb hd => op_move lb (.tmp (hb 1 _ rfl))) ?_
      refine dS 4 (fun γ ρ B hb hd => op_fieldAddr (off := 1) lb tf43_1 (.tmp (hb 5 _ rfl))) ?_
      refine DSteps.cons (j := 5) rfl (fun _ => rfl) (.run (fun γ ρ B hb hd => ⟨.none, OpStep.at ⟨ρ, (cvar gb_14 r_law01_Step a_1) :: B, _⟩ (setO ⟨ρ, (cvar gb_14 r_law01_Step a_1) :: B, _⟩ _ _) (op_loadS (j := 0) lb tS3 (.tmp (hl hd 3 55 rfl)) rfl (Comp.trans (Comp.self r_law01_Step a_1) (comp_law01_Step_N a_1) (Nat.le_of_ble_eq_true rfl)) rfl rfl)⟩)) ?_
      refine DSteps.cons (j := 6) rfl (fun _ => rfl) (.run (fun γ ρ B hb hd => ⟨.none, OpStep.at ⟨ρ, (cvar gb_13 (rP (rL (rU UInt8)) (rP (rI .i64) (rP rB r0))) (B_10, (At_11, (Failed_12, ())))) :: B, _⟩ (setO ⟨ρ, (cvar gb_13 r_ref01_Reader x_62) :: B, _⟩ _ _) ((op_call (js := [0]) ld cl46 (sim_ref01_Reader_Bytes'2 k a_1.N B_10 At_11 Failed_12 gb_13 (v_61, x_62) hv_v_61) .func (.cons (.tmp (hl hd 2 54 rfl)) (.cons (.tmp (hl hd 4 56 rfl)) .nil)) rfl).post (fun _ => Imp.refl))⟩)) ?_
      refine dS 7 (fun γ ρ B hb hd => op_convBS lb tu23 tu5 tu9 (.tmp (hl hd 5 57 rfl))) ?_
      refine dS 8 (fun γ ρ B hb hd => op_cmpS lb (.tmp (hl hd 1 53 rfl)) (.tmp (hl hd 6 58 rfl)) (congrArg some hv_v_63)) ?_
      refine dS 9 (fun γ ρ B hb hd => op_assign lb (.tmp (hl hd 7 59 rfl))) ?_
      exact DSteps.nil)
                 (by decide +kernel) (fun _ => rfl) rfl (fun _ => rfl) (fun _ => rfl) rfl (by decide) (by decide) (by decide +kernel) (fun _ d h => by cases h)
                 (ρ' := fun γ => [(7, ov (HDX go_8 (v_54 * 1) x_55)), (8, ov (S rB v_63))])
                 (X' := fun γ => [cown go_8 (rU UInt8) x_7 0 gc_9, cvar gb_6 (rP (rW (HDX go_8 (x_56 * 1) x_57)) (rP rB (rP rB r0))) ((), (x_58, (x_59, ()))), cvar gb_14 r_law01_Step a_1, cvar gb_13 r_ref01_Reader x_62])
                 (fun γ ρ hb hd => (.cons (hb 7 _ rfl (by decide)) (.cons (hdq hd 8 8 rfl) .nil))) (fun _ => rfl) (fun γ => ?_)
             refine JQ.at ⟨[(7, ov (HDX go_8 (v_54 * 1) x_55)), (8, ov (S rB v_63))], [cown go_8 (rU UInt8) x_7 0 gc_9, cvar gb_6 (rP (rW (HDX go_8 (x_56 * 1) x_57)) (rP rB (rP rB r0))) ((), (x_58, (x_59, ()))), cvar gb_14 r_law01_Step a_1, cvar gb_13 r_ref01_Reader x_62], []⟩ ?_
             refine JQ.then ?_
             replace hx1 := bnd_inv hx1
             obtain ⟨x_73, hx7, hq7⟩ := hx1
             refine JC.seqJ (γ := Unit) (stj := fun q => ⟨[(8, ov (S rB v_63))], [cvar gb_6 (rP (rW (HDX go_8 (x_56 * 1) x_57)) (rP rB (rP rB r0))) ((), (x_58, (x_59, ()))), cown go_8 (rU UInt8) x_73 0 gc_9, cvar gb_13 r_ref01_Reader x_62], []⟩) (fun q => ?_) ?_
             · obtain _ := q
               refine JC.at ⟨[(8, ov (S rB v_63))], [cvar gb_6 (rP (rW (HDX go_8 (x_56 * 1) x_57)) (rP rB (rP rB r0))) ((), (x_58, (x_59, ()))), cown go_8 (rU UInt8) x_73 0 gc_9, cvar gb_13 r_ref01_Reader x_62], []⟩ ?_
               refine JC.seq ?_
               refine JC.region ?_
               refine jc (op_move lb (.tmp rfl)) ?_
               refine jc (op_assign lb (.tmp rfl)) ?_
               refine JL.nil ?_
               refine JQ.then ?_
               refine JC.ret ?_
               refine JQ.outRB ?_
               replace hq7 := Option.some.inj hq7
               first | subst hq7 | clear hq7
               dsimp only at hq1
               refine JQ.outR ?_
               replace hq1 := Option.some.inj hq1
               subst hq1
               exact JQ.done (js := [0, 0, 0]) (ss := [.val (S rB v_63)]) () (.inl rfl) (.nil rfl) rfl (.cons (.tmp rfl) .nil) rfl rfl rfl
             · refine JC.seq ?_
               refine JC.region ?_
               refine jc (op_assign lb .cI) ?_
               refine JL.nil ?_
               refine JQ.then ?_
               refine JC.block ?_
               refine JC.pre ?_ (JC.loop (γ := Unit) (stf := fun s q => ⟨[(7, ov (HDX go_8 (v_54 * 1) x_55)), (8, ov (S rB v_63)), (9, ov (S (rI .i64) s.2))], [cown go_8 (rU UInt8) s.1 0 gc_9, cvar gb_6 (rP (rW (HDX go_8 (x_56 * 1) x_57)) (rP rB (rP rB r0))) ((), (x_58, (x_59, ()))), cvar gb_13 r_ref01_Reader x_62], []⟩) (q := ()) hx7 ?_)
               · exact (Imp.norm (js := [0, 0, 1]) rfl (.cons rfl (.cons rfl (.cons rfl .nil))))
               · intro s q x hx hr
                 obtain ⟨x_64, x_65⟩ := s
                 obtain _ := q
                 change law01_step.b1 k x_55 v_54 x_64 x_65 = some x at hx
                 unfold law01_step.b1 at hx
                 refine JC.at ⟨[(7, ov (HDX go_8 (v_54 * 1) x_55)), (8, ov (S rB v_63)), (9, ov (S (rI .i64) x_65))], [cown go_8 (rU UInt8) x_64 0 gc_9, cvar gb_6 (rP (rW (HDX go_8 (x_56 * 1) x_57)) (rP rB (rP rB r0))) ((), (x_58, (x_59, ()))), cvar gb_13 r_ref01_Reader x_62], []⟩ ?_
                 refine JC.seq ?_
                 refine JC.seq ?_
                 refine JC.region ?_
                 refine jc (op_move lb (.tmp rfl)) ?_
                 refine jc (op_move lb (.tmp rfl)) ?_
                 refine jc (op_lenX lb tu23 (.tmp rfl)) ?_
                 replace hx := lt1_inv hx
                 obtain ⟨v_66, hv_v_66, hx⟩ := hx
                 refine jc (op_cmpI lb (.tmp rfl) (.tmp rfl) (congrArg some hv_v_66)) ?_
                 refine JL.nil ?_
                 refine JQ.then ?_
                 replace hx := iteB_inv hx
                 rcases hx with ⟨hc9, hx⟩ | ⟨hc9, hx⟩
                 · refine JC.condT (.tmp rfl) hc9 ?_
                   refine JC.skip ?_
                   refine JQ.then ?_
                   refine JC.seq ?_
                   refine JC.block ?_
                   refine JC.region ?_
                   refine jc (op_move lb (.tmp rfl)) ?_
                   refine jc (op_move lb (.tmp rfl)) ?_
                   refine jc (op_move lb (.tmp rfl)) ?_
                   refine jc (op_move lb (.tmp rfl)) ?_
                   replace hx := bnd_inv hx
                   obtain ⟨i_67, hv_i_67, hx⟩ := hx
                   refine jc (op_indexAddrXF (r := (rU UInt8)) (o := v_54) lb tu23 tz5 (.tmp rfl) (.tmp rfl) hv_i_67) ?_
                   replace hx := bnd_inv hx
                   obtain ⟨v_68, hv_v_68, hx⟩ := hx
                   refine jc (op_loadOS (r := (rU UInt8)) (i := i_67) (off := 0) (j := 0) lb tS5 rfl rfl (.tmp rfl) hv_v_68 (Comp.self (rU UInt8) v_68) (by decide)) ?_
                   replace hx := lt1_inv hx
                   obtain ⟨v_69, hv_v_69, hx⟩ := hx
                   refine jc (op_arU lb (.tmp rfl) (HasO.cU (x := (1 : UInt8)) rfl (by decide)) (congrArg some hv_v_69)) ?_
                   replace hx := bnd_inv hx
                   obtain ⟨i_70, hv_i_70, hx⟩ := hx
                   refine jc (op_indexAddrXF (r := (rU UInt8)) (o := v_54) lb tu23 tz5 (.tmp rfl) (.tmp rfl) hv_i_70) ?_
                   refine JL.sub ⟨[(7, ov (HDX go_8 (v_54 * 1) x_55)), (8, ov (S rB v_63)), (9, ov (S (rI .i64) x_65)), (72, ov (S (rU UInt8) v_69)), (73, ov (EPT go_8 (i_70 * 1)))], [cown go_8 (rU UInt8) x_64 0 gc_9, cvar gb_6 (rP (rW (HDX go_8 (x_56 * 1) x_57)) (rP rB (rP rB r0))) ((), (x_58, (x_59, ()))), cvar gb_13 r_ref01_Reader x_62], []⟩ (.cons rfl (.cons rfl (.cons rfl (.cons rfl (.cons rfl .nil))))) rfl rfl ?_
                   replace hx := bnd_inv hx
                   obtain ⟨x_71, hv_x_71, hx⟩ := hx
                   refine jc (op_storeOSg (r := (rU UInt8)) (j := 0) tS5 rfl rfl (.tmp rfl) (.tmp rfl) hv_x_71) ?_
                   refine JL.nil ?_
                   refine JQ.outNB ?_
                   refine JQ.then ?_
                   refine JC.region ?_
                   refine jc (op_move lb (.tmp rfl)) ?_
                   replace hx := lt1_inv hx
                   obtain ⟨v_72, hv_v_72, hx⟩ := hx
                   refine jc (op_arI lb (.tmp rfl) .cI (congrArg some hv_v_72)) ?_
                   refine jc (op_assign lb (.tmp rfl)) ?_
                   refine JL.nil ?_
                   replace hx := Option.some.inj hx
                   first | subst hx | clear hx
                   exact JQ.next () rfl (Imp.norm (js := [0, 0, 0]) rfl (.cons rfl (.cons rfl (.cons rfl .nil))))
                 · refine JC.condF (.tmp rfl) hc9 ?_
                   refine JC.exit ?_
                   refine JQ.outX ?_
                   replace hx := Option.some.inj hx
                   first | subst hx | clear hx
                   have ht := hr _ rfl
                   have hq8 := congrArg some ht
                   clear hr ht
                   refine JQ.outX ?_
                   refine JQ.here ?_
                   replace hq8 := Option.some.inj hq8
                   first | subst hq8 | clear hq8
                   exact JQ.join () (Imp.norm (js := [1, 0, 0]) rfl (.cons rfl .nil))
           · refine JC.condF (.tmp rfl) hc6 ?_
             refine JC.skip ?_
             refine JQ.outNB ?_
             replace hx1 := Option.some.inj hx1
             first | subst hx1 | clear hx1
             refine JQ.pre (Imp.var (j := 0) (q := (rP (rW (HDX go_8 (o_2 * 1) n_3)) (rP rB (rP rB r0)))) (y := ((), (is_4, (made_5, ())))) rfl Wk.refl) ?_
             exact JQ.joinK () () rfl (Imp.norm (js := [0, 0, 0]) rfl .nil)

theorem sim_ref01_Reader_Left (k : Nat) (r_1 : ref01_Reader) (gb_2 : Nat) (r : Int) (hm : ref01_Reader_Left k r_1 = some r) : Sim Try.prog 19 [PTR gb_2 0] [cvar gb_2 r_ref01_Reader r_1] (γ := Unit) (fun q => [cvar gb_2 r_ref01_Reader r_1]) (fun q => .one (.val (S (rI .i64) r))) := by
 unfold ref01_Reader_Left at hm
 refine Sim.of Try.func19 rfl rfl (Nat.le_of_ble_eq_true rfl) (fun e0 w0 => ?_)
 refine JC.at ⟨[(0, ov (PTR gb_2 0))], [cvar gb_2 r_ref01_Reader r_1], []⟩ ?_
 refine JC.seq ?_
 refine JC.region ?_
 refine jc (op_assign lb .cI) ?_
 refine JL.nil ?_
 refine JQ.then ?_
 refine JC.seq ?_
 refine JC.seq ?_
 refine JC.region ?_
 refine jc (op_move lb (.tmp rfl)) ?_
 refine jc (op_nilCheck lb (.tmp rfl) (fun e v h => by subst h; rfl)) ?_
 refine jc (op_fieldAddr (off := 2) lb tf40_2 (.tmp rfl)) ?_
 refine jc (op_loadS (j := 0) lb tS4 (.tmp rfl) rfl (Comp.trans (Comp.self r_ref01_Reader r_1) (comp_ref01_Reader_Failed r_1) (Nat.le_of_ble_eq_true rfl)) rfl rfl) ?_
 refine JL.nil ?_
 refine JQ.then ?_
 replace hm := iteB_inv hm
 rcases hm with ⟨hc1, hm⟩ | ⟨hc1, hm⟩
 · refine JC.condT (.tmp rfl) hc1 ?_
   refine JC.seq ?_
   refine JC.region ?_
   refine jc (op_assign lb .cI) ?_
   refine JL.nil ?_
   refine JQ.then ?_
   refine JC.ret ?_
   refine JQ.outR ?_
   replace hm := Option.some.inj hm
   subst hm
   exact JQ.done (js := [0]) (ss := [.val (S (rI .i64) (0 : Int))]) () (.inl rfl) (.nil rfl) rfl (.cons (.tmp rfl) .nil) rfl rfl rfl
 · refine JC.condF (.tmp rfl) hc1 ?_
   refine JC.skip ?_
   refine JQ.then ?_
   refine JC.seq ?_
   replace hm := lt1_inv hm
   obtain ⟨v_3, hv_v_3, hm⟩ := hm
   refine JC.anyE (kl := []) (kk := 0) (base := [(0, ov (PTR gb_2 0))])
       (fs := fun γ => [⟨some 7, ov (PTR gb_2 0)⟩, ⟨some 8, ov (PTR gb_2 0)⟩, ⟨some 9, ov (PTR gb_2 (0 + 0))⟩, ⟨some 10, ov (S (rL (rU UInt8)) r_1.B)⟩, ⟨some 11, ov (S (rI .i64) (List.length r_1.B : Int))⟩, ⟨some 12, ov (PTR gb_2 0)⟩, ⟨some 13, ov (PTR gb_2 0)⟩, ⟨some 14, ov (PTR gb_2 (0 + 1))⟩, ⟨some 15, ov (S (rI .i64) r_1.At)⟩, ⟨some 16, ov (S (rI .i64) v_3)⟩, ⟨some 2, ov (S (rI .i64) v_3)⟩])
       (rs := fun γ => [⟨cvar gb_2 r_ref01_Reader r_1, none, none, [3, 8]⟩])
       (ds := [7, 8, 9, 10, 11, 12, 13, 14, 15, 16, 2]) (bs := [0]) (afts := [[], [], [], [], [], [], [], [], [], [], []]) (js := [0]) mixed (.cons rfl .nil) (fun _ => rfl)
       (by
      refine dS 1 (fun γ ρ B hb hd => op_move lb (.tmp (hb 0 _ rfl))) ?_
      refine dS 2 (fun γ ρ B hb hd => op_nilCheck lb (.tmp (hl hd 0 7 rfl)) (fun e v h => by subst h; rfl)) ?_
      refine dS 3 (fun γ ρ B hb hd => op_fieldAddr (off := 0) lb tf40_0 (.tmp (hl hd 1 8 rfl))) ?_
      refine DSteps.cons (j := 4) rfl (fun _ => rfl) (.run (fun γ ρ B hb hd => ⟨.none, OpStep.at ⟨ρ, (cvar gb_2 r_ref01_Reader r_1) :: B, _⟩ (setO ⟨ρ, (cvar gb_2 r_ref01_Reader r_1) :: B, _⟩ _ _) (op_loadS (j := 0) lb tS23 (.tmp (hl hd 2 9 rfl)) rfl (Comp.trans (Comp.self r_ref01_Reader r_1) (comp_ref01_Reader_B r_1) (Nat.le_of_ble_eq_true rfl)) rfl rfl)⟩)) ?_
      refine dS 5 (fun γ ρ B hb hd => op_lenL lb tu23 (.tmp (hl hd 3 10 rfl))) ?_
      refine dS 6 (fun γ ρ B hb hd => op_move lb (.tmp (hb 0 _ rfl))) ?_
      refine dS 7 (fun γ ρ B hb hd => op_nilCheck lb (.tmp (hl hd 5 12 rfl)) (fun e v h => by subst h; rfl)) ?_
      refine dS 8 (fun γ ρ B hb hd => op_fieldAddr (off := 1) lb tf40_1 (.tmp (hl hd 6 13 rfl))) ?_
      refine DSteps.cons (j := 9) rfl (fun _ => rfl) (.run (fun γ ρ B hb hd => ⟨.none, OpStep.at ⟨ρ, (cvar gb_2 r_ref01_Reader r_1) :: B, _⟩ (setO ⟨ρ, (cvar gb_2 r_ref01_Reader r_1) :: B, _⟩ _ _) (op_loadS (j := 0) lb tS3 (.tmp (hl hd 7 14 rfl)) rfl (Comp.trans (Comp.self r_ref01_Reader r_1) (comp_ref01_Reader_At r_1) (Nat.le_of_ble_eq_true rfl)) rfl rfl)⟩)) ?_
      refine dS 10 (fun γ ρ B hb hd => op_arI lb (.tmp (hl hd 4 11 rfl)) (.tmp (hl hd 8 15 rfl)) (congrArg some hv_v_3)) ?_
      refine dS 11 (fun γ ρ B hb hd => op_assign lb (.tmp (hl hd 9 16 rfl))) ?_
      exact DSteps.nil)
       (by decide +kernel) (fun _ => rfl) rfl (fun _ => rfl) (fun _ => rfl) rfl (by decide) (by decide) (by decide +kernel) (fun _ d h => by cases h)
       (ρ' := fun γ => [(2, ov (S (rI .i64) v_3))])
       (X' := fun γ => [cvar gb_2 r_ref01_Reader r_1])
       (fun γ ρ hb hd => (.cons (hdq hd 10 2 rfl) .nil)) (fun _ => rfl) (fun γ => ?_)
   refine JQ.at ⟨[(2, ov (S (rI .i64) v_3))], [cvar gb_2 r_ref01_Reader r_1], []⟩ ?_
   refine JQ.then ?_
   refine JC.ret ?_
   replace hm := Option.some.inj hm
   subst hm
   exact JQ.done (js := [0]) (ss := [.val (S (rI .i64) v_3)]) () (.inl rfl) (.nil rfl) rfl (.cons (.tmp rfl) .nil) rfl rfl rfl

theorem sim_ref01_Reader_End (k : Nat) (r_1 : ref01_Reader) (gb_2 : Nat) (r : Int) (hm : ref01_Reader_End k r_1 = some r) : Sim Try.prog 22 [PTR gb_2 0] [cvar gb_2 r_ref01_Reader r_1] (γ := Unit) (fun q => [cvar gb_2 r_ref01_Reader r_1]) (fun q => .one (.val (S (rI .i64) r))) := by
 unfold ref01_Reader_End at hm
 refine Sim.of Try.func22 rfl rfl (Nat.le_of_ble_eq_true rfl) (fun e0 w0 => ?_)
 refine JC.at ⟨[(0, ov (PTR gb_2 0))], [cvar gb_2 r_ref01_Reader r_1], []⟩ ?_
 refine JC.seq ?_
 refine JC.region ?_
 refine jc (op_assign lb .cI) ?_
 refine JL.nil ?_
 refine JQ.then ?_
 refine JC.seq ?_
 replace hm := bnd_inv hm
 obtain ⟨x_5, hx1, hq1⟩ := hm
 refine JC.seqJ (γ := Unit) (stj := fun q => ⟨[(11, ov (S rB x_5))], [cvar gb_2 r_ref01_Reader r_1], []⟩) (fun q => ?_) ?_
 · obtain _ := q
   refine JC.at ⟨[(11, ov (S rB x_5))], [cvar gb_2 r_ref01_Reader r_1], []⟩ ?_
   replace hq1 := iteB_inv hq1
   rcases hq1 with ⟨hc4, hq1⟩ | ⟨hc4, hq1⟩
   · refine JC.condT (.tmp rfl) hc4 ?_
     refine JC.seq ?_
     refine JC.region ?_
     refine jc (op_assign lb .cI) ?_
     refine JL.nil ?_
     refine JQ.then ?_
     refine JC.ret ?_
     refine JQ.outR ?_
     replace hq1 := Option.some.inj hq1
     subst hq1
     exact JQ.done (js := [0]) (ss := [.val (S (rI .i64) (4 : Int))]) () (.inl rfl) (.nil rfl) rfl (.cons (.tmp rfl) .nil) rfl rfl rfl
   · refine JC.condF (.tmp rfl) hc4 ?_
     refine JC.skip ?_
     refine JQ.then ?_
     refine JC.seq ?_
     refine JC.region ?_
     refine jc (op_assign lb .cI) ?_
     refine JL.nil ?_
     refine JQ.then ?_
     refine JC.ret ?_
     replace hq1 := Option.some.inj hq1
     subst hq1
     exact JQ.done (js := [0]) (ss := [.val (S (rI .i64) (0 : Int))]) () (.inl rfl) (.nil rfl) rfl (.cons (.tmp rfl) .nil) rfl rfl rfl
 · refine JC.region ?_
   refine jc (op_move lb (.tmp rfl)) ?_
   refine jc (op_nilCheck lb (.tmp rfl) (fun e v h => by subst h; rfl)) ?_
   refine jc (op_fieldAddr (off := 2) lb tf40_2 (.tmp rfl)) ?_
   refine jc (op_loadS (j := 0) lb tS4 (.tmp rfl) rfl (Comp.trans (Comp.self r_ref01_Reader r_1) (comp_ref01_Reader_Failed r_1) (Nat.le_of_ble_eq_true rfl)) rfl rfl) ?_
   refine jc (op_move lb (.tmp rfl)) ?_
   replace hx1 := iteB_inv hx1
   rcases hx1 with ⟨hc3, hx1⟩ | ⟨hc3, hx1⟩
   · refine JL.skip (.no rfl (ltB rfl) rfl hc3) (fun d h => by cases h; exact ltB rfl) ?_
     refine JL.skip (.no rfl (ltB rfl) rfl hc3) (fun d h => by cases h; exact ltB rfl) ?_
     refine JL.skip (.no rfl (ltB rfl) rfl hc3) (fun d h => by cases h; exact ltB rfl) ?_
     refine jc (op_pickT lb (.tmp rfl) hc3 .cB) ?_
     refine JL.nil ?_
     replace hx1 := Option.some.inj hx1
     first | subst hx1 | clear hx1
     exact JQ.join () (Imp.norm (js := [0]) rfl (.cons rfl .nil))
   · refine JL.run (.yes rfl (ltB rfl) rfl hc3) (op_move lb (.tmp rfl)) ?_
     replace hx1 := bnd_inv hx1
     obtain ⟨v_3, hv_v_3, hx1⟩ := hx1
     refine JL.runX (.yes rfl (ltB rfl) rfl hc3) (op_call (js := [0]) ld cl19 (sim_ref01_Reader_Left k r_1 gb_2 v_3 hv_v_3) .func (.cons (.tmp rfl) .nil) rfl) (fun _ => ?_)
     replace hx1 := lt1_inv hx1
     obtain ⟨v_4, hv_v_4, hx1⟩ := hx1
     refine JL.run (.yes rfl (ltB rfl) rfl hc3) (op_cmpI lb (.tmp rfl) .cI (congrArg some hv_v_4)) ?_
     refine jc (op_pickF lb (.tmp rfl) hc3 (.tmp rfl)) ?_
     refine JL.sub ⟨[(11, ov (S rB v_4))], [cvar gb_2 r_ref01_Reader r_1], []⟩ (.cons rfl .nil) rfl rfl ?_
     refine JL.nil ?_
     replace hx1 := Option.some.inj hx1
     first | subst hx1 | clear hx1
     exact JQ.join () (Imp.norm (js := [0]) rfl (.cons rfl .nil))

theorem sim_ref01_Reader_Blob'2 (k : Nat) (r_1 : ref01_Reader) (gb_2 : Nat) (r : (List UInt8) × ref01_Reader) (hm : ref01_Reader_Blob'2 k r_1 = some r) : Sim Try.prog 43 [PTR gb_2 0] [cvar gb_2 r_ref01_Reader r_1] (γ := Unit) (fun q => [cvar gb_2 r_ref01_Reader r.2]) (fun q => .one (.val (S (rL (rU UInt8)) r.1))) := by
 unfold ref01_Reader_Blob'2 at hm
 refine Sim.of Try.func43 rfl rfl (Nat.le_of_ble_eq_true rfl) (fun e0 w0 => ?_)
 refine JC.at ⟨[(0, ov (PTR gb_2 0))], [cvar gb_2 r_ref01_Reader r_1], []⟩ ?_
 refine JC.seq ?_
 refine JC.region ?_
 refine jc (op_assign lb HasO.nilH) ?_
 refine JL.nil ?_
 refine JQ.then ?_
 refine JC.seq ?_
 refine JC.region ?_
 refine jc (op_move lb (.tmp rfl)) ?_
 refine jc (op_move lb (.tmp rfl)) ?_
 replace hm := bnd_inv hm
 obtain ⟨⟨v_3, x_4⟩, hv_v_3, hm⟩ := hm
 refine jx (op_call (js := [0]) ld cl42 (sim_ref01_Reader_Number'2 k (2 : Int) r_1 gb_2 (v_3, x_4) hv_v_3) .func (.cons (.tmp rfl) (.cons .cI .nil)) rfl) (fun _ => ?_)
 replace hm := lt1_inv hm
 obtain ⟨v_5, hv_v_5, hm⟩ := hm
 refine jc (op_convUI lb tu22 tu3 (.tmp rfl) hv_v_5) ?_
 replace hm := bnd_inv hm
 obtain ⟨⟨v_6, x_7⟩, hv_v_6, hm⟩ := hm
 refine jx (op_call (js := [0]) ld cl46 (sim_ref01_Reader_Bytes k v_5 x_4 gb_2 (v_6, x_7) hv_v_6) .func (.cons (.tmp rfl) (.cons (.tmp rfl) .nil)) rfl) (fun _ => ?_)
 refine jc (op_assign lb (.tmp rfl)) ?_
 refine JL.nil ?_
 refine JQ.then ?_
 refine JC.ret ?_
 replace hm := Option.some.inj hm
 subst hm
 exact JQ.done (js := [0]) (ss := [.val (S (rL (rU UInt8)) v_6)]) () (.inl rfl) (.nil rfl) rfl (.cons (.tmp rfl) .nil) rfl rfl rfl

end Go.Proofs.Ytkbkdfcakpbojaa
