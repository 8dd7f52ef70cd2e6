/- Walks. -/
import Derived.Test.YthoggbomakolkaaT
import Derived.Test.YthoggbomakolkaaW0
namespace Go.Proofs.Ythoggbomakolkaa
open Go Fw
set_option linter.unusedVariables false
set_option maxRecDepth 100000
set_option maxHeartbeats 4000000

theorem sim_cmp_Compareuint64 (k : Nat) (x_1 : UInt64) (y_2 : UInt64) (r : Int) (hm : cmp_Compareuint64 k x_1 y_2 = some r) : Sim Try.prog 26 [S (rU UInt64) x_1, S (rU UInt64) y_2] [] (γ := Unit) (fun q => []) (fun q => .one (.val (S (rI .i64) r))) := by
 unfold cmp_Compareuint64 at hm
 refine Sim.of Try.func26 rfl rfl (Nat.le_of_ble_eq_true rfl) (fun e0 w0 => ?_)
 refine JC.at ⟨[(0, ov (S (rU UInt64) x_1)), (1, ov (S (rU UInt64) y_2))], [], []⟩ ?_
 refine JC.seq ?_
 refine JC.region ?_
 refine jc (op_assign lb .cI) ?_
 refine JL.nil ?_
 refine JQ.then ?_
 refine JC.seq ?_
 refine JC.region ?_
 refine jc (op_move lb (.tmp rfl)) ?_
 replace hm := bnd_inv hm
 obtain ⟨v_3, hv_v_3, hm⟩ := hm
 refine jx (op_call (js := []) ld cl52 (sim_cmp_isNaNuint64 k x_1 v_3 hv_v_3) .func (.cons (.tmp rfl) .nil) rfl) (fun _ => ?_)
 refine jc (op_assign lb (.tmp rfl)) ?_
 refine JL.nil ?_
 refine JQ.then ?_
 refine JC.seq ?_
 refine JC.region ?_
 refine jc (op_move lb (.tmp rfl)) ?_
 replace hm := bnd_inv hm
 obtain ⟨v_4, hv_v_4, hm⟩ := hm
 refine jx (op_call (js := []) ld cl52 (sim_cmp_isNaNuint64 k y_2 v_4 hv_v_4) .func (.cons (.tmp rfl) .nil) rfl) (fun _ => ?_)
 refine jc (op_assign lb (.tmp rfl)) ?_
 refine JL.nil ?_
 refine JQ.then ?_
 refine JC.seq ?_
 refine JC.seq ?_
 refine JC.region ?_
 refine jc (op_move lb (.tmp rfl)) ?_
 refine JL.nil ?_
 refine JQ.then ?_
 replace hm := iteB_inv hm
 rcases hm with ⟨hc1, hm⟩ | ⟨hc1, hm⟩
 · refine JC.condT (.tmp rfl) hc1 ?_
   refine JC.seq ?_
   refine JC.seq ?_
   refine JC.region ?_
   refine jc (op_move lb (.tmp rfl)) ?_
   refine JL.nil ?_
   refine JQ.then ?_
   replace hm := iteB_inv hm
   rcases hm with ⟨hc2, hm⟩ | ⟨hc2, hm⟩
   · refine JC.condT (.tmp rfl) hc2 ?_
     refine JC.seq ?_
     refine JC.region ?_
     refine jc (op_assign lb .cI) ?_
     refine JL.nil ?_
     refine JQ.then ?_
     refine JC.ret ?_
     refine JQ.outR ?_
     refine JQ.outR ?_
     replace hm := Option.some.inj hm
     subst hm
     exact JQ.done (js := []) (ss := [.val (S (rI .i64) (0 : Int))]) () (.inl rfl) (.nil rfl) rfl (.cons (.tmp rfl) .nil) rfl rfl rfl
   · refine JC.condF (.tmp rfl) hc2 ?_
     refine JC.skip ?_
     refine JQ.then ?_
     refine JC.seq ?_
     refine JC.region ?_
     refine jc (op_assign lb .cI) ?_
     refine JL.nil ?_
     refine JQ.then ?_
     refine JC.ret ?_
     refine JQ.outR ?_
     replace hm := Option.some.inj hm
     subst hm
     exact JQ.done (js := []) (ss := [.val (S (rI .i64) (-1 : Int))]) () (.inl rfl) (.nil rfl) rfl (.cons (.tmp rfl) .nil) rfl rfl rfl
 · refine JC.condF (.tmp rfl) hc1 ?_
   refine JC.skip ?_
   refine JQ.then ?_
   refine JC.seq ?_
   refine JC.seq ?_
   refine JC.region ?_
   refine jc (op_move lb (.tmp rfl)) ?_
   refine JL.nil ?_
   refine JQ.then ?_
   replace hm := iteB_inv hm
   rcases hm with ⟨hc3, hm⟩ | ⟨hc3, hm⟩
   · refine JC.condT (.tmp rfl) hc3 ?_
     refine JC.seq ?_
     refine JC.region ?_
     refine jc (op_assign lb .cI) ?_
     refine JL.nil ?_
     refine JQ.then ?_
     refine JC.ret ?_
     refine JQ.outR ?_
     replace hm := Option.some.inj hm
     subst hm
     exact JQ.done (js := []) (ss := [.val (S (rI .i64) (1 : Int))]) () (.inl rfl) (.nil rfl) rfl (.cons (.tmp rfl) .nil) rfl rfl rfl
   · refine JC.condF (.tmp rfl) hc3 ?_
     refine JC.skip ?_
     refine JQ.then ?_
     refine JC.seq ?_
     refine JC.seq ?_
     refine JC.region ?_
     refine jc (op_move lb (.tmp rfl)) ?_
     refine jc (op_move lb (.tmp rfl)) ?_
     replace hm := lt1_inv hm
     obtain ⟨v_5, hv_v_5, hm⟩ := hm
     refine jc (op_cmpU lb (.tmp rfl) (.tmp rfl) (congrArg some hv_v_5)) ?_
     refine JL.sub ⟨[(0, ov (S (rU UInt64) x_1)), (1, ov (S (rU UInt64) y_2)), (16, ov (S rB v_5))], [], []⟩ (.cons rfl (.cons rfl (.cons rfl .nil))) rfl rfl ?_
     refine JL.nil ?_
     refine JQ.then ?_
     replace hm := iteB_inv hm
     rcases hm with ⟨hc4, hm⟩ | ⟨hc4, hm⟩
     · refine JC.condT (.tmp rfl) hc4 ?_
       refine JC.seq ?_
       refine JC.region ?_
       refine jc (op_assign lb .cI) ?_
       refine JL.nil ?_
       refine JQ.then ?_
       refine JC.ret ?_
       refine JQ.outR ?_
       replace hm := Option.some.inj hm
       subst hm
       exact JQ.done (js := []) (ss := [.val (S (rI .i64) (-1 : Int))]) () (.inl rfl) (.nil rfl) rfl (.cons (.tmp rfl) .nil) rfl rfl rfl
     · refine JC.condF (.tmp rfl) hc4 ?_
       refine JC.skip ?_
       refine JQ.then ?_
       refine JC.seq ?_
       refine JC.seq ?_
       refine JC.region ?_
       refine jc (op_move lb (.tmp rfl)) ?_
       refine jc (op_move lb (.tmp rfl)) ?_
       replace hm := lt1_inv hm
       obtain ⟨v_6, hv_v_6, hm⟩ := hm
       refine jc (op_cmpU lb (.tmp rfl) (.tmp rfl) (congrArg some hv_v_6)) ?_
       refine JL.nil ?_
       refine JQ.then ?_
       replace hm := iteB_inv hm
       rcases hm with ⟨hc5, hm⟩ | ⟨hc5, hm⟩
       · refine JC.condT (.tmp rfl) hc5 ?_
         refine JC.seq ?_
         refine JC.region ?_
         refine jc (op_assign lb .cI) ?_
         refine JL.nil ?_
         refine JQ.then ?_
         refine JC.ret ?_
         refine JQ.outR ?_
         replace hm := Option.some.inj hm
         subst hm
         exact JQ.done (js := []) (ss := [.val (S (rI .i64) (1 : Int))]) () (.inl rfl) (.nil rfl) rfl (.cons (.tmp rfl) .nil) rfl rfl rfl
       · refine JC.condF (.tmp rfl) hc5 ?_
         refine JC.skip ?_
         refine JQ.then ?_
         refine JC.seq ?_
         refine JC.region ?_
         refine jc (op_assign lb .cI) ?_
         refine JL.nil ?_
         refine JQ.then ?_
         refine JC.ret ?_
         replace hm := Option.some.inj hm
         subst hm
         exact JQ.done (js := []) (ss := [.val (S (rI .i64) (0 : Int))]) () (.inl rfl) (.nil rfl) rfl (.cons (.tmp rfl) .nil) rfl rfl rfl

theorem sim_cmp_Orint (k : Nat) (vals_1 : (List Int)) (r : Int) (hm : cmp_Orint k vals_1 = some r) : Sim Try.prog 24 [S (rL (rI .i64)) vals_1] [] (γ := Unit) (fun q => []) (fun q => .one (.val (S (rI .i64) r))) := by
 unfold cmp_Orint at hm
 refine Sim.of Try.func24 rfl rfl (Nat.le_of_ble_eq_true rfl) (fun e0 w0 => ?_)
 refine JC.at ⟨[(0, ov (S (rL (rI .i64)) vals_1))], [], []⟩ ?_
 refine JC.seq ?_
 refine JC.region ?_
 refine jc (op_assign lb .cI) ?_
 refine JL.nil ?_
 refine JQ.then ?_
 refine JC.seq ?_
 refine JC.region ?_
 refine jc (op_assign lb .cI) ?_
 refine JL.nil ?_
 refine JQ.then ?_
 replace hm := bnd_inv hm
 obtain ⟨tv1, hx1, hq1⟩ := hm
 refine JC.seqK (α := Unit) (γ := Unit) (stj := fun v q => ⟨[(3, ov (S (rI .i64) (0 : Int)))], [], []⟩) (p := fun v => tv1 = (.inl v)) (fun v q hv => ?_) ?_
 · subst hv
   skip
   obtain _ := q
   dsimp only at hq1
   refine JC.at ⟨[(3, ov (S (rI .i64) (0 : Int)))], [], []⟩ ?_
   refine JC.seq ?_
   refine JC.region ?_
   refine jc (op_move lb (.tmp rfl)) ?_
   refine jc (op_assign lb (.tmp rfl)) ?_
   refine JL.nil ?_
   refine JQ.then ?_
   refine JC.ret ?_
   replace hq1 := Option.some.inj hq1
   subst hq1
   exact JQ.done (js := []) (ss := [.val (S (rI .i64) (0 : Int))]) () (.inl rfl) (.nil rfl) rfl (.cons (.tmp rfl) .nil) rfl rfl rfl
 · refine JC.seq ?_
   refine JC.region ?_
   refine jc (op_move lb (.tmp rfl)) ?_
   refine jc (op_lenL lb tu78 (.tmp rfl)) ?_
   refine jc (op_move lb .cI) ?_
   refine JL.nil ?_
   refine JQ.then ?_
   refine JC.block ?_
   replace hx1 := bnd_inv hx1
   obtain ⟨tv2, hL2, hq2⟩ := hx1
   refine JC.pre ?_ (JC.loop (γ := Unit) (stf := fun s q => ⟨[(3, ov (S (rI .i64) (0 : Int))), (6, ov (S (rL (rI .i64)) vals_1)), (7, ov (S (rI .i64) (List.length vals_1 : Int))), (8, ov (S (rI .i64) s))], [], []⟩) (q := ()) hL2 ?_)
   · exact (Imp.norm (js := []) rfl (.cons rfl (.cons rfl (.cons rfl (.cons rfl .nil)))))
   · intro x_2 q x hx hr
     obtain _ := q
     change cmp_Orint.b1 k vals_1 x_2 = some x at hx
     unfold cmp_Orint.b1 at hx
     refine JC.at ⟨[(3, ov (S (rI .i64) (0 : Int))), (6, ov (S (rL (rI .i64)) vals_1)), (7, ov (S (rI .i64) (List.length vals_1 : Int))), (8, ov (S (rI .i64) x_2))], [], []⟩ ?_
     refine JC.seq ?_
     refine JC.region ?_
     replace hx := lt1_inv hx
     obtain ⟨v_3, hv_v_3, hx⟩ := hx
     refine jc (op_cmpI lb (.tmp rfl) (.tmp rfl) (congrArg some hv_v_3)) ?_
     refine JL.nil ?_
     refine JQ.then ?_
     refine JC.seq ?_
     replace hx := iteB_inv hx
     rcases hx with ⟨hc3, hx⟩ | ⟨hc3, hx⟩
     · refine JC.condT (.tmp rfl) hc3 ?_
       refine JC.skip ?_
       refine JQ.then ?_
       refine JC.seq ?_
       refine JC.block ?_
       refine JC.seq ?_
       refine JC.region ?_
       replace hx := bnd_inv hx
       obtain ⟨v_4, hv_v_4, hx⟩ := hx
       refine jc (op_indexAddrLg lb tu78 tz3 (.tmp rfl) (.tmp rfl) hv_v_4) ?_
       refine jc (op_loadPSg lb tS3 rfl (.tmp rfl) rfl) ?_
       refine jc (op_assign lb (.tmp rfl)) ?_
       refine JL.nil ?_
       refine JQ.then ?_
       refine JC.seq ?_
       refine JC.region ?_
       refine jc (op_move lb (.tmp rfl)) ?_
       refine jc (op_move lb (.tmp rfl)) ?_
       replace hx := lt1_inv hx
       obtain ⟨v_5, hv_v_5, hx⟩ := hx
       refine jc (op_cmpI lb (.tmp rfl) (.tmp rfl) (congrArg some hv_v_5)) ?_
       refine JL.nil ?_
       refine JQ.then ?_
       replace hx := iteB_inv hx
       rcases hx with ⟨hc4, hx⟩ | ⟨hc4, hx⟩
       · refine JC.condT (.tmp rfl) hc4 ?_
         refine JC.seq ?_
         refine JC.region ?_
         refine jc (op_move lb (.tmp rfl)) ?_
         refine jc (op_assign lb (.tmp rfl)) ?_
         refine JL.nil ?_
         refine JQ.then ?_
         refine JC.ret ?_
         refine JQ.outRB ?_
         refine JQ.outR ?_
         replace hx := Option.some.inj hx
         first | subst hx | clear hx
         have ht := hr _ rfl
         clear hr
         first | subst ht | clear ht
         dsimp only at hq2
         refine JQ.outR ?_
         refine JQ.outRB ?_
         replace hq2 := Option.some.inj hq2
         first | subst hq2 | clear hq2
         dsimp only at hq1
         refine JQ.outR ?_
         replace hq1 := Option.some.inj hq1
         subst hq1
         exact JQ.done (js := []) (ss := [.val (S (rI .i64) v_4)]) () (.inl rfl) (.nil rfl) rfl (.cons (.tmp rfl) .nil) rfl rfl rfl
       · refine JC.condF (.tmp rfl) hc4 ?_
         refine JC.skip ?_
         refine JQ.outNB ?_
         refine JQ.then ?_
         refine JC.region ?_
         replace hx := lt1_inv hx
         obtain ⟨v_6, hv_v_6, hx⟩ := hx
         refine jc (op_arI lb (.tmp rfl) .cI (congrArg some hv_v_6)) ?_
         refine jc (op_move lb (.tmp rfl)) ?_
         refine JL.nil ?_
         replace hx := Option.some.inj hx
         first | subst hx | clear hx
         exact JQ.next () rfl (Imp.norm (js := []) rfl (.cons rfl (.cons rfl (.cons rfl (.cons rfl .nil)))))
     · refine JC.condF (.tmp rfl) hc3 ?_
       refine JC.exit ?_
       refine JQ.outX ?_
       replace hx := Option.some.inj hx
       first | subst hx | clear hx
       have ht := hr _ rfl
       clear hr
       first | subst ht | clear ht
       dsimp only at hq2
       refine JQ.outX ?_
       refine JQ.here ?_
       replace hq2 := Option.some.inj hq2
       first | subst hq2 | clear hq2
       exact JQ.joinK () () rfl (Imp.norm (js := []) rfl (.cons rfl .nil))

theorem sim_event_Less (k : Nat) (a_1 : api_Dot) (b_2 : api_Dot) (r : Bool) (hm : event_Less k a_1 b_2 = some r) : Sim Try.prog 7 [A r_api_Dot a_1, A r_api_Dot b_2] [] (γ := Unit) (fun q => []) (fun q => .one (.val (S rB r))) := by
 unfold event_Less at hm
 refine Sim.of Try.func7 rfl rfl (Nat.le_of_ble_eq_true rfl) (fun e0 w0 => ?_)
 refine JC.at ⟨[(0, ov (A r_api_Dot a_1)), (1, ov (A r_api_Dot b_2))], [], []⟩ ?_
 refine JC.seq ?_
 refine JC.region ?_
 refine jx (op_boxA lb (.tmp rfl)) (fun q => ?_)
 obtain ⟨gb_3, hqq⟩ : ∃ z, z = q := ⟨_, rfl⟩
 subst hqq
 refine jx (op_boxA lb (.tmp rfl)) (fun q => ?_)
 obtain ⟨gb_4, hqq⟩ : ∃ z, z = q := ⟨_, rfl⟩
 subst hqq
 refine jc (op_assign lb .cB) ?_
 refine JL.nil ?_
 refine JQ.then ?_
 refine JC.seq ?_
 replace hm := bnd_inv hm
 obtain ⟨v_5, hv_v_5, hm⟩ := hm
 replace hm := bnd_inv hm
 obtain ⟨v_6, hv_v_6, hm⟩ := hm
 replace hm := bnd_inv hm
 obtain ⟨v_7, hv_v_7, hm⟩ := hm
 replace hm := lt1_inv hm
 obtain ⟨v_8, hv_v_8, hm⟩ := hm
 refine JC.anyE (kl := []) (kk := 0) (base := [(2, ov (PTR gb_3 0)), (3, ov (PTR gb_4 0))])
     (fs := fun γ => [⟨some 5, ov (PTR gb_3 (0 + 0))⟩, ⟨some 6, ov (S (rI .i64) a_1.Region)⟩, ⟨some 7, ov (PTR gb_4 (0 + 0))⟩, ⟨some 8, ov (S (rI .i64) b_2.Region)⟩, ⟨some 9, ov (S (rI .i64) v_5)⟩, ⟨some 10, ov (PTR gb_3 (0 + 1))⟩, ⟨some 11, ov (S (rU UInt64) a_1.Count)⟩, ⟨some 12, ov (PTR gb_4 (0 + 1))⟩, ⟨some 13, ov (S (rU UInt64) b_2.Count)⟩, ⟨some 14, ov (S (rI .i64) v_6)⟩, ⟨some 15, ov (S (rL (rI .i64)) ([v_5, v_6] : (List Int)))⟩, ⟨some 16, ov (S (rI .i64) v_7)⟩, ⟨some 17, ov (S rB v_8)⟩, ⟨some 4, ov (S rB v_8)⟩])
     (rs := fun γ => [⟨cvar gb_3 r_api_Dot a_1, none, none, [1, 6]⟩, ⟨cvar gb_4 r_api_Dot b_2, none, none, [3, 8]⟩])
     (ds := [5, 6, 7, 8, 9, 10, 11, 12, 13, 14, 15, 16, 17, 4]) (bs := [2, 3]) (afts := [[], [], [], [], [], [], [], [], [], [], [], [], [], []]) (js := [0, 0]) mixed (.cons rfl (.cons rfl .nil)) (fun _ => rfl)
     (by
      refine dS 1 (fun γ ρ B hb hd => op_fieldAddr (off := 0) lb tf24_0 (.tmp (hb 2 _ rfl))) ?_
      refine DSteps.cons (j := 2) rfl (fun _ => rfl) (.run (fun γ ρ B hb hd => ⟨.none, OpStep.at ⟨ρ, (cvar gb_3 r_api_Dot a_1) :: B, _⟩ (setO ⟨ρ, (cvar gb_3 r_api_Dot a_1) :: B, _⟩ _ _) (op_loadS (j := 0) lb tS3 (.tmp (hl hd 0 5 rfl)) rfl (Comp.trans (Comp.self r_api_Dot a_1) (comp_api_Dot_Region a_1) (Nat.le_of_ble_eq_true rfl)) rfl rfl)⟩)) ?_
      refine dS 3 (fun γ ρ B hb hd => op_fieldAddr (off := 0) lb tf24_0 (.tmp (hb 3 _ rfl))) ?_
      refine DSteps.cons (j := 4) rfl (fun _ => rfl) (.run (fun γ ρ B hb hd => ⟨.none, OpStep.at ⟨ρ, (cvar gb_4 r_api_Dot b_2) :: B, _⟩ (setO ⟨ρ, (cvar gb_4 r_api_Dot b_2) :: B, _⟩ _ _) (op_loadS (j := 0) lb tS3 (.tmp (hl hd 2 7 rfl)) rfl (Comp.trans (Comp.self r_api_Dot b_2) (comp_api_Dot_Region b_2) (Nat.le_of_ble_eq_true rfl)) rfl rfl)⟩)) ?_
      refine dS 5 (fun γ ρ B hb hd => (op_call (js := []) ld cl25 (sim_cmp_Compareint k a_1.Region b_2.Region v_5 hv_v_5) .func (.cons (.tmp (hl hd 1 6 rfl)) (.cons (.tmp (hl hd 3 8 rfl)) .nil)) rfl).post (fun _ => Imp.refl)) ?_
      refine dS 6 (fun γ ρ B hb hd => op_fieldAddr (off := 1) lb tf24_1 (.tmp (hb 2 _ rfl))) ?_
      refine DSteps.cons (j := 7) rfl (fun _ => rfl) (.run (fun γ ρ B hb hd => ⟨.none, OpStep.at ⟨ρ, (cvar gb_3 r_api_Dot a_1) :: B, _⟩ (setO ⟨ρ, (cvar gb_3 r_api_Dot a_1) :: B, _⟩ _ _) (op_loadS (j := 0) lb tS22 (.tmp (hl hd 5 10 rfl)) rfl (Comp.trans (Comp.self r_api_Dot a_1) (comp_api_Dot_Count a_1) (Nat.le_of_ble_eq_true rfl)) rfl rfl)⟩)) ?_
      refine dS 8 (fun γ ρ B hb hd => op_fieldAddr (off := 1) lb tf24_1 (.tmp (hb 3 _ rfl))) ?_
      refine DSteps.cons (j := 9) rfl (fun _ => rfl) (.run (fun γ ρ B hb hd => ⟨.none, OpStep.at ⟨ρ, (cvar gb_4 r_api_Dot b_2) :: B, _⟩ (setO ⟨ρ, (cvar gb_4 r_api_Dot b_2) :: B, _⟩ _ _) (op_loadS (j := 0) lb tS22 (.tmp (hl hd 7 12 rfl)) rfl (Comp.trans (Comp.self r_api_Dot b_2) (comp_api_Dot_Count b_2) (Nat.le_of_ble_eq_true rfl)) rfl rfl)⟩)) ?_
      refine dS 10 (fun γ ρ B hb hd => (op_call (js := []) ld cl26 (sim_cmp_Compareuint64 k a_1.Count b_2.Count v_6 hv_v_6) .func (.cons (.tmp (hl hd 6 11 rfl)) (.cons (.tmp (hl hd 8 13 rfl)) .nil)) rfl).post (fun _ => Imp.refl)) ?_
      refine dS 11 (fun γ ρ B hb hd => op_buildF (r := (rI .i64)) lb tu78 tz3 tZ3 rfl (Nat.le_of_ble_eq_true rfl) (.S rfl (.tmp (hl hd 4 9 rfl)) (.S rfl (.tmp (hl hd 9 14 rfl)) .nil)) rfl) ?_
      refine dS 12 (fun γ ρ B hb hd => (op_call (js := []) ld cl24 (sim_cmp_Orint k ([v_5, v_6] : (List Int)) v_7 hv_v_7) .func (.cons (.tmp (hl hd 10 15 rfl)) .nil) rfl).post (fun _ => Imp.refl)) ?_
      refine dS 13 (fun γ ρ B hb hd => op_cmpI lb (.tmp (hl hd 11 16 rfl)) .cI (congrArg some hv_v_8)) ?_
      refine dS 14 (fun γ ρ B hb hd => op_assign lb (.tmp (hl hd 12 17 rfl))) ?_
      exact DSteps.nil)
     (by decide +kernel) (fun _ => rfl) rfl (fun _ => rfl) (fun _ => rfl) rfl (by decide) (by decide) (by decide +kernel) (fun _ d h => by cases h)
     (ρ' := fun γ => [(4, ov (S rB v_8))])
     (X' := fun γ => [cvar gb_3 r_api_Dot a_1, cvar gb_4 r_api_Dot b_2])
     (fun γ ρ hb hd => (.cons (hdq hd 13 4 rfl) .nil)) (fun _ => rfl) (fun γ => ?_)
 refine JQ.at ⟨[(4, ov (S rB v_8))], [cvar gb_3 r_api_Dot a_1, cvar gb_4 r_api_Dot b_2], []⟩ ?_
 refine JQ.then ?_
 refine JC.ret ?_
 replace hm := Option.some.inj hm
 subst hm
 exact JQ.done (js := []) (ss := [.val (S rB v_8)]) () (.inl rfl) (.nil rfl) rfl (.cons (.tmp rfl) .nil) rfl rfl rfl

end Go.Proofs.Ythoggbomakolkaa
