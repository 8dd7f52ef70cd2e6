/- Walks. -/
import Derived.Test.YthoggbomakolkaaT
import Derived.Test.YthoggbomakolkaaW0
import Derived.Test.YthoggbomakolkaaW2
namespace Go.Proofs.Ythoggbomakolkaa
open Go Fw
set_option linter.unusedVariables false
set_option maxRecDepth 100000
set_option maxHeartbeats 4000000

theorem sim_event_Join (k : Nat) (a_1 : (Vector UInt64 16)) (b_2 : (Vector UInt64 16)) (r : (Vector UInt64 16)) (hm : event_Join k a_1 b_2 = some r) : Sim Try.prog 8 [A (rV 16 (rU UInt64)) a_1, A (rV 16 (rU UInt64)) b_2] [] (γ := Unit) (fun q => []) (fun q => .one (.val (A (rV 16 (rU UInt64)) r))) := by
 unfold event_Join at hm
 refine Sim.of Try.func8 rfl rfl (Nat.le_of_ble_eq_true rfl) (fun e0 w0 => ?_)
 refine JC.at ⟨[(0, ov (A (rV 16 (rU UInt64)) a_1)), (1, ov (A (rV 16 (rU UInt64)) b_2))], [], []⟩ ?_
 refine JC.seq ?_
 refine JC.region ?_
 refine jx (op_boxA lb (.tmp rfl)) (fun q => ?_)
 obtain ⟨gb_3, hqq⟩ : ∃ z, z = q := ⟨_, rfl⟩
 subst hqq
 refine jx (op_boxA lb (.tmp rfl)) (fun q => ?_)
 obtain ⟨gb_4, hqq⟩ : ∃ z, z = q := ⟨_, rfl⟩
 subst hqq
 refine jx (op_alloc lb tZ26 zr26) (fun q => ?_)
 obtain ⟨gb_5, hqq⟩ : ∃ z, z = q := ⟨_, rfl⟩
 subst hqq
 refine JL.nil ?_
 refine JQ.then ?_
 replace hm := bnd_inv hm
 obtain ⟨a_16, hx1, hq1⟩ := hm
 refine JC.seqJ (γ := Unit) (stj := fun q => ⟨[(2, ov (PTR gb_3 0)), (4, ov (PTR gb_5 0))], [cvar gb_3 (rV 16 (rU UInt64)) a_16, cvar gb_5 (rV 16 (rU UInt64)) (Vector.replicate 16 (0 : UInt64))], []⟩) (fun q => ?_) ?_
 · obtain _ := q
   refine JC.at ⟨[(2, ov (PTR gb_3 0)), (4, ov (PTR gb_5 0))], [cvar gb_3 (rV 16 (rU UInt64)) a_16, cvar gb_5 (rV 16 (rU UInt64)) (Vector.replicate 16 (0 : UInt64))], []⟩ ?_
   refine JC.seq ?_
   refine JC.region ?_
   refine jc (op_loadA (j := 0) lb tA26 (.tmp rfl) rfl (Comp.self (rV 16 (rU UInt64)) a_16) rfl) ?_
   refine jc (op_storeA (j := 1) tA26 (.tmp rfl) (.tmp rfl) rfl (UpdR.self (by rfl)) rfl) ?_
   refine JL.nil ?_
   refine JQ.then ?_
   refine JC.ret ?_
   replace hq1 := Option.some.inj hq1
   subst hq1
   exact JQ.done (js := []) (ss := [.val (A (rV 16 (rU UInt64)) a_16)]) () (.inl rfl) (.nil rfl) rfl (.cons (.cellA (j := 1) tA26 rfl rfl) .nil) rfl rfl rfl
 · refine JC.seq ?_
   refine JC.region ?_
   refine jc (op_loadA (j := 1) lb tA26 (.tmp rfl) rfl (Comp.self (rV 16 (rU UInt64)) b_2) rfl) ?_
   refine jc (op_move lb .cI) ?_
   refine JL.nil ?_
   refine JQ.then ?_
   refine JC.block ?_
   refine JC.pre ?_ (JC.loop (γ := Unit) (stf := fun s q => ⟨[(2, ov (PTR gb_3 0)), (4, ov (PTR gb_5 0)), (7, ov (A (rV 16 (rU UInt64)) b_2)), (8, ov (S (rI .i64) s.2))], [cvar gb_3 (rV 16 (rU UInt64)) s.1, cvar gb_5 (rV 16 (rU UInt64)) (Vector.replicate 16 (0 : UInt64))], []⟩) (q := ()) hx1 ?_)
   · exact (Imp.norm (js := [0, 1]) rfl (.cons rfl (.cons rfl (.cons rfl (.cons rfl .nil)))))
   · intro s q x hx hr
     obtain ⟨a_6, x_7⟩ := s
     obtain _ := q
     change event_Join.b1 k b_2 a_6 x_7 = some x at hx
     unfold event_Join.b1 at hx
     refine JC.at ⟨[(2, ov (PTR gb_3 0)), (4, ov (PTR gb_5 0)), (7, ov (A (rV 16 (rU UInt64)) b_2)), (8, ov (S (rI .i64) x_7))], [cvar gb_3 (rV 16 (rU UInt64)) a_6, cvar gb_5 (rV 16 (rU UInt64)) (Vector.replicate 16 (0 : UInt64))], []⟩ ?_
     refine JC.seq ?_
     refine JC.region ?_
     replace hx := lt1_inv hx
     obtain ⟨v_8, hv_v_8, hx⟩ := hx
     refine jc (op_cmpI lb (.tmp rfl) .cI (congrArg some hv_v_8)) ?_
     refine JL.nil ?_
     refine JQ.then ?_
     refine JC.seq ?_
     replace hx := iteB_inv hx
     rcases hx with ⟨hc3, hx⟩ | ⟨hc3, hx⟩
     · refine JC.condT (.tmp rfl) hc3 ?_
       refine JC.skip ?_
       refine JQ.then ?_
       refine JC.seq ?_
       refine JC.block ?_
       refine JC.seq ?_
       refine JC.region ?_
       refine jc (op_move lb (.tmp rfl)) ?_
       replace hx := bnd_inv hx
       obtain ⟨v_9, hv_v_9, hx⟩ := hx
       refine jc (op_indexSg lb tu26 tS22 rfl (.tmp rfl) (.tmp rfl) hv_v_9) ?_
       refine jc (op_assign lb (.tmp rfl)) ?_
       refine jc (op_assign lb (.tmp rfl)) ?_
       refine JL.nil ?_
       refine JQ.then ?_
       refine JC.region ?_
       refine jc (op_move lb (.tmp rfl)) ?_
       refine jc (op_move lb (.tmp rfl)) ?_
       replace hx := bnd_inv hx
       obtain ⟨i_10, hv_i_10, hx⟩ := hx
       refine jc (op_indexAddrIF lb tr26 (.tmp rfl) (.tmp rfl) hv_i_10) ?_
       replace hx := lt1_inv hx
       obtain ⟨v_11, hv_v_11, hx⟩ := hx
       refine jc (op_loadS (j := 0) lb tS22 (.tmp rfl) rfl (Comp.at (Comp.self (rV 16 (rU UInt64)) a_6) i_10.2 rfl) rfl hv_v_11) ?_
       refine jc (op_move lb (.tmp rfl)) ?_
       replace hx := lt1_inv hx
       obtain ⟨v_12, hv_v_12, hx⟩ := hx
       refine jc (op_maxU lb (.tmp rfl) (.tmp rfl) hv_v_12) ?_
       replace hx := bnd_inv hx
       obtain ⟨i_13, hv_i_13, hx⟩ := hx
       refine jc (op_indexAddrIF lb tr26 (.tmp rfl) (.tmp rfl) hv_i_13) ?_
       refine JL.sub ⟨[(2, ov (PTR gb_3 0)), (4, ov (PTR gb_5 0)), (7, ov (A (rV 16 (rU UInt64)) b_2)), (8, ov (S (rI .i64) x_7)), (17, ov (S (rU UInt64) v_12)), (18, ov (PTR gb_3 (0 + i_13.1 * 1)))], [cvar gb_3 (rV 16 (rU UInt64)) a_6, cvar gb_5 (rV 16 (rU UInt64)) (Vector.replicate 16 (0 : UInt64))], []⟩ (.cons rfl (.cons rfl (.cons rfl (.cons rfl (.cons rfl (.cons rfl .nil)))))) rfl rfl ?_
       replace hx := lt1_inv hx
       obtain ⟨a_14, hv_a_14, hx⟩ := hx
       refine jc (op_storeS (j := 0) tS22 (.tmp rfl) (.tmp rfl) rfl rfl (Upd.at (Comp.self (rV 16 (rU UInt64)) a_6) i_13.2 rfl (Upd.self (rV 16 (rU UInt64)) a_6 _)).R hv_a_14) ?_
       refine JL.nil ?_
       refine JQ.outNB ?_
       refine JQ.then ?_
       refine JC.region ?_
       replace hx := lt1_inv hx
       obtain ⟨v_15, hv_v_15, hx⟩ := hx
       refine jc (op_arI lb (.tmp rfl) .cI (congrArg some hv_v_15)) ?_
       refine jc (op_move lb (.tmp rfl)) ?_
       refine JL.nil ?_
       replace hx := Option.some.inj hx
       first | subst hx | clear hx
       exact JQ.next () rfl (Imp.norm (js := [0, 0]) rfl (.cons rfl (.cons rfl (.cons rfl (.cons rfl .nil)))))
     · refine JC.condF (.tmp rfl) hc3 ?_
       refine JC.exit ?_
       refine JQ.outX ?_
       replace hx := Option.some.inj hx
       first | subst hx | clear hx
       have ht := hr _ rfl
       have hq2 := congrArg some ht
       clear hr ht
       refine JQ.outX ?_
       refine JQ.here ?_
       replace hq2 := Option.some.inj hq2
       first | subst hq2 | clear hq2
       exact JQ.join () (Imp.norm (js := [0, 0]) rfl (.cons rfl (.cons rfl .nil)))

theorem sim_event_Ready (k : Nat) (e_1 : api_Event) (had_2 : (Vector UInt64 16)) (r : Bool) (hm : event_Ready k e_1 had_2 = some r) : Sim Try.prog 13 [A r_api_Event e_1, A (rV 16 (rU UInt64)) had_2] [] (γ := Unit) (fun q => []) (fun q => .one (.val (S rB r))) := by
 unfold event_Ready at hm
 refine Sim.of Try.func13 rfl rfl (Nat.le_of_ble_eq_true rfl) (fun e0 w0 => ?_)
 refine JC.at ⟨[(0, ov (A r_api_Event e_1)), (1, ov (A (rV 16 (rU UInt64)) had_2))], [], []⟩ ?_
 refine JC.seq ?_
 refine JC.region ?_
 refine jx (op_boxA lb (.tmp rfl)) (fun q => ?_)
 obtain ⟨gb_3, hqq⟩ : ∃ z, z = q := ⟨_, rfl⟩
 subst hqq
 refine jx (op_boxA lb (.tmp rfl)) (fun q => ?_)
 obtain ⟨gb_4, hqq⟩ : ∃ z, z = q := ⟨_, rfl⟩
 subst hqq
 refine jc (op_assign lb .cB) ?_
 refine JL.nil ?_
 refine JQ.then ?_
 replace hm := bnd_inv hm
 obtain ⟨x_13, hx1, hq1⟩ := hm
 refine JC.seqJ (γ := Unit) (stj := fun q => ⟨[(4, ov (S rB x_13))], [], []⟩) (fun q => ?_) ?_
 · obtain _ := q
   refine JC.at ⟨[(4, ov (S rB x_13))], [], []⟩ ?_
   refine JC.ret ?_
   replace hq1 := Option.some.inj hq1
   subst hq1
   exact JQ.done (js := []) (ss := [.val (S rB x_13)]) () (.inl rfl) (.nil rfl) rfl (.cons (.tmp rfl) .nil) rfl rfl rfl
 · replace hx1 := bnd_inv hx1
   obtain ⟨v_5, hv_v_5, hx1⟩ := hx1
   replace hx1 := iteB_inv hx1
   rcases hx1 with ⟨hc4, hx1⟩ | ⟨hc4, hx1⟩
   · replace hx1 := bnd_inv hx1
     obtain ⟨v_6, hv_v_6, hx1⟩ := hx1
     replace hx1 := lt1_inv hx1
     obtain ⟨v_7, hv_v_7, hx1⟩ := hx1
     replace hx1 := iteB_inv hx1
     rcases hx1 with ⟨hc6, hx1⟩ | ⟨hc6, hx1⟩
     · replace hx1 := lt1_inv hx1
       obtain ⟨v_8, hv_v_8, hx1⟩ := hx1
       replace hx1 := bnd_inv hx1
       obtain ⟨i_9, hv_i_9, hx1⟩ := hx1
       replace hx1 := lt1_inv hx1
       obtain ⟨v_10, hv_v_10, hx1⟩ := hx1
       replace hx1 := lt1_inv hx1
       obtain ⟨v_11, hv_v_11, hx1⟩ := hx1
       replace hx1 := lt1_inv hx1
       obtain ⟨v_12, hv_v_12, hx1⟩ := hx1
       refine JC.anyE (kl := []) (kk := 0) (base := [(2, ov (PTR gb_3 0)), (3, ov (PTR gb_4 0))])
           (fs := fun γ => [⟨some 5, ov (A r_api_Event e_1)⟩, ⟨some 6, ov (S rB v_5)⟩, ⟨some 7, ov (S rB v_5)⟩, ⟨some 8, bif v_5 then ov (A (rV 16 (rU UInt64)) had_2) else .one .und⟩, ⟨some 9, ov (PTR gb_3 (0 + 4))⟩, ⟨some 10, ov (A (rV 16 (rU UInt64)) e_1.Past)⟩, ⟨some 11, ov (A (rV 16 (rU UInt64)) v_6)⟩, ⟨some 12, ov (A (rV 16 (rU UInt64)) had_2)⟩, ⟨some 13, ov (S rB v_7)⟩, ⟨some 14, ov (S rB v_7)⟩, ⟨some 15, ov (S rB v_7)⟩, ⟨some 16, ov (PTR gb_3 (0 + 0))⟩, ⟨some 17, ov (PTR gb_3 ((0 + 0) + 0))⟩, ⟨some 18, ov (S (rI .i64) e_1.ID.Region)⟩, ⟨some 19, ov (S (rI .i64) v_8)⟩, ⟨some 20, ov (PTR gb_4 (0 + i_9.1 * 1))⟩, ⟨some 21, ov (S (rU UInt64) v_10)⟩, ⟨some 22, ov (PTR gb_3 (0 + 0))⟩, ⟨some 23, ov (PTR gb_3 ((0 + 0) + 1))⟩, ⟨some 24, ov (S (rU UInt64) e_1.ID.Count)⟩, ⟨some 25, ov (S (rU UInt64) v_11)⟩, ⟨some 26, ov (S rB v_12)⟩, ⟨some 27, ov (S rB v_12)⟩, ⟨some 4, ov (S rB v_12)⟩])
           (rs := fun γ => [⟨cvar gb_3 r_api_Event e_1, none, none, [0, 5, 13, 19]⟩, ⟨cvar gb_4 (rV 16 (rU UInt64)) had_2, none, none, [3, 7, 16]⟩])
           (ds := [5, 6, 7, 8, 9, 10, 11, 12, 13, 14, 15, 16, 17, 18, 19, 20, 21, 22, 23, 24, 25, 26, 27, 4]) (bs := [2, 3]) (afts := [[], [], [], [], [], [], [], [], [], [], [], [], [], [], [], [], [], [], [], [], [], [], [], []]) (js := [0, 0]) mixed (.cons rfl (.cons rfl .nil)) (fun _ => rfl)
           (by
      refine DSteps.cons (j := 1) rfl (fun _ => rfl) (.run (fun γ ρ B hb hd => ⟨.none, OpStep.at ⟨ρ, (cvar gb_3 r_api_Event e_1) :: B, _⟩ (setO ⟨ρ, (cvar gb_3 r_api_Event e_1) :: B, _⟩ _ _) (op_loadA (j := 0) lb tA38 (.tmp (hb 2 _ rfl)) rfl (Comp.self r_api_Event e_1) rfl)⟩)) ?_
      refine dS 2 (fun γ ρ B hb hd => (op_call (js := []) ld cl17 (sim_event_May k e_1 v_5 hv_v_5) .func (.cons (.tmp (hl hd 0 5 rfl)) .nil) rfl).post (fun _ => Imp.refl)) ?_
      refine dS 3 (fun γ ρ B hb hd => op_move lb (.tmp (hl hd 1 6 rfl))) ?_
      refine DSteps.cons (j := 4) rfl (fun _ => rfl) (.cnd (q := v_5) (sv := fun γ => ov (A (rV 16 (rU UInt64)) had_2)) (fun _ => rfl) (fun _ => rfl) (fun d h => by cases h; exact ltB rfl) (fun _ => rfl) (fun γ ρ B hb hd => ⟨(Guard.isT (ltB rfl) rfl (hl hd 2 7 rfl)), fun hq_2 => OpStep.at ⟨ρ, (cvar gb_4 (rV 16 (rU UInt64)) had_2) :: B, _⟩ (setO ⟨ρ, (cvar gb_4 (rV 16 (rU UInt64)) had_2) :: B, _⟩ _ _) (op_loadA (j := 0) lb tA26 (.tmp (hb 3 _ rfl)) rfl (Comp.self (rV 16 (rU UInt64)) had_2) rfl)⟩)) ?_
      refine DSteps.cons (j := 5) rfl (fun _ => rfl) (.run (fun γ ρ B hb hd => ⟨.yes rfl (ltB rfl) (hl hd 2 7 rfl) hc4, OpStep.at ⟨ρ, B, _⟩ (setO ⟨ρ, B, _⟩ _ _) (op_fieldAddr (off := 4) lb tf38_3 (.tmp (hb 2 _ rfl)))⟩)) ?_
      refine DSteps.cons (j := 6) rfl (fun _ => rfl) (.run (fun γ ρ B hb hd => ⟨.yes rfl (ltB rfl) (hl hd 2 7 rfl) hc4, OpStep.at ⟨ρ, (cvar gb_3 r_api_Event e_1) :: B, _⟩ (setO ⟨ρ, (cvar gb_3 r_api_Event e_1) :: B, _⟩ _ _) (op_loadA (j := 0) lb tA26 (.tmp (hl hd 4 9 rfl)) rfl (Comp.trans (Comp.self r_api_Event e_1) (comp_api_Event_Past e_1) (Nat.le_of_ble_eq_true rfl)) rfl)⟩)) ?_
      refine DSteps.cons (j := 7) rfl (fun _ => rfl) (.run (fun γ ρ B hb hd => ⟨.yes rfl (ltB rfl) (hl hd 2 7 rfl) hc4, OpStep.at ⟨ρ, B, _⟩ (setO ⟨ρ, B, _⟩ _ _) ((op_call (js := []) ld cl8 (sim_event_Join k had_2 e_1.Past v_6 hv_v_6) .func (.cons (HasO.cnd (.tmp (hl hd 3 8 rfl)) hc4) (.cons (.tmp (hl hd 5 10 rfl)) .nil)) rfl).post (fun _ => Imp.refl))⟩)) ?_
      refine DSteps.cons (j := 8) rfl (fun _ => rfl) (.run (fun γ ρ B hb hd => ⟨.yes rfl (ltB rfl) (hl hd 2 7 rfl) hc4, OpStep.at ⟨ρ, (cvar gb_4 (rV 16 (rU UInt64)) had_2) :: B, _⟩ (setO ⟨ρ, (cvar gb_4 (rV 16 (rU UInt64)) had_2) :: B, _⟩ _ _) (op_loadA (j := 0) lb tA26 (.tmp (hb 3 _ rfl)) rfl (Comp.self (rV 16 (rU UInt64)) had_2) rfl)⟩)) ?_
      refine DSteps.cons (j := 9) rfl (fun _ => rfl) (.run (fun γ ρ B hb hd => ⟨.yes rfl (ltB rfl) (hl hd 2 7 rfl) hc4, OpStep.at ⟨ρ, B, _⟩ (setO ⟨ρ, B, _⟩ _ _) (op_eqA lb qa26 (by decide) ng26 (.tmp (hl hd 6 11 rfl)) (.tmp (hl hd 7 12 rfl)) hv_v_7)⟩)) ?_
      refine dS 10 (fun γ ρ B hb hd => op_pickT lb (.tmp (hl hd 2 7 rfl)) hc4 (.tmp (hl hd 8 13 rfl))) ?_
      refine dS 11 (fun γ ρ B hb hd => op_move lb (.tmp (hl hd 9 14 rfl))) ?_
      refine DSteps.cons (j := 12) rfl (fun _ => rfl) (.run (fun γ ρ B hb hd => ⟨.yes rfl (ltB rfl) (hl hd 10 15 rfl) hc6, OpStep.at ⟨ρ, B, _⟩ (setO ⟨ρ, B, _⟩ _ _) (op_fieldAddr (off := 0) lb tf38_0 (.tmp (hb 2 _ rfl)))⟩)) ?_
      refine DSteps.cons (j := 13) rfl (fun _ => rfl) (.run (fun γ ρ B hb hd => ⟨.yes rfl (ltB rfl) (hl hd 10 15 rfl) hc6, OpStep.at ⟨ρ, B, _⟩ (setO ⟨ρ, B, _⟩ _ _) (op_fieldAddr (off := 0) lb tf24_0 (.tmp (hl hd 11 16 rfl)))⟩)) ?_
      refine DSteps.cons (j := 14) rfl (fun _ => rfl) (.run (fun γ ρ B hb hd => ⟨.yes rfl (ltB rfl) (hl hd 10 15 rfl) hc6, OpStep.at ⟨ρ, (cvar gb_3 r_api_Event e_1) :: B, _⟩ (setO ⟨ρ, (cvar gb_3 r_api_Event e_1) :: B, _⟩ _ _) (op_loadS (j := 0) lb tS3 (.tmp (hl hd 12 17 rfl)) rfl (Comp.trans (Comp.trans (Comp.self r_api_Event e_1) (comp_api_Event_ID e_1) (Nat.le_of_ble_eq_true rfl)) (comp_api_Dot_Region e_1.ID) (Nat.le_of_ble_eq_true rfl)) rfl rfl)⟩)) ?_
      refine DSteps.cons (j := 15) rfl (fun _ => rfl) (.run (fun γ ρ B hb hd => ⟨.yes rfl (ltB rfl) (hl hd 10 15 rfl) hc6, OpStep.at ⟨ρ, B, _⟩ (setO ⟨ρ, B, _⟩ _ _) (op_arI lb (.tmp (hl hd 13 18 rfl)) .cI (congrArg some hv_v_8))⟩)) ?_
      refine DSteps.cons (j := 16) rfl (fun _ => rfl) (.run (fun γ ρ B hb hd => ⟨.yes rfl (ltB rfl) (hl hd 10 15 rfl) hc6, OpStep.at ⟨ρ, B, _⟩ (setO ⟨ρ, B, _⟩ _ _) (op_indexAddrIF lb tr26 (.tmp (hb 3 _ rfl)) (.tmp (hl hd 14 19 rfl)) hv_i_9)⟩)) ?_
      refine DSteps.cons (j := 17) rfl (fun _ => rfl) (.run (fun γ ρ B hb hd => ⟨.yes rfl (ltB rfl) (hl hd 10 15 rfl) hc6, OpStep.at ⟨ρ, (cvar gb_4 (rV 16 (rU UInt64)) had_2) :: B, _⟩ (setO ⟨ρ, (cvar gb_4 (rV 16 (rU UInt64)) had_2) :: B, _⟩ _ _) (op_loadS (j := 0) lb tS22 (.tmp (hl hd 15 20 rfl)) rfl (Comp.at (Comp.self (rV 16 (rU UInt64)) had_2) i_9.2 rfl) rfl hv_v_10)⟩)) ?_
      refine DSteps.cons (j := 18) rfl (fun _ => rfl) (.run (fun γ ρ B hb hd => ⟨.yes rfl (ltB rfl) (hl hd 10 15 rfl) hc6, OpStep.at ⟨ρ, B, _⟩ (setO ⟨ρ, B, _⟩ _ _) (op_fieldAddr (off := 0) lb tf38_0 (.tmp (hb 2 _ rfl)))⟩)) ?_
      refine DSteps.cons (j := 19) rfl (fun _ => rfl) (.run (fun γ ρ B hb hd => ⟨.yes rfl (ltB rfl) (hl hd 10 15 rfl) hc6, OpStep.at ⟨ρ, B, _⟩ (setO ⟨ρ, B, _⟩ _ _) (op_fieldAddr (off := 1) lb tf24_1 (.tmp (hl hd 17 22 rfl)))⟩)) ?_
      refine DSteps.cons (j := 20) rfl (fun _ => rfl) (.run (fun γ ρ B hb hd => ⟨.yes rfl (ltB rfl) (hl hd 10 15 rfl) hc6, OpStep.at ⟨ρ, (cvar gb_3 r_api_Event e_1) :: B, _⟩ (setO ⟨ρ, (cvar gb_3 r_api_Event e_1) :: B, _⟩ _ _) (op_loadS (j := 0) lb tS22 (.tmp (hl hd 18 23 rfl)) rfl (Comp.trans (Comp.trans (Comp.self r_api_Event e_1) (comp_api_Event_ID e_1) (Nat.le_of_ble_eq_true rfl)) (comp_api_Dot_Count e_1.ID) (Nat.le_of_ble_eq_true rfl)) rfl rfl)⟩)) ?_
      refine DSteps.cons (j := 21) rfl (fun _ => rfl) (.run (fun γ ρ B hb hd => ⟨.yes rfl (ltB rfl) (hl hd 10 15 rfl) hc6, OpStep.at ⟨ρ, B, _⟩ (setO ⟨ρ, B, _⟩ _ _) (op_arU lb (.tmp (hl hd 19 24 rfl)) (HasO.cU (x := (1 : UInt64)) rfl (by decide)) (congrArg some hv_v_11))⟩)) ?_
      refine DSteps.cons (j := 22) rfl (fun _ => rfl) (.run (fun γ ρ B hb hd => ⟨.yes rfl (ltB rfl) (hl hd 10 15 rfl) hc6, OpStep.at ⟨ρ, B, _⟩ (setO ⟨ρ, B, _⟩ _ _) (op_cmpU lb (.tmp (hl hd 16 21 rfl)) (.tmp (hl hd 20 25 rfl)) (congrArg some hv_v_12))⟩)) ?_
      refine dS 23 (fun γ ρ B hb hd => op_pickT lb (.tmp (hl hd 10 15 rfl)) hc6 (.tmp (hl hd 21 26 rfl))) ?_
      refine dS 24 (fun γ ρ B hb hd => op_assign lb (.tmp (hl hd 22 27 rfl))) ?_
      exact DSteps.nil)
           (by decide +kernel) (fun _ => rfl) rfl (fun _ => rfl) (fun _ => rfl) rfl (by decide) (by decide) (by decide +kernel) (fun _ d h => by cases h)
           (ρ' := fun γ => [(4, ov (S rB v_12))])
           (X' := fun γ => [cvar gb_3 r_api_Event e_1, cvar gb_4 (rV 16 (rU UInt64)) had_2])
           (fun γ ρ hb hd => (.cons (hdq hd 23 4 rfl) .nil)) (fun _ => rfl) (fun γ => ?_)
       refine JQ.at ⟨[(4, ov (S rB v_12))], [cvar gb_3 r_api_Event e_1, cvar gb_4 (rV 16 (rU UInt64)) had_2], []⟩ ?_
       replace hx1 := Option.some.inj hx1
       first | subst hx1 | clear hx1
       exact JQ.join () (Imp.norm (js := []) rfl (.cons rfl .nil))
     · refine JC.anyE (kl := []) (kk := 0) (base := [(2, ov (PTR gb_3 0)), (3, ov (PTR gb_4 0))])
           (fs := fun γ => [⟨some 5, ov (A r_api_Event e_1)⟩, ⟨some 6, ov (S rB v_5)⟩, ⟨some 7, ov (S rB v_5)⟩, ⟨some 8, bif v_5 then ov (A (rV 16 (rU UInt64)) had_2) else .one .und⟩, ⟨some 9, ov (PTR gb_3 (0 + 4))⟩, ⟨some 10, ov (A (rV 16 (rU UInt64)) e_1.Past)⟩, ⟨some 11, ov (A (rV 16 (rU UInt64)) v_6)⟩, ⟨some 12, ov (A (rV 16 (rU UInt64)) had_2)⟩, ⟨some 13, ov (S rB v_7)⟩, ⟨some 14, ov (S rB v_7)⟩, ⟨some 15, ov (S rB v_7)⟩, ⟨some 16, .one .und⟩, ⟨some 17, .one .und⟩, ⟨some 18, .one .und⟩, ⟨some 19, .one .und⟩, ⟨some 20, .one .und⟩, ⟨some 21, .one .und⟩, ⟨some 22, .one .und⟩, ⟨some 23, .one .und⟩, ⟨some 24, .one .und⟩, ⟨some 25, .one .und⟩, ⟨some 26, .one .und⟩, ⟨some 27, ov (S rB false)⟩, ⟨some 4, ov (S rB false)⟩])
           (rs := fun γ => [⟨cvar gb_3 r_api_Event e_1, none, none, [0, 5]⟩, ⟨cvar gb_4 (rV 16 (rU UInt64)) had_2, none, none, [3, 7]⟩])
           (ds := [5, 6, 7, 8, 9, 10, 11, 12, 13, 14, 15, 16, 17, 18, 19, 20, 21, 22, 23, 24, 25, 26, 27, 4]) (bs := [2, 3]) (afts := [[], [], [], [], [], [], [], [], [], [], [], [], [], [], [], [], [], [], [], [], [], [], [], []]) (js := [0, 0]) mixed (.cons rfl (.cons rfl .nil)) (fun _ => rfl)
           (by
      refine DSteps.cons (j := 1) rfl (fun _ => rfl) (.run (fun γ ρ B hb hd => ⟨.none, OpStep.at ⟨ρ, (cvar gb_3 r_api_Event e_1) :: B, _⟩ (setO ⟨ρ, (cvar gb_3 r_api_Event e_1) :: B, _⟩ _ _) (op_loadA (j := 0) lb tA38 (.tmp (hb 2 _ rfl)) rfl (Comp.self r_api_Event e_1) rfl)⟩)) ?_
      refine dS 2 (fun γ ρ B hb hd => (op_call (js := []) ld cl17 (sim_event_May k e_1 v_5 hv_v_5) .func (.cons (.tmp (hl hd 0 5 rfl)) .nil) rfl).post (fun _ => Imp.refl)) ?_
      refine dS 3 (fun γ ρ B hb hd => op_move lb (.tmp (hl hd 1 6 rfl))) ?_
      refine DSteps.cons (j := 4) rfl (fun _ => rfl) (.cnd (q := v_5) (sv := fun γ => ov (A (rV 16 (rU UInt64)) had_2)) (fun _ => rfl) (fun _ => rfl) (fun d h => by cases h; exact ltB rfl) (fun _ => rfl) (fun γ ρ B hb hd => ⟨(Guard.isT (ltB rfl) rfl (hl hd 2 7 rfl)), fun hq_2 => OpStep.at ⟨ρ, (cvar gb_4 (rV 16 (rU UInt64)) had_2) :: B, _⟩ (setO ⟨ρ, (cvar gb_4 (rV 16 (rU UInt64)) had_2) :: B, _⟩ _ _) (op_loadA (j := 0) lb tA26 (.tmp (hb 3 _ rfl)) rfl (Comp.self (rV 16 (rU UInt64)) had_2) rfl)⟩)) ?_
      refine DSteps.cons (j := 5) rfl (fun _ => rfl) (.run (fun γ ρ B hb hd => ⟨.yes rfl (ltB rfl) (hl hd 2 7 rfl) hc4, OpStep.at ⟨ρ, B, _⟩ (setO ⟨ρ, B, _⟩ _ _) (op_fieldAddr (off := 4) lb tf38_3 (.tmp (hb 2 _ rfl)))⟩)) ?_
      refine DSteps.cons (j := 6) rfl (fun _ => rfl) (.run (fun γ ρ B hb hd => ⟨.yes rfl (ltB rfl) (hl hd 2 7 rfl) hc4, OpStep.at ⟨ρ, (cvar gb_3 r_api_Event e_1) :: B, _⟩ (setO ⟨ρ, (cvar gb_3 r_api_Event e_1) :: B, _⟩ _ _) (op_loadA (j := 0) lb tA26 (.tmp (hl hd 4 9 rfl)) rfl (Comp.trans (Comp.self r_api_Event e_1) (comp_api_Event_Past e_1) (Nat.le_of_ble_eq_true rfl)) rfl)⟩)) ?_
      refine DSteps.cons (j := 7) rfl (fun _ => rfl) (.run (fun γ ρ B hb hd => ⟨.yes rfl (ltB rfl) (hl hd 2 7 rfl) hc4, OpStep.at ⟨ρ, B, _⟩ (setO ⟨ρ, B, _⟩ _ _) ((op_call (js := []) ld cl8 (sim_event_Join k had_2 e_1.Past v_6 hv_v_6) .func (.cons (HasO.cnd (.tmp (hl hd 3 8 rfl)) hc4) (.cons (.tmp (hl hd 5 10 rfl)) .nil)) rfl).post (fun _ => Imp.refl))⟩)) ?_
      refine DSteps.cons (j := 8) rfl (fun _ => rfl) (.run (fun γ ρ B hb hd => ⟨.yes rfl (ltB rfl) (hl hd 2 7 rfl) hc4, OpStep.at ⟨ρ, (cvar gb_4 (rV 16 (rU UInt64)) had_2) :: B, _⟩ (setO ⟨ρ, (cvar gb_4 (rV 16 (rU UInt64)) had_2) :: B, _⟩ _ _) (op_loadA (j := 0) lb tA26 (.tmp (hb 3 _ rfl)) rfl (Comp.self (rV 16 (rU UInt64)) had_2) rfl)⟩)) ?_
      refine DSteps.cons (j := 9) rfl (fun _ => rfl) (.run (fun γ ρ B hb hd => ⟨.yes rfl (ltB rfl) (hl hd 2 7 rfl) hc4, OpStep.at ⟨ρ, B, _⟩ (setO ⟨ρ, B, _⟩ _ _) (op_eqA lb qa26 (by decide) ng26 (.tmp (hl hd 6 11 rfl)) (.tmp (hl hd 7 12 rfl)) hv_v_7)⟩)) ?_
      refine dS 10 (fun γ ρ B hb hd => op_pickT lb (.tmp (hl hd 2 7 rfl)) hc4 (.tmp (hl hd 8 13 rfl))) ?_
      refine dS 11 (fun γ ρ B hb hd => op_move lb (.tmp (hl hd 9 14 rfl))) ?_
      refine DSteps.cons (j := 12) rfl (fun _ => rfl) (.skip (fun γ ρ B hb hd => ⟨.no rfl (ltB rfl) (hl hd 10 15 rfl) hc6, rfl, rfl, rfl, fun d h => by cases h; exact ltB rfl⟩)) ?_
      refine DSteps.cons (j := 13) rfl (fun _ => rfl) (.skip (fun γ ρ B hb hd => ⟨.no rfl (ltB rfl) (hl hd 10 15 rfl) hc6, rfl, rfl, rfl, fun d h => by cases h; exact ltB rfl⟩)) ?_
      refine DSteps.cons (j := 14) rfl (fun _ => rfl) (.skip (fun γ ρ B hb hd => ⟨.no rfl (ltB rfl) (hl hd 10 15 rfl) hc6, rfl, rfl, rfl, fun d h => by cases h; exact ltB rfl⟩)) ?_
      refine DSteps.cons (j := 15) rfl (fun _ => rfl) (.skip (fun γ ρ B hb hd => ⟨.no rfl (ltB rfl) (hl hd 10 15 rfl) hc6, rfl, rfl, rfl, fun d h => by cases h; exact ltB rfl⟩)) ?_
      refine DSteps.cons (j := 16) rfl (fun _ => rfl) (.skip (fun γ ρ B hb hd => ⟨.no rfl (ltB rfl) (hl hd 10 15 rfl) hc6, rfl, rfl, rfl, fun d h => by cases h; exact ltB rfl⟩)) ?_
      refine DSteps.cons (j := 17) rfl (fun _ => rfl) (.skip (fun γ ρ B hb hd => ⟨.no rfl (ltB rfl) (hl hd 10 15 rfl) hc6, rfl, rfl, rfl, fun d h => by cases h; exact ltB rfl⟩)) ?_
      refine DSteps.cons (j := 18) rfl (fun _ => rfl) (.skip (fun γ ρ B hb hd => ⟨.no rfl (ltB rfl) (hl hd 10 15 rfl) hc6, rfl, rfl, rfl, fun d h => by cases h; exact ltB rfl⟩)) ?_
      refine DSteps.cons (j := 19) rfl (fun _ => rfl) (.skip (fun γ ρ B hb hd => ⟨.no rfl (ltB rfl) (hl hd 10 15 rfl) hc6, rfl, rfl, rfl, fun d h => by cases h; exact ltB rfl⟩)) ?_
      refine DSteps.cons (j := 20) rfl (fun _ => rfl) (.skip (fun γ ρ B hb hd => ⟨.no rfl (ltB rfl) (hl hd 10 15 rfl) hc6, rfl, rfl, rfl, fun d h => by cases h; exact ltB rfl⟩)) ?_
      refine DSteps.cons (j := 21) rfl (fun _ => rfl) (.skip (fun γ ρ B hb hd => ⟨.no rfl (ltB rfl) (hl hd 10 15 rfl) hc6, rfl, rfl, rfl, fun d h => by cases h; exact ltB rfl⟩)) ?_
      refine DSteps.cons (j := 22) rfl (fun _ => rfl) (.skip (fun γ ρ B hb hd => ⟨.no rfl (ltB rfl) (hl hd 10 15 rfl) hc6, rfl, rfl, rfl, fun d h => by cases h; exact ltB rfl⟩)) ?_
      refine dS 23 (fun γ ρ B hb hd => op_pickF lb (.tmp (hl hd 10 15 rfl)) hc6 .cB) ?_
      refine dS 24 (fun γ ρ B hb hd => op_assign lb (.tmp (hl hd 22 27 rfl))) ?_
      exact DSteps.nil)
           (by decide +kernel) (fun _ => rfl) rfl (fun _ => rfl) (fun _ => rfl) rfl (by decide) (by decide) (by decide +kernel) (fun _ d h => by cases h)
           (ρ' := fun γ => [(4, ov (S rB false))])
           (X' := fun γ => [cvar gb_3 r_api_Event e_1, cvar gb_4 (rV 16 (rU UInt64)) had_2])
           (fun γ ρ hb hd => (.cons (hdq hd 23 4 rfl) .nil)) (fun _ => rfl) (fun γ => ?_)
       refine JQ.at ⟨[(4, ov (S rB false))], [cvar gb_3 r_api_Event e_1, cvar gb_4 (rV 16 (rU UInt64)) had_2], []⟩ ?_
       replace hx1 := Option.some.inj hx1
       first | subst hx1 | clear hx1
       exact JQ.join () (Imp.norm (js := []) rfl (.cons rfl .nil))
   · refine JC.anyE (kl := []) (kk := 0) (base := [(2, ov (PTR gb_3 0)), (3, ov (PTR gb_4 0))])
         (fs := fun γ => [⟨some 5, ov (A r_api_Event e_1)⟩, ⟨some 6, ov (S rB v_5)⟩, ⟨some 7, ov (S rB v_5)⟩, ⟨some 8, bif v_5 then ov (A (rV 16 (rU UInt64)) had_2) else .one .und⟩, ⟨some 9, .one .und⟩, ⟨some 10, .one .und⟩, ⟨some 11, .one .und⟩, ⟨some 12, .one .und⟩, ⟨some 13, .one .und⟩, ⟨some 14, ov (S rB false)⟩, ⟨some 15, ov (S rB false)⟩, ⟨some 16, .one .und⟩, ⟨some 17, .one .und⟩, ⟨some 18, .one .und⟩, ⟨some 19, .one .und⟩, ⟨some 20, .one .und⟩, ⟨some 21, .one .und⟩, ⟨some 22, .one .und⟩, ⟨some 23, .one .und⟩, ⟨some 24, .one .und⟩, ⟨some 25, .one .und⟩, ⟨some 26, .one .und⟩, ⟨some 27, ov (S rB false)⟩, ⟨some 4, ov (S rB false)⟩])
         (rs := fun γ => [⟨cvar gb_3 r_api_Event e_1, none, none, [0]⟩, ⟨cvar gb_4 (rV 16 (rU UInt64)) had_2, none, none, [3]⟩])
         (ds := [5, 6, 7, 8, 9, 10, 11, 12, 13, 14, 15, 16, 17, 18, 19, 20, 21, 22, 23, 24, 25, 26, 27, 4]) (bs := [2, 3]) (afts := [[], [], [], [], [], [], [], [], [], [], [], [], [], [], [], [], [], [], [], [], [], [], [], []]) (js := [0, 0]) mixed (.cons rfl (.cons rfl .nil)) (fun _ => rfl)
         (by
      refine DSteps.cons (j := 1) rfl (fun _ => rfl) (.run (fun γ ρ B hb hd => ⟨.none, OpStep.at ⟨ρ, (cvar gb_3 r_api_Event e_1) :: B, _⟩ (setO ⟨ρ, (cvar gb_3 r_api_Event e_1) :: B, _⟩ _ _) (op_loadA (j := 0) lb tA38 (.tmp (hb 2 _ rfl)) rfl (Comp.self r_api_Event e_1) rfl)⟩)) ?_
      refine dS 2 (fun γ ρ B hb hd => (op_call (js := []) ld cl17 (sim_event_May k e_1 v_5 hv_v_5) .func (.cons (.tmp (hl hd 0 5 rfl)) .nil) rfl).post (fun _ => Imp.refl)) ?_
      refine dS 3 (fun γ ρ B hb hd => op_move lb (.tmp (hl hd 1 6 rfl))) ?_
      refine DSteps.cons (j := 4) rfl (fun _ => rfl) (.cnd (q := v_5) (sv := fun γ => ov (A (rV 16 (rU UInt64)) had_2)) (fun _ => rfl) (fun _ => rfl) (fun d h => by cases h; exact ltB rfl) (fun _ => rfl) (fun γ ρ B hb hd => ⟨(Guard.isT (ltB rfl) rfl (hl hd 2 7 rfl)), fun hq_2 => OpStep.at ⟨ρ, (cvar gb_4 (rV 16 (rU UInt64)) had_2) :: B, _⟩ (setO ⟨ρ, (cvar gb_4 (rV 16 (rU UInt64)) had_2) :: B, _⟩ _ _) (op_loadA (j := 0) lb tA26 (.tmp (hb 3 _ rfl)) rfl (Comp.self (rV 16 (rU UInt64)) had_2) rfl)⟩)) ?_
      refine DSteps.cons (j := 5) rfl (fun _ => rfl) (.skip (fun γ ρ B hb hd => ⟨.no rfl (ltB rfl) (hl hd 2 7 rfl) hc4, rfl, rfl, rfl, fun d h => by cases h; exact ltB rfl⟩)) ?_
      refine DSteps.cons (j := 6) rfl (fun _ => rfl) (.skip (fun γ ρ B hb hd => ⟨.no rfl (ltB rfl) (hl hd 2 7 rfl) hc4, rfl, rfl, rfl, fun d h => by cases h; exact ltB rfl⟩)) ?_
      refine DSteps.cons (j := 7) rfl (fun _ => rfl) (.skip (fun γ ρ B hb hd => ⟨.no rfl (ltB rfl) (hl hd 2 7 rfl) hc4, rfl, rfl, rfl, fun d h => by cases h; exact ltB rfl⟩)) ?_
      refine DSteps.cons (j := 8) rfl (fun _ => rfl) (.skip (fun γ ρ B hb hd => ⟨.no rfl (ltB rfl) (hl hd 2 7 rfl) hc4, rfl, rfl, rfl, fun d h => by cases h; exact ltB rfl⟩)) ?_
      refine DSteps.cons (j := 9) rfl (fun _ => rfl) (.skip (fun γ ρ B hb hd => ⟨.no rfl (ltB rfl) (hl hd 2 7 rfl) hc4, rfl, rfl, rfl, fun d h => by cases h; exact ltB rfl⟩)) ?_
      refine dS 10 (fun γ ρ B hb hd => op_pickF lb (.tmp (hl hd 2 7 rfl)) hc4 .cB) ?_
      refine dS 11 (fun γ ρ B hb hd => op_move lb (.tmp (hl hd 9 14 rfl))) ?_
      refine DSteps.cons (j := 12) rfl (fun _ => rfl) (.skip (fun γ ρ B hb hd => ⟨.no rfl (ltB rfl) (hl hd 10 15 rfl) rfl, rfl, rfl, rfl, fun d h => by cases h; exact ltB rfl⟩)) ?_
      refine DSteps.cons (j := 13) rfl (fun _ => rfl) (.skip (fun γ ρ B hb hd => ⟨.no rfl (ltB rfl) (hl hd 10 15 rfl) rfl, rfl, rfl, rfl, fun d h => by cases h; exact ltB rfl⟩)) ?_
      refine DSteps.cons (j := 14) rfl (fun _ => rfl) (.skip (fun γ ρ B hb hd => ⟨.no rfl (ltB rfl) (hl hd 10 15 rfl) rfl, rfl, rfl, rfl, fun d h => by cases h; exact ltB rfl⟩)) ?_
      refine DSteps.cons (j := 15) rfl (fun _ => rfl) (.skip (fun γ ρ B hb hd => ⟨.no rfl (ltB rfl) (hl hd 10 15 rfl) rfl, rfl, rfl, rfl, fun d h => by cases h; exact ltB rfl⟩)) ?_
      refine DSteps.cons (j := 16) rfl (fun _ => rfl) (.skip (fun γ ρ B hb hd => ⟨.no rfl (ltB rfl) (hl hd 10 15 rfl) rfl, rfl, rfl, rfl, fun d h => by cases h; exact ltB rfl⟩)) ?_
      refine DSteps.cons (j := 17) rfl (fun _ => rfl) (.skip (fun γ ρ B hb hd => ⟨.no rfl (ltB rfl) (hl hd 10 15 rfl) rfl, rfl, rfl, rfl, fun d h => by cases h; exact ltB rfl⟩)) ?_
      refine DSteps.cons (j := 18) rfl (fun _ => rfl) (.skip (fun γ ρ B hb hd => ⟨.no rfl (ltB rfl) (hl hd 10 15 rfl) rfl, rfl, rfl, rfl, fun d h => by cases h; exact ltB rfl⟩)) ?_
      refine DSteps.cons (j := 19) rfl (fun _ => rfl) (.skip (fun γ ρ B hb hd => ⟨.no rfl (ltB rfl) (hl hd 10 15 rfl) rfl, rfl, rfl, rfl, fun d h => by cases h; exact ltB rfl⟩)) ?_
      refine DSteps.cons (j := 20) rfl (fun _ => rfl) (.skip (fun γ ρ B hb hd => ⟨.no rfl (ltB rfl) (hl hd 10 15 rfl) rfl, rfl, rfl, rfl, fun d h => by cases h; exact ltB rfl⟩)) ?_
      refine DSteps.cons (j := 21) rfl (fun _ => rfl) (.skip (fun γ ρ B hb hd => ⟨.no rfl (ltB rfl) (hl hd 10 15 rfl) rfl, rfl, rfl, rfl, fun d h => by cases h; exact ltB rfl⟩)) ?_
      refine DSteps.cons (j := 22) rfl (fun _ => rfl) (.skip (fun γ ρ B hb hd => ⟨.no rfl (ltB rfl) (hl hd 10 15 rfl) rfl, rfl, rfl, rfl, fun d h => by cases h; exact ltB rfl⟩)) ?_
      refine dS 23 (fun γ ρ B hb hd => op_pickF lb (.tmp (hl hd 10 15 rfl)) rfl .cB) ?_
      refine dS 24 (fun γ ρ B hb hd => op_assign lb (.tmp (hl hd 22 27 rfl))) ?_
      exact DSteps.nil)
         (by decide +kernel) (fun _ => rfl) rfl (fun _ => rfl) (fun _ => rfl) rfl (by decide) (by decide) (by decide +kernel) (fun _ d h => by cases h)
         (ρ' := fun γ => [(4, ov (S rB false))])
         (X' := fun γ => [cvar gb_3 r_api_Event e_1, cvar gb_4 (rV 16 (rU UInt64)) had_2])
         (fun γ ρ hb hd => (.cons (hdq hd 23 4 rfl) .nil)) (fun _ => rfl) (fun γ => ?_)
     refine JQ.at ⟨[(4, ov (S rB false))], [cvar gb_3 r_api_Event e_1, cvar gb_4 (rV 16 (rU UInt64)) had_2], []⟩ ?_
     replace hx1 := Option.some.inj hx1
     first | subst hx1 | clear hx1
     exact JQ.join () (Imp.norm (js := []) rfl (.cons rfl .nil))

theorem sim_event_Under (k : Nat) (v_1 : (Vector UInt64 16)) (d_2 : api_Dot) (r : Bool) (hm : event_Under k v_1 d_2 = some r) : Sim Try.prog 9 [A (rV 16 (rU UInt64)) v_1, A r_api_Dot d_2] [] (γ := Unit) (fun q => []) (fun q => .one (.val (S rB r))) := by
 unfold event_Under at hm
 refine Sim.of Try.func9 rfl rfl (Nat.le_of_ble_eq_true rfl) (fun e0 w0 => ?_)
 refine JC.at ⟨[(0, ov (A (rV 16 (rU UInt64)) v_1)), (1, ov (A r_api_Dot d_2))], [], []⟩ ?_
 refine JC.seq ?_
 refine JC.region ?_
 refine jx (op_boxA lb (.tmp rfl)) (fun q => ?_)
 obtain ⟨gb_3, hqq⟩ : ∃ z, z = q := ⟨_, rfl⟩
 subst hqq
 refine jx (op_boxA lb (.tmp rfl)) (fun q => ?_)
 obtain ⟨gb_4, hqq⟩ : ∃ z, z = q := ⟨_, rfl⟩
 subst hqq
 refine jc (op_assign lb .cB) ?_
 refine JL.nil ?_
 refine JQ.then ?_
 replace hm := bnd_inv hm
 obtain ⟨x_10, hx1, hq1⟩ := hm
 refine JC.seqJ (γ := Unit) (stj := fun q => ⟨[(4, ov (S rB x_10))], [], []⟩) (fun q => ?_) ?_
 · obtain _ := q
   refine JC.at ⟨[(4, ov (S rB x_10))], [], []⟩ ?_
   refine JC.ret ?_
   replace hq1 := Option.some.inj hq1
   subst hq1
   exact JQ.done (js := []) (ss := [.val (S rB x_10)]) () (.inl rfl) (.nil rfl) rfl (.cons (.tmp rfl) .nil) rfl rfl rfl
 · replace hx1 := bnd_inv hx1
   obtain ⟨v_5, hv_v_5, hx1⟩ := hx1
   replace hx1 := iteB_inv hx1
   rcases hx1 with ⟨hc3, hx1⟩ | ⟨hc3, hx1⟩
   · replace hx1 := lt1_inv hx1
     obtain ⟨v_6, hv_v_6, hx1⟩ := hx1
     replace hx1 := bnd_inv hx1
     obtain ⟨i_7, hv_i_7, hx1⟩ := hx1
     replace hx1 := lt1_inv hx1
     obtain ⟨v_8, hv_v_8, hx1⟩ := hx1
     replace hx1 := lt1_inv hx1
     obtain ⟨v_9, hv_v_9, hx1⟩ := hx1
     refine JC.anyE (kl := []) (kk := 0) (base := [(2, ov (PTR gb_3 0)), (3, ov (PTR gb_4 0))])
         (fs := fun γ => [⟨some 5, ov (A r_api_Dot d_2)⟩, ⟨some 6, ov (S rB v_5)⟩, ⟨some 7, ov (S rB v_5)⟩, ⟨some 8, ov (PTR gb_4 (0 + 0))⟩, ⟨some 9, ov (S (rI .i64) d_2.Region)⟩, ⟨some 10, ov (S (rI .i64) v_6)⟩, ⟨some 11, ov (PTR gb_3 (0 + i_7.1 * 1))⟩, ⟨some 12, ov (S (rU UInt64) v_8)⟩, ⟨some 13, ov (PTR gb_4 (0 + 1))⟩, ⟨some 14, ov (S (rU UInt64) d_2.Count)⟩, ⟨some 15, ov (S rB v_9)⟩, ⟨some 16, ov (S rB v_9)⟩, ⟨some 4, ov (S rB v_9)⟩])
         (rs := fun γ => [⟨cvar gb_3 (rV 16 (rU UInt64)) v_1, none, none, [7]⟩, ⟨cvar gb_4 r_api_Dot d_2, none, none, [0, 4, 9]⟩])
         (ds := [5, 6, 7, 8, 9, 10, 11, 12, 13, 14, 15, 16, 4]) (bs := [2, 3]) (afts := [[], [], [], [], [], [], [], [], [], [], [], [], []]) (js := [0, 0]) mixed (.cons rfl (.cons rfl .nil)) (fun _ => rfl)
         (by
      refine DSteps.cons (j := 1) rfl (fun _ => rfl) (.run (fun γ ρ B hb hd => ⟨.none, OpStep.at ⟨ρ, (cvar gb_4 r_api_Dot d_2) :: B, _⟩ (setO ⟨ρ, (cvar gb_4 r_api_Dot d_2) :: B, _⟩ _ _) (op_loadA (j := 0) lb tA24 (.tmp (hb 3 _ rfl)) rfl (Comp.self r_api_Dot d_2) rfl)⟩)) ?_
      refine dS 2 (fun γ ρ B hb hd => (op_call (js := []) ld cl27 (sim_event_MayDot k d_2 v_5 hv_v_5) .func (.cons (.tmp (hl hd 0 5 rfl)) .nil) rfl).post (fun _ => Imp.refl)) ?_
      refine dS 3 (fun γ ρ B hb hd => op_move lb (.tmp (hl hd 1 6 rfl))) ?_
      refine DSteps.cons (j := 4) rfl (fun _ => rfl) (.run (fun γ ρ B hb hd => ⟨.yes rfl (ltB rfl) (hl hd 2 7 rfl) hc3, OpStep.at ⟨ρ, B, _⟩ (setO ⟨ρ, B, _⟩ _ _) (op_fieldAddr (off := 0) lb tf24_0 (.tmp (hb 3 _ rfl)))⟩)) ?_
      refine DSteps.cons (j := 5) rfl (fun _ => rfl) (.run (fun γ ρ B hb hd => ⟨.yes rfl (ltB rfl) (hl hd 2 7 rfl) hc3, OpStep.at ⟨ρ, (cvar gb_4 r_api_Dot d_2) :: B, _⟩ (setO ⟨ρ, (cvar gb_4 r_api_Dot d_2) :: B, _⟩ _ _) (op_loadS (j := 0) lb tS3 (.tmp (hl hd 3 8 rfl)) rfl (Comp.trans (Comp.self r_api_Dot d_2) (comp_api_Dot_Region d_2) (Nat.le_of_ble_eq_true rfl)) rfl rfl)⟩)) ?_
      refine DSteps.cons (j := 6) rfl (fun _ => rfl) (.run (fun γ ρ B hb hd => ⟨.yes rfl (ltB rfl) (hl hd 2 7 rfl) hc3, OpStep.at ⟨ρ, B, _⟩ (setO ⟨ρ, B, _⟩ _ _) (op_arI lb (.tmp (hl hd 4 9 rfl)) .cI (congrArg some hv_v_6))⟩)) ?_
      refine DSteps.cons (j := 7) rfl (fun _ => rfl) (.run (fun γ ρ B hb hd => ⟨.yes rfl (ltB rfl) (hl hd 2 7 rfl) hc3, OpStep.at ⟨ρ, B, _⟩ (setO ⟨ρ, B, _⟩ _ _) (op_indexAddrIF lb tr26 (.tmp (hb 2 _ rfl)) (.tmp (hl hd 5 10 rfl)) hv_i_7)⟩)) ?_
      refine DSteps.cons (j := 8) rfl (fun _ => rfl) (.run (fun γ ρ B hb hd => ⟨.yes rfl (ltB rfl) (hl hd 2 7 rfl) hc3, OpStep.at ⟨ρ, (cvar gb_3 (rV 16 (rU UInt64)) v_1) :: B, _⟩ (setO ⟨ρ, (cvar gb_3 (rV 16 (rU UInt64)) v_1) :: B, _⟩ _ _) (op_loadS (j := 0) lb tS22 (.tmp (hl hd 6 11 rfl)) rfl (Comp.at (Comp.self (rV 16 (rU UInt64)) v_1) i_7.2 rfl) rfl hv_v_8)⟩)) ?_
      refine DSteps.cons (j := 9) rfl (fun _ => rfl) (.run (fun γ ρ B hb hd => ⟨.yes rfl (ltB rfl) (hl hd 2 7 rfl) hc3, OpStep.at ⟨ρ, B, _⟩ (setO ⟨ρ, B, _⟩ _ _) (op_fieldAddr (off := 1) lb tf24_1 (.tmp (hb 3 _ rfl)))⟩)) ?_
      refine DSteps.cons (j := 10) rfl (fun _ => rfl) (.run (fun γ ρ B hb hd => ⟨.yes rfl (ltB rfl) (hl hd 2 7 rfl) hc3, OpStep.at ⟨ρ, (cvar gb_4 r_api_Dot d_2) :: B, _⟩ (setO ⟨ρ, (cvar gb_4 r_api_Dot d_2) :: B, _⟩ _ _) (op_loadS (j := 0) lb tS22 (.tmp (hl hd 8 13 rfl)) rfl (Comp.trans (Comp.self r_api_Dot d_2) (comp_api_Dot_Count d_2) (Nat.le_of_ble_eq_true rfl)) rfl rfl)⟩)) ?_
      refine DSteps.cons (j := 11) rfl (fun _ => rfl) (.run (fun γ ρ B hb hd => ⟨.yes rfl (ltB rfl) (hl hd 2 7 rfl) hc3, OpStep.at ⟨ρ, B, _⟩ (setO ⟨ρ, B, _⟩ _ _) (op_cmpU lb (.tmp (hl hd 7 12 rfl)) (.tmp (hl hd 9 14 rfl)) (congrArg some hv_v_9))⟩)) ?_
      refine dS 12 (fun γ ρ B hb hd => op_pickT lb (.tmp (hl hd 2 7 rfl)) hc3 (.tmp (hl hd 10 15 rfl))) ?_
      refine dS 13 (fun γ ρ B hb hd => op_assign lb (.tmp (hl hd 11 16 rfl))) ?_
      exact DSteps.nil)
         (by decide +kernel) (fun _ => rfl) rfl (fun _ => rfl) (fun _ => rfl) rfl (by decide) (by decide) (by decide +kernel) (fun _ d h => by cases h)
         (ρ' := fun γ => [(4, ov (S rB v_9))])
         (X' := fun γ => [cvar gb_3 (rV 16 (rU UInt64)) v_1, cvar gb_4 r_api_Dot d_2])
         (fun γ ρ hb hd => (.cons (hdq hd 12 4 rfl) .nil)) (fun _ => rfl) (fun γ => ?_)
     refine JQ.at ⟨[(4, ov (S rB v_9))], [cvar gb_3 (rV 16 (rU UInt64)) v_1, cvar gb_4 r_api_Dot d_2], []⟩ ?_
     replace hx1 := Option.some.inj hx1
     first | subst hx1 | clear hx1
     exact JQ.join () (Imp.norm (js := []) rfl (.cons rfl .nil))
   · refine JC.anyE (kl := []) (kk := 0) (base := [(3, ov (PTR gb_4 0))])
         (fs := fun γ => [⟨some 5, ov (A r_api_Dot d_2)⟩, ⟨some 6, ov (S rB v_5)⟩, ⟨some 7, ov (S rB v_5)⟩, ⟨some 8, .one .und⟩, ⟨some 9, .one .und⟩, ⟨some 10, .one .und⟩, ⟨some 11, .one .und⟩, ⟨some 12, .one .und⟩, ⟨some 13, .one .und⟩, ⟨some 14, .one .und⟩, ⟨some 15, .one .und⟩, ⟨some 16, ov (S rB false)⟩, ⟨some 4, ov (S rB false)⟩])
         (rs := fun γ => [⟨cvar gb_3 (rV 16 (rU UInt64)) v_1, none, none, []⟩, ⟨cvar gb_4 r_api_Dot d_2, none, none, [0]⟩])
         (ds := [5, 6, 7, 8, 9, 10, 11, 12, 13, 14, 15, 16, 4]) (bs := [3]) (afts := [[], [], [], [], [], [], [], [], [], [], [], [], []]) (js := [0, 0]) mixed (.cons rfl .nil) (fun _ => rfl)
         (by
      refine DSteps.cons (j := 1) rfl (fun _ => rfl) (.run (fun γ ρ B hb hd => ⟨.none, OpStep.at ⟨ρ, (cvar gb_4 r_api_Dot d_2) :: B, _⟩ (setO ⟨ρ, (cvar gb_4 r_api_Dot d_2) :: B, _⟩ _ _) (op_loadA (j := 0) lb tA24 (.tmp (hb 3 _ rfl)) rfl (Comp.self r_api_Dot d_2) rfl)⟩)) ?_
      refine dS 2 (fun γ ρ B hb hd => (op_call (js := []) ld cl27 (sim_event_MayDot k d_2 v_5 hv_v_5) .func (.cons (.tmp (hl hd 0 5 rfl)) .nil) rfl).post (fun _ => Imp.refl)) ?_
      refine dS 3 (fun γ ρ B hb hd => op_move lb (.tmp (hl hd 1 6 rfl))) ?_
      refine DSteps.cons (j := 4) rfl (fun _ => rfl) (.skip (fun γ ρ B hb hd => ⟨.no rfl (ltB rfl) (hl hd 2 7 rfl) hc3, rfl, rfl, rfl, fun d h => by cases h; exact ltB rfl⟩)) ?_
      refine DSteps.cons (j := 5) rfl (fun _ => rfl) (.skip (fun γ ρ B hb hd => ⟨.no rfl (ltB rfl) (hl hd 2 7 rfl) hc3, rfl, rfl, rfl, fun d h => by cases h; exact ltB rfl⟩)) ?_
      refine DSteps.cons (j := 6) rfl (fun _ => rfl) (.skip (fun γ ρ B hb hd => ⟨.no rfl (ltB rfl) (hl hd 2 7 rfl) hc3, rfl, rfl, rfl, fun d h => by cases h; exact ltB rfl⟩)) ?_
      refine DSteps.cons (j := 7) rfl (fun _ => rfl) (.skip (fun γ ρ B hb hd => ⟨.no rfl (ltB rfl) (hl hd 2 7 rfl) hc3, rfl, rfl, rfl, fun d h => by cases h; exact ltB rfl⟩)) ?_
      refine DSteps.cons (j := 8) rfl (fun _ => rfl) (.skip (fun γ ρ B hb hd => ⟨.no rfl (ltB rfl) (hl hd 2 7 rfl) hc3, rfl, rfl, rfl, fun d h => by cases h; exact ltB rfl⟩)) ?_
      refine DSteps.cons (j := 9) rfl (fun _ => rfl) (.skip (fun γ ρ B hb hd => ⟨.no rfl (ltB rfl) (hl hd 2 7 rfl) hc3, rfl, rfl, rfl, fun d h => by cases h; exact ltB rfl⟩)) ?_
      refine DSteps.cons (j := 10) rfl (fun _ => rfl) (.skip (fun γ ρ B hb hd => ⟨.no rfl (ltB rfl) (hl hd 2 7 rfl) hc3, rfl, rfl, rfl, fun d h => by cases h; exact ltB rfl⟩)) ?_
      refine DSteps.cons (j := 11) rfl (fun _ => rfl) (.skip (fun γ ρ B hb hd => ⟨.no rfl (ltB rfl) (hl hd 2 7 rfl) hc3, rfl, rfl, rfl, fun d h => by cases h; exact ltB rfl⟩)) ?_
      refine dS 12 (fun γ ρ B hb hd => op_pickF lb (.tmp (hl hd 2 7 rfl)) hc3 .cB) ?_
      refine dS 13 (fun γ ρ B hb hd => op_assign lb (.tmp (hl hd 11 16 rfl))) ?_
      exact DSteps.nil)
         (by decide +kernel) (fun _ => rfl) rfl (fun _ => rfl) (fun _ => rfl) rfl (by decide) (by decide) (by decide +kernel) (fun _ d h => by cases h)
         (ρ' := fun γ => [(4, ov (S rB false))])
         (X' := fun γ => [cvar gb_3 (rV 16 (rU UInt64)) v_1, cvar gb_4 r_api_Dot d_2])
         (fun γ ρ hb hd => (.cons (hdq hd 12 4 rfl) .nil)) (fun _ => rfl) (fun γ => ?_)
     refine JQ.at ⟨[(4, ov (S rB false))], [cvar gb_3 (rV 16 (rU UInt64)) v_1, cvar gb_4 r_api_Dot d_2], []⟩ ?_
     replace hx1 := Option.some.inj hx1
     first | subst hx1 | clear hx1
     exact JQ.join () (Imp.norm (js := []) rfl (.cons rfl .nil))

end Go.Proofs.Ythoggbomakolkaa
