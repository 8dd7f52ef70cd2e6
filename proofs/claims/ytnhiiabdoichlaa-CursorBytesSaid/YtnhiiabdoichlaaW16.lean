/- Walks. -/
import Derived.Test.YtnhiiabdoichlaaT
import Derived.Test.YtnhiiabdoichlaaW15
namespace Go.Proofs.Ytnhiiabdoichlaa
open Go Fw
set_option linter.unusedVariables false
set_option maxRecDepth 100000
set_option maxHeartbeats 4000000

theorem sim_cursor_Covers (k : Nat) (a_1 : (Vector UInt64 16)) (b_2 : (Vector UInt64 16)) (r : Bool) (hm : cursor_Covers k a_1 b_2 = some r) : Sim Try.prog 17 [A (rV 16 (rU UInt64)) a_1, A (rV 16 (rU UInt64)) b_2] [] (γ := Unit) (fun q => []) (fun q => .one (.val (S rB r))) := by
 unfold cursor_Covers at hm
 refine Sim.of Try.func17 rfl rfl (Nat.le_of_ble_eq_true rfl) (fun e0 w0 => ?_)
 refine JC.at ⟨[(0, ov (A (rV 16 (rU UInt64)) a_1)), (1, ov (A (rV 16 (rU UInt64)) b_2))], [], []⟩ ?_
 refine JC.seq ?_
 refine JC.region ?_
 refine jx (op_boxA lb (.tmp rfl)) (fun q => ?_)
 obtain ⟨gb_3, hqq⟩ : ∃ z, z = q := ⟨_, rfl⟩
 subst hqq
 refine jx (op_boxA lb (.tmp rfl)) (fun q => ?_)
 obtain ⟨gb_4, hqq⟩ : ∃ z, z = q := ⟨_, rfl⟩
 subst hqq
 refine jc (op_assign lb .cB) ?_
 refine JL.nil ?_
 refine JQ.then ?_
 refine JC.seq ?_
 replace hm := bnd_inv hm
 obtain ⟨v_5, hv_v_5, hm⟩ := hm
 replace hm := lt1_inv hm
 obtain ⟨v_6, hv_v_6, hm⟩ := hm
 refine JC.anyE (kl := []) (kk := 0) (base := [(2, ov (PTR gb_3 0)), (3, ov (PTR gb_4 0))])
     (fs := fun γ => [⟨some 5, ov (A (rV 16 (rU UInt64)) a_1)⟩, ⟨some 6, ov (A (rV 16 (rU UInt64)) b_2)⟩, ⟨some 7, ov (A (rV 16 (rU UInt64)) v_5)⟩, ⟨some 8, ov (A (rV 16 (rU UInt64)) a_1)⟩, ⟨some 9, ov (S rB v_6)⟩, ⟨some 4, ov (S rB v_6)⟩])
     (rs := fun γ => [⟨cvar gb_3 (rV 16 (rU UInt64)) a_1, none, none, [0, 3]⟩, ⟨cvar gb_4 (rV 16 (rU UInt64)) b_2, none, none, [1]⟩])
     (ds := [5, 6, 7, 8, 9, 4]) (bs := [2, 3]) (afts := [[], [], [], [], [], []]) (js := [0, 0]) mixed (.cons rfl (.cons rfl .nil)) (fun _ => rfl)
     (by
      refine DSteps.cons (j := 1) rfl (fun _ => rfl) (.run (fun γ ρ B hb hd => ⟨.none, OpStep.at ⟨ρ, (cvar gb_3 (rV 16 (rU UInt64)) a_1) :: B, _⟩ (setO ⟨ρ, (cvar gb_3 (rV 16 (rU UInt64)) a_1) :: B, _⟩ _ _) (op_loadA (j := 0) lb tA25 (.tmp (hb 2 _ rfl)) rfl (Comp.self (rV 16 (rU UInt64)) a_1) rfl)⟩)) ?_
      refine DSteps.cons (j := 2) rfl (fun _ => rfl) (.run (fun γ ρ B hb hd => ⟨.none, OpStep.at ⟨ρ, (cvar gb_4 (rV 16 (rU UInt64)) b_2) :: B, _⟩ (setO ⟨ρ, (cvar gb_4 (rV 16 (rU UInt64)) b_2) :: B, _⟩ _ _) (op_loadA (j := 0) lb tA25 (.tmp (hb 3 _ rfl)) rfl (Comp.self (rV 16 (rU UInt64)) b_2) rfl)⟩)) ?_
      refine dS 3 (fun γ ρ B hb hd => (op_call (js := []) ld cl15 (sim_cursor_Join k a_1 b_2 v_5 hv_v_5) .func (.cons (.tmp (hl hd 0 5 rfl)) (.cons (.tmp (hl hd 1 6 rfl)) .nil)) rfl).post (fun _ => Imp.refl)) ?_
      refine DSteps.cons (j := 4) rfl (fun _ => rfl) (.run (fun γ ρ B hb hd => ⟨.none, OpStep.at ⟨ρ, (cvar gb_3 (rV 16 (rU UInt64)) a_1) :: B, _⟩ (setO ⟨ρ, (cvar gb_3 (rV 16 (rU UInt64)) a_1) :: B, _⟩ _ _) (op_loadA (j := 0) lb tA25 (.tmp (hb 2 _ rfl)) rfl (Comp.self (rV 16 (rU UInt64)) a_1) rfl)⟩)) ?_
      refine dS 5 (fun γ ρ B hb hd => op_eqA lb qa25 (by decide) ng25 (.tmp (hl hd 2 7 rfl)) (.tmp (hl hd 3 8 rfl)) hv_v_6) ?_
      refine dS 6 (fun γ ρ B hb hd => op_assign lb (.tmp (hl hd 4 9 rfl))) ?_
      exact DSteps.nil)
     (by decide +kernel) (fun _ => rfl) rfl (fun _ => rfl) (fun _ => rfl) rfl (by decide) (by decide) (by decide +kernel) (fun _ d h => by cases h)
     (ρ' := fun γ => [(4, ov (S rB v_6))])
     (X' := fun γ => [cvar gb_3 (rV 16 (rU UInt64)) a_1, cvar gb_4 (rV 16 (rU UInt64)) b_2])
     (fun γ ρ hb hd => (.cons (hdq hd 5 4 rfl) .nil)) (fun _ => rfl) (fun γ => ?_)
 refine JQ.at ⟨[(4, ov (S rB v_6))], [cvar gb_3 (rV 16 (rU UInt64)) a_1, cvar gb_4 (rV 16 (rU UInt64)) b_2], []⟩ ?_
 refine JQ.then ?_
 refine JC.ret ?_
 replace hm := Option.some.inj hm
 subst hm
 exact JQ.done (js := []) (ss := [.val (S rB v_6)]) () (.inl rfl) (.nil rfl) rfl (.cons (.tmp rfl) .nil) rfl rfl rfl

theorem sim_ref10_Covers (k : Nat) (a_1 : (Vector UInt64 16)) (b_2 : (Vector UInt64 16)) (r : Bool) (hm : ref10_Covers k a_1 b_2 = some r) : Sim Try.prog 18 [A (rV 16 (rU UInt64)) a_1, A (rV 16 (rU UInt64)) b_2] [] (γ := Unit) (fun q => []) (fun q => .one (.val (S rB r))) := by
 unfold ref10_Covers at hm
 refine Sim.of Try.func18 rfl rfl (Nat.le_of_ble_eq_true rfl) (fun e0 w0 => ?_)
 refine JC.at ⟨[(0, ov (A (rV 16 (rU UInt64)) a_1)), (1, ov (A (rV 16 (rU UInt64)) b_2))], [], []⟩ ?_
 refine JC.seq ?_
 refine JC.region ?_
 refine jx (op_boxA lb (.tmp rfl)) (fun q => ?_)
 obtain ⟨gb_3, hqq⟩ : ∃ z, z = q := ⟨_, rfl⟩
 subst hqq
 refine jx (op_boxA lb (.tmp rfl)) (fun q => ?_)
 obtain ⟨gb_4, hqq⟩ : ∃ z, z = q := ⟨_, rfl⟩
 subst hqq
 refine jc (op_assign lb .cB) ?_
 refine JL.nil ?_
 refine JQ.then ?_
 replace hm := bnd_inv hm
 obtain ⟨tv1, hx1, hq1⟩ := hm
 refine JC.seqK (α := Unit) (γ := Unit) (stj := fun v q => ⟨[], [], []⟩) (p := fun v => tv1 = (.inl v)) (fun v q hv => ?_) ?_
 · subst hv
   skip
   obtain _ := q
   dsimp only at hq1
   refine JC.at ⟨[], [], []⟩ ?_
   refine JC.seq ?_
   refine JC.region ?_
   refine jc (op_assign lb .cB) ?_
   refine JL.nil ?_
   refine JQ.then ?_
   refine JC.ret ?_
   replace hq1 := Option.some.inj hq1
   subst hq1
   exact JQ.done (js := []) (ss := [.val (S rB true)]) () (.inl rfl) (.nil rfl) rfl (.cons (.tmp rfl) .nil) rfl rfl rfl
 · refine JC.seq ?_
   refine JC.region ?_
   refine jc (op_assign lb .cI) ?_
   refine JL.nil ?_
   refine JQ.then ?_
   refine JC.block ?_
   replace hx1 := bnd_inv hx1
   obtain ⟨tv2, hL2, hq2⟩ := hx1
   refine JC.pre ?_ (JC.loop (γ := Unit) (stf := fun s q => ⟨[(2, ov (PTR gb_3 0)), (3, ov (PTR gb_4 0)), (5, ov (S (rI .i64) s))], [cvar gb_3 (rV 16 (rU UInt64)) a_1, cvar gb_4 (rV 16 (rU UInt64)) b_2], []⟩) (q := ()) hL2 ?_)
   · exact (Imp.norm (js := [0, 0]) rfl (.cons rfl (.cons rfl (.cons rfl .nil))))
   · intro i_5 q x hx hr
     obtain _ := q
     change ref10_Covers.b1 k a_1 b_2 i_5 = some x at hx
     unfold ref10_Covers.b1 at hx
     refine JC.at ⟨[(2, ov (PTR gb_3 0)), (3, ov (PTR gb_4 0)), (5, ov (S (rI .i64) i_5))], [cvar gb_3 (rV 16 (rU UInt64)) a_1, cvar gb_4 (rV 16 (rU UInt64)) b_2], []⟩ ?_
     refine JC.seq ?_
     refine JC.seq ?_
     refine JC.region ?_
     refine jc (op_move lb (.tmp rfl)) ?_
     replace hx := lt1_inv hx
     obtain ⟨v_6, hv_v_6, hx⟩ := hx
     refine jc (op_cmpI lb (.tmp rfl) .cI (congrArg some hv_v_6)) ?_
     refine JL.nil ?_
     refine JQ.then ?_
     replace hx := iteB_inv hx
     rcases hx with ⟨hc3, hx⟩ | ⟨hc3, hx⟩
     · refine JC.condT (.tmp rfl) hc3 ?_
       refine JC.skip ?_
       refine JQ.then ?_
       refine JC.seq ?_
       refine JC.block ?_
       refine JC.seq ?_
       replace hx := bnd_inv hx
       obtain ⟨i_7, hv_i_7, hx⟩ := hx
       replace hx := lt1_inv hx
       obtain ⟨v_8, hv_v_8, hx⟩ := hx
       replace hx := bnd_inv hx
       obtain ⟨i_9, hv_i_9, hx⟩ := hx
       replace hx := lt1_inv hx
       obtain ⟨v_10, hv_v_10, hx⟩ := hx
       replace hx := lt1_inv hx
       obtain ⟨v_11, hv_v_11, hx⟩ := hx
       refine JC.anyE (kl := []) (kk := 0) (base := [(2, ov (PTR gb_3 0)), (3, ov (PTR gb_4 0)), (5, ov (S (rI .i64) i_5))])
           (fs := fun γ => [⟨some 10, ov (S (rI .i64) i_5)⟩, ⟨some 11, ov (PTR gb_3 (0 + i_7.1 * 1))⟩, ⟨some 12, ov (S (rU UInt64) v_8)⟩, ⟨some 13, ov (S (rI .i64) i_5)⟩, ⟨some 14, ov (PTR gb_4 (0 + i_9.1 * 1))⟩, ⟨some 15, ov (S (rU UInt64) v_10)⟩, ⟨some 16, ov (S rB v_11)⟩])
           (rs := fun γ => [⟨cvar gb_3 (rV 16 (rU UInt64)) a_1, none, none, [2]⟩, ⟨cvar gb_4 (rV 16 (rU UInt64)) b_2, none, none, [5]⟩])
           (ds := [10, 11, 12, 13, 14, 15, 16]) (bs := [2, 3, 5]) (afts := [[], [], [], [], [], [], []]) (js := [0, 0]) mixed (.cons rfl (.cons rfl (.cons rfl .nil))) (fun _ => rfl)
           (by
      refine dS 1 (fun γ ρ B hb hd => op_move lb (.tmp (hb 5 _ rfl))) ?_
      refine dS 2 (fun γ ρ B hb hd => op_indexAddrIF lb tr25 (.tmp (hb 2 _ rfl)) (.tmp (hl hd 0 10 rfl)) hv_i_7) ?_
      refine DSteps.cons (j := 3) rfl (fun _ => rfl) (.run (fun γ ρ B hb hd => ⟨.none, OpStep.at ⟨ρ, (cvar gb_3 (rV 16 (rU UInt64)) a_1) :: B, _⟩ (setO ⟨ρ, (cvar gb_3 (rV 16 (rU UInt64)) a_1) :: B, _⟩ _ _) (op_loadS (j := 0) lb tS23 (.tmp (hl hd 1 11 rfl)) rfl (Comp.at (Comp.self (rV 16 (rU UInt64)) a_1) i_7.2 rfl) rfl hv_v_8)⟩)) ?_
      refine dS 4 (fun γ ρ B hb hd => op_move lb (.tmp (hb 5 _ rfl))) ?_
      refine dS 5 (fun γ ρ B hb hd => op_indexAddrIF lb tr25 (.tmp (hb 3 _ rfl)) (.tmp (hl hd 3 13 rfl)) hv_i_9) ?_
      refine DSteps.cons (j := 6) rfl (fun _ => rfl) (.run (fun γ ρ B hb hd => ⟨.none, OpStep.at ⟨ρ, (cvar gb_4 (rV 16 (rU UInt64)) b_2) :: B, _⟩ (setO ⟨ρ, (cvar gb_4 (rV 16 (rU UInt64)) b_2) :: B, _⟩ _ _) (op_loadS (j := 0) lb tS23 (.tmp (hl hd 4 14 rfl)) rfl (Comp.at (Comp.self (rV 16 (rU UInt64)) b_2) i_9.2 rfl) rfl hv_v_10)⟩)) ?_
      refine dS 7 (fun γ ρ B hb hd => op_cmpU lb (.tmp (hl hd 2 12 rfl)) (.tmp (hl hd 5 15 rfl)) (congrArg some hv_v_11)) ?_
      exact DSteps.nil)
           (by decide +kernel) (fun _ => rfl) rfl (fun _ => rfl) (fun _ => rfl) rfl (by decide) (by decide) (by decide +kernel) (fun _ d h => by cases h)
           (ρ' := fun γ => [(2, ov (PTR gb_3 0)), (3, ov (PTR gb_4 0)), (5, ov (S (rI .i64) i_5)), (16, ov (S rB v_11))])
           (X' := fun γ => [cvar gb_3 (rV 16 (rU UInt64)) a_1, cvar gb_4 (rV 16 (rU UInt64)) b_2])
           (fun γ ρ hb hd => (.cons (hb 2 _ rfl (by decide)) (.cons (hb 3 _ rfl (by decide)) (.cons (hb 5 _ rfl (by decide)) (.cons (hdq hd 6 16 rfl) .nil))))) (fun _ => rfl) (fun γ => ?_)
       refine JQ.at ⟨[(2, ov (PTR gb_3 0)), (3, ov (PTR gb_4 0)), (5, ov (S (rI .i64) i_5)), (16, ov (S rB v_11))], [cvar gb_3 (rV 16 (rU UInt64)) a_1, cvar gb_4 (rV 16 (rU UInt64)) b_2], []⟩ ?_
       refine JQ.then ?_
       replace hx := iteB_inv hx
       rcases hx with ⟨hc4, hx⟩ | ⟨hc4, hx⟩
       · refine JC.condT (.tmp rfl) hc4 ?_
         refine JC.seq ?_
         refine JC.region ?_
         refine jc (op_assign lb .cB) ?_
         refine JL.nil ?_
         refine JQ.then ?_
         refine JC.ret ?_
         refine JQ.outRB ?_
         refine JQ.outR ?_
         replace hx := Option.some.inj hx
         first | subst hx | clear hx
         have ht := hr _ rfl
         clear hr
         first | subst ht | clear ht
         dsimp only at hq2
         refine JQ.outR ?_
         refine JQ.outRB ?_
         replace hq2 := Option.some.inj hq2
         first | subst hq2 | clear hq2
         dsimp only at hq1
         refine JQ.outR ?_
         replace hq1 := Option.some.inj hq1
         subst hq1
         exact JQ.done (js := []) (ss := [.val (S rB false)]) () (.inl rfl) (.nil rfl) rfl (.cons (.tmp rfl) .nil) rfl rfl rfl
       · refine JC.condF (.tmp rfl) hc4 ?_
         refine JC.skip ?_
         refine JQ.outNB ?_
         refine JQ.then ?_
         refine JC.region ?_
         refine jc (op_move lb (.tmp rfl)) ?_
         replace hx := lt1_inv hx
         obtain ⟨v_12, hv_v_12, hx⟩ := hx
         refine jc (op_arI lb (.tmp rfl) .cI (congrArg some hv_v_12)) ?_
         refine jc (op_assign lb (.tmp rfl)) ?_
         refine JL.nil ?_
         replace hx := Option.some.inj hx
         first | subst hx | clear hx
         exact JQ.next () rfl (Imp.norm (js := [0, 0]) rfl (.cons rfl (.cons rfl (.cons rfl .nil))))
     · refine JC.condF (.tmp rfl) hc3 ?_
       refine JC.exit ?_
       refine JQ.outX ?_
       replace hx := Option.some.inj hx
       first | subst hx | clear hx
       have ht := hr _ rfl
       clear hr
       first | subst ht | clear ht
       dsimp only at hq2
       refine JQ.outX ?_
       refine JQ.here ?_
       replace hq2 := Option.some.inj hq2
       first | subst hq2 | clear hq2
       exact JQ.joinK () () rfl (Imp.norm (js := []) rfl .nil)

end Go.Proofs.Ytnhiiabdoichlaa
