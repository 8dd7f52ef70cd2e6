/- Walks. -/
import Derived.Test.YtnhiiabdoichlaaT
import Derived.Test.YtnhiiabdoichlaaW0
import Derived.Test.YtnhiiabdoichlaaW10
import Derived.Test.YtnhiiabdoichlaaW14
import Derived.Test.YtnhiiabdoichlaaW15
import Derived.Test.YtnhiiabdoichlaaW16
import Derived.Test.YtnhiiabdoichlaaW6
import Derived.Test.YtnhiiabdoichlaaW8
import Derived.Test.YtnhiiabdoichlaaW9
namespace Go.Proofs.Ytnhiiabdoichlaa
open Go Fw
set_option linter.unusedVariables false
set_option maxRecDepth 100000
set_option maxHeartbeats 4000000

theorem sim_law10_CursorBytes (k : Nat) (t_1 : (List UInt8)) (a_2 : (List UInt8)) (a_3 : (Vector UInt64 16)) (a_4 : (Vector UInt64 16)) (a_5 : (List UInt8)) (r : Bool) (hm : law10_CursorBytes k t_1 a_2 a_3 a_4 a_5 = some r) : Sim Try.prog 4 [S (rL (rU UInt8)) t_1, S rS a_2, A (rV 16 (rU UInt64)) a_3, A (rV 16 (rU UInt64)) a_4, S (rL (rU UInt8)) a_5] [] (γ := Unit) (fun q => []) (fun q => .one (.val (S rB r))) := by
 unfold law10_CursorBytes at hm
 refine Sim.of Try.func4 rfl rfl (Nat.le_of_ble_eq_true rfl) (fun e0 w0 => ?_)
 refine JC.at ⟨[(0, ov (S (rL (rU UInt8)) t_1)), (1, ov (S rS a_2)), (2, ov (A (rV 16 (rU UInt64)) a_3)), (3, ov (A (rV 16 (rU UInt64)) a_4)), (4, ov (S (rL (rU UInt8)) a_5))], [], []⟩ ?_
 refine JC.seq ?_
 refine JC.region ?_
 refine jx (op_boxA lb (.tmp rfl)) (fun q => ?_)
 obtain ⟨gb_6, hqq⟩ : ∃ z, z = q := ⟨_, rfl⟩
 subst hqq
 refine jx (op_boxA lb (.tmp rfl)) (fun q => ?_)
 obtain ⟨gb_7, hqq⟩ : ∃ z, z = q := ⟨_, rfl⟩
 subst hqq
 refine jc (op_assign lb .cB) ?_
 refine JL.nil ?_
 refine JQ.then ?_
 refine JC.seq ?_
 replace hm := bnd_inv hm
 obtain ⟨x_11, hx1, hq1⟩ := hm
 refine JC.seqJ (γ := Unit) (stj := fun q => ⟨[(0, ov (S (rL (rU UInt8)) t_1)), (1, ov (S rS a_2)), (4, ov (S (rL (rU UInt8)) a_5)), (7, ov (PTR gb_6 0)), (8, ov (PTR gb_7 0)), (24, ov (S rB x_11))], [cvar gb_6 (rV 16 (rU UInt64)) a_3, cvar gb_7 (rV 16 (rU UInt64)) a_4], []⟩) (fun q => ?_) ?_
 · obtain _ := q
   refine JC.at ⟨[(0, ov (S (rL (rU UInt8)) t_1)), (1, ov (S rS a_2)), (4, ov (S (rL (rU UInt8)) a_5)), (7, ov (PTR gb_6 0)), (8, ov (PTR gb_7 0)), (24, ov (S rB x_11))], [cvar gb_6 (rV 16 (rU UInt64)) a_3, cvar gb_7 (rV 16 (rU UInt64)) a_4], []⟩ ?_
   replace hq1 := iteB_inv hq1
   rcases hq1 with ⟨hc6, hq1⟩ | ⟨hc6, hq1⟩
   · refine JC.condT (.tmp rfl) hc6 ?_
     refine JC.seq ?_
     refine JC.region ?_
     replace hq1 := bnd_inv hq1
     obtain ⟨v_12, hv_v_12, hq1⟩ := hq1
     refine jx (op_call (js := []) ld cl6 (sim_law10_known k v_12 hv_v_12) .func .nil rfl) (fun _ => ?_)
     refine jc (op_assign lb (.tmp rfl)) ?_
     refine JL.nil ?_
     refine JQ.then ?_
     refine JC.ret ?_
     refine JQ.outR ?_
     replace hq1 := Option.some.inj hq1
     subst hq1
     exact JQ.done (js := []) (ss := [.val (S rB v_12)]) () (.inl rfl) (.nil rfl) rfl (.cons (.tmp rfl) .nil) rfl rfl rfl
   · refine JC.condF (.tmp rfl) hc6 ?_
     refine JC.skip ?_
     refine JQ.then ?_
     refine JC.seq ?_
     refine JC.region ?_
     refine jc (op_move lb (.tmp rfl)) ?_
     refine jc (op_move lb (.tmp rfl)) ?_
     refine jc (op_loadA (j := 0) lb tA25 (.tmp rfl) rfl (Comp.self (rV 16 (rU UInt64)) a_3) rfl) ?_
     replace hq1 := bnd_inv hq1
     obtain ⟨⟨v_13, v_14⟩, hv_v_13, hq1⟩ := hq1
     refine jx (op_call (js := []) ld cl7 (sim_cursor_Bytes k t_1 a_2 a_3 (v_13, v_14) hv_v_13) .func (.cons (.tmp rfl) (.cons (.tmp rfl) (.cons (.tmp rfl) .nil))) rfl) (fun q => ?_)
     obtain ⟨go_15, gc_16⟩ := q
     refine jc (op_move lb (.tmp rfl)) ?_
     refine jc (op_extract (i := 0) lb (.tmp rfl) rfl) ?_
     refine jc (op_extract (i := 1) lb (.tmp rfl) rfl) ?_
     refine jc (op_assign lb (.tmp rfl)) ?_
     refine jc (op_assign lb (.tmp rfl)) ?_
     refine JL.nil ?_
     refine JQ.then ?_
     replace hq1 := bnd_inv hq1
     obtain ⟨tv7, hx7, hq7⟩ := hq1
     refine JC.seqK (α := Unit) (γ := Unit) (stj := fun v q => ⟨[(0, ov (S (rL (rU UInt8)) t_1)), (1, ov (S rS a_2)), (4, ov (S (rL (rU UInt8)) a_5)), (7, ov (PTR gb_6 0)), (8, ov (PTR gb_7 0))], [cvar gb_6 (rV 16 (rU UInt64)) a_3, cvar gb_7 (rV 16 (rU UInt64)) a_4], []⟩) (p := fun v => tv7 = (.inl v)) (fun v q hv => ?_) ?_
     · subst hv
       skip
       obtain _ := q
       dsimp only at hq7
       refine JC.at ⟨[(0, ov (S (rL (rU UInt8)) t_1)), (1, ov (S rS a_2)), (4, ov (S (rL (rU UInt8)) a_5)), (7, ov (PTR gb_6 0)), (8, ov (PTR gb_7 0))], [cvar gb_6 (rV 16 (rU UInt64)) a_3, cvar gb_7 (rV 16 (rU UInt64)) a_4], []⟩ ?_
       refine JC.seq ?_
       refine JC.region ?_
       refine jc (op_move lb (.tmp rfl)) ?_
       refine jc (op_move lb (.tmp rfl)) ?_
       refine jc (op_move lb (.tmp rfl)) ?_
       replace hq7 := bnd_inv hq7
       obtain ⟨⟨v_34, v_35⟩, hv_v_34, hq7⟩ := hq7
       refine jx (op_call (js := []) ld cl9 (sim_cursor_Of k t_1 a_2 a_5 (v_34, v_35) hv_v_34) .func (.cons (.tmp rfl) (.cons (.tmp rfl) (.cons (.tmp rfl) .nil))) rfl) (fun _ => ?_)
       refine jc (op_move lb (.tmp rfl)) ?_
       refine jc (op_extract (i := 0) lb (.tmp rfl) rfl) ?_
       refine jc (op_extract (i := 1) lb (.tmp rfl) rfl) ?_
       refine jx (op_alloc lb tZ25 zr25) (fun q => ?_)
       obtain ⟨gb_36, hqq⟩ : ∃ z, z = q := ⟨_, rfl⟩
       subst hqq
       refine jc (op_storeA (j := 2) tA25 (.tmp rfl) (.tmp rfl) rfl (UpdR.self (by rfl)) rfl) ?_
       refine JL.sub ⟨[(0, ov (S (rL (rU UInt8)) t_1)), (1, ov (S rS a_2)), (4, ov (S (rL (rU UInt8)) a_5)), (7, ov (PTR gb_6 0)), (8, ov (PTR gb_7 0)), (13, ov (PTR gb_36 0)), (66, ov (S (rI .i64) v_35))], [cvar gb_6 (rV 16 (rU UInt64)) a_3, cvar gb_7 (rV 16 (rU UInt64)) a_4, cvar gb_36 (rV 16 (rU UInt64)) v_34], []⟩ rfl rfl rfl ?_
       refine jc (op_assign lb (.tmp rfl)) ?_
       refine JL.nil ?_
       refine JQ.then ?_
       refine JC.seq ?_
       refine JC.region ?_
       refine jc (op_move lb (.tmp rfl)) ?_
       refine jc (op_move lb (.tmp rfl)) ?_
       refine jc (op_move lb (.tmp rfl)) ?_
       replace hq7 := bnd_inv hq7
       obtain ⟨⟨v_37, v_38⟩, hv_v_37, hq7⟩ := hq7
       refine jx (op_call (js := []) ld cl13 (sim_ref10_Of k t_1 a_2 a_5 (v_37, v_38) hv_v_37) .func (.cons (.tmp rfl) (.cons (.tmp rfl) (.cons (.tmp rfl) .nil))) rfl) (fun _ => ?_)
       refine jc (op_move lb (.tmp rfl)) ?_
       refine jc (op_extract (i := 0) lb (.tmp rfl) rfl) ?_
       refine jc (op_extract (i := 1) lb (.tmp rfl) rfl) ?_
       refine jx (op_alloc lb tZ25 zr25) (fun q => ?_)
       obtain ⟨gb_39, hqq⟩ : ∃ z, z = q := ⟨_, rfl⟩
       subst hqq
       refine jc (op_storeA (j := 3) tA25 (.tmp rfl) (.tmp rfl) rfl (UpdR.self (by rfl)) rfl) ?_
       refine JL.sub ⟨[(7, ov (PTR gb_6 0)), (8, ov (PTR gb_7 0)), (13, ov (PTR gb_36 0)), (14, ov (S (rI .i64) v_35)), (15, ov (PTR gb_39 0)), (73, ov (S (rI .i64) v_38))], [cvar gb_6 (rV 16 (rU UInt64)) a_3, cvar gb_7 (rV 16 (rU UInt64)) a_4, cvar gb_36 (rV 16 (rU UInt64)) v_34, cvar gb_39 (rV 16 (rU UInt64)) v_37], []⟩ rfl rfl rfl ?_
       refine jc (op_assign lb (.tmp rfl)) ?_
       refine JL.nil ?_
       refine JQ.then ?_
       replace hq7 := bnd_inv hq7
       obtain ⟨x_58, hx25, hq25⟩ := hq7
       refine JC.seqJ (γ := Unit) (stj := fun q => ⟨[(10, ov (S rB x_58))], [], []⟩) (fun q => ?_) ?_
       · obtain _ := q
         refine JC.at ⟨[(10, ov (S rB x_58))], [], []⟩ ?_
         refine JC.ret ?_
         replace hq25 := Option.some.inj hq25
         subst hq25
         exact JQ.done (js := []) (ss := [.val (S rB x_58)]) () (.inl rfl) (.nil rfl) rfl (.cons (.tmp rfl) .nil) rfl rfl rfl
       · replace hx25 := lt1_inv hx25
         obtain ⟨v_40, hv_v_40, hx25⟩ := hx25
         replace hx25 := bnd_inv hx25
         obtain ⟨_, hv_u_41, hx25⟩ := hx25
         replace hx25 := lt1_inv hx25
         obtain ⟨v_42, hv_v_42, hx25⟩ := hx25
         replace hx25 := lt1_inv hx25
         obtain ⟨v_43, hv_v_43, hx25⟩ := hx25
         replace hx25 := bnd_inv hx25
         obtain ⟨v_44, hv_v_44, hx25⟩ := hx25
         replace hx25 := bnd_inv hx25
         obtain ⟨v_45, hv_v_45, hx25⟩ := hx25
         replace hx25 := lt1_inv hx25
         obtain ⟨v_46, hv_v_46, hx25⟩ := hx25
         replace hx25 := lt1_inv hx25
         obtain ⟨v_47, hv_v_47, hx25⟩ := hx25
         replace hx25 := bnd_inv hx25
         obtain ⟨v_48, hv_v_48, hx25⟩ := hx25
         replace hx25 := bnd_inv hx25
         obtain ⟨v_49, hv_v_49, hx25⟩ := hx25
         replace hx25 := lt1_inv hx25
         obtain ⟨v_50, hv_v_50, hx25⟩ := hx25
         replace hx25 := lt1_inv hx25
         obtain ⟨v_51, hv_v_51, hx25⟩ := hx25
         replace hx25 := bnd_inv hx25
         obtain ⟨v_52, hv_v_52, hx25⟩ := hx25
         replace hx25 := bnd_inv hx25
         obtain ⟨v_53, hv_v_53, hx25⟩ := hx25
         replace hx25 := lt1_inv hx25
         obtain ⟨v_54, hv_v_54, hx25⟩ := hx25
         replace hx25 := lt1_inv hx25
         obtain ⟨v_55, hv_v_55, hx25⟩ := hx25
         replace hx25 := bnd_inv hx25
         obtain ⟨v_56, hv_v_56, hx25⟩ := hx25
         replace hx25 := lt1_inv hx25
         obtain ⟨v_57, hv_v_57, hx25⟩ := hx25
         refine JC.anyE (kl := []) (kk := 0) (base := [(7, ov (PTR gb_6 0)), (8, ov (PTR gb_7 0)), (13, ov (PTR gb_36 0)), (14, ov (S (rI .i64) v_35)), (15, ov (PTR gb_39 0)), (16, ov (S (rI .i64) v_38))])
             (fs := fun γ => [⟨some 74, ov (A (rV 16 (rU UInt64)) v_34)⟩, ⟨some 75, ov (A (rV 16 (rU UInt64)) v_37)⟩, ⟨some 76, ov (S rB v_40)⟩, ⟨some 77, ov (S rB v_40)⟩, ⟨some 78, bif v_40 then ov (S (rI .i64) v_35) else .one .und⟩, ⟨some 79, bif v_40 then ov (S (rI .i64) v_35) else .one .und⟩, ⟨some 80, bif v_40 then ov (S (rI .i64) v_38) else .one .und⟩, ⟨some 81, bif v_40 then ov (S rB v_42) else .one .und⟩, ⟨some 82, ov (S rB v_43)⟩, ⟨some 83, ov (S rB v_43)⟩, ⟨some 84, bif v_43 then ov (A (rV 16 (rU UInt64)) a_3) else .one .und⟩, ⟨some 85, bif v_43 then ov (S rB v_44) else .one .und⟩, ⟨some 86, bif v_43 then ov (A (rV 16 (rU UInt64)) a_3) else .one .und⟩, ⟨some 87, bif v_43 then ov (S rB v_45) else .one .und⟩, ⟨some 88, bif v_43 then ov (S rB v_46) else .one .und⟩, ⟨some 89, ov (S rB v_47)⟩, ⟨some 90, ov (S rB v_47)⟩, ⟨some 91, bif v_47 then ov (A (rV 16 (rU UInt64)) a_3) else .one .und⟩, ⟨some 92, bif v_47 then ov (A (rV 16 (rU UInt64)) a_4) else .one .und⟩, ⟨some 93, bif v_47 then ov (A (rV 16 (rU UInt64)) v_48) else .one .und⟩, ⟨some 94, bif v_47 then ov (A (rV 16 (rU UInt64)) a_3) else .one .und⟩, ⟨some 95, bif v_47 then ov (A (rV 16 (rU UInt64)) a_4) else .one .und⟩, ⟨some 96, bif v_47 then ov (A (rV 16 (rU UInt64)) v_49) else .one .und⟩, ⟨some 97, bif v_47 then ov (S rB v_50) else .one .und⟩, ⟨some 98, ov (S rB v_51)⟩, ⟨some 99, ov (S rB v_51)⟩, ⟨some 100, bif v_51 then ov (A (rV 16 (rU UInt64)) a_3) else .one .und⟩, ⟨some 101, bif v_51 then ov (A (rV 16 (rU UInt64)) a_4) else .one .und⟩, ⟨some 102, bif v_51 then ov (S rB v_52) else .one .und⟩, ⟨some 103, bif v_51 then ov (A (rV 16 (rU UInt64)) a_3) else .one .und⟩, ⟨some 104, bif v_51 then ov (A (rV 16 (rU UInt64)) a_4) else .one .und⟩, ⟨some 105, bif v_51 then ov (S rB v_53) else .one .und⟩, ⟨some 106, bif v_51 then ov (S rB v_54) else .one .und⟩, ⟨some 107, ov (S rB v_55)⟩, ⟨some 108, ov (S rB v_55)⟩, ⟨some 109, bif v_55 then ov (S rB v_56) else .one .und⟩, ⟨some 110, ov (S rB v_57)⟩, ⟨some 10, ov (S rB v_57)⟩])
             (rs := fun γ => [⟨cvar gb_6 (rV 16 (rU UInt64)) a_3, none, none, [10, 12, 17, 20, 26, 29]⟩, ⟨cvar gb_7 (rV 16 (rU UInt64)) a_4, none, none, [18, 21, 27, 30]⟩, ⟨cvar gb_36 (rV 16 (rU UInt64)) v_34, none, none, [0]⟩, ⟨cvar gb_39 (rV 16 (rU UInt64)) v_37, none, none, [1]⟩])
             (ds := [74, 75, 76, 77, 78, 79, 80, 81, 82, 83, 84, 85, 86, 87, 88, 89, 90, 91, 92, 93, 94, 95, 96, 97, 98, 99, 100, 101, 102, 103, 104, 105, 106, 107, 108, 109, 110, 10]) (bs := [7, 8, 13, 14, 15, 16]) (afts := [[], [], [], [], [], [], [], [], [], [], [], [], [], [], [], [], [], [], [], [], [], [], [], [], [], [], [], [], [], [], [], [], [], [], [], [], [], []]) (js := [0, 0, 0, 0]) mixed (.cons rfl (.cons rfl (.cons rfl (.cons rfl (.cons rfl (.cons rfl .nil)))))) (fun _ => rfl)
             (by
      refine DSteps.cons (j := 1) rfl (fun _ => rfl) (.run (fun γ ρ B hb hd => ⟨.none, OpStep.at ⟨ρ, (cvar gb_36 (rV 16 (rU UInt64)) v_34) :: B, _⟩ (setO ⟨ρ, (cvar gb_36 (rV 16 (rU UInt64)) v_34) :: B, _⟩ _ _) (op_loadA (j := 0) lb tA25 (.tmp (hb 13 _ rfl)) rfl (Comp.self (rV 16 (rU UInt64)) v_34) rfl)⟩)) ?_
      refine DSteps.cons (j := 2) rfl (fun _ => rfl) (.run (fun γ ρ B hb hd => ⟨.none, OpStep.at ⟨ρ, (cvar gb_39 (rV 16 (rU UInt64)) v_37) :: B, _⟩ (setO ⟨ρ, (cvar gb_39 (rV 16 (rU UInt64)) v_37) :: B, _⟩ _ _) (op_loadA (j := 0) lb tA25 (.tmp (hb 15 _ rfl)) rfl (Comp.self (rV 16 (rU UInt64)) v_37) rfl)⟩)) ?_
      refine dS 3 (fun γ ρ B hb hd => op_eqA lb qa25 (by decide) ng25 (.tmp (hl hd 0 74 rfl)) (.tmp (hl hd 1 75 rfl)) hv_v_40) ?_
      refine dS 4 (fun γ ρ B hb hd => op_move lb (.tmp (hl hd 2 76 rfl))) ?_
      refine dC 5 v_40 (fun γ => ov (S (rI .i64) v_35)) (fun γ ρ B hb hd => ⟨(Guard.isT (ltB rfl) rfl (hl hd 3 77 rfl)), fun hq_26 => op_move lb (.tmp (hb 14 _ rfl))⟩) ?_
      refine dC 6 v_40 (fun γ => ov (S (rI .i64) v_35)) (fun γ ρ B hb hd => ⟨(Guard.isT (ltB rfl) rfl (hl hd 3 77 rfl)), fun hq_27 => (op_call (js := []) ld cl8 (sim_law10_num k v_35 () (ifT hv_u_41 hq_27)) .func (.cons (HasO.cnd (.tmp (hl hd 4 78 rfl)) hq_27) .nil) rfl).post (fun _ => Imp.refl)⟩) ?_
      refine dC 7 v_40 (fun γ => ov (S (rI .i64) v_38)) (fun γ ρ B hb hd => ⟨(Guard.isT (ltB rfl) rfl (hl hd 3 77 rfl)), fun hq_28 => op_move lb (.tmp (hb 16 _ rfl))⟩) ?_
      refine dC 8 v_40 (fun γ => ov (S rB v_42)) (fun γ ρ B hb hd => ⟨(Guard.isT (ltB rfl) rfl (hl hd 3 77 rfl)), fun hq_29 => op_cmpI lb (HasO.cnd (.tmp (hl hd 5 79 rfl)) hq_29) (HasO.cnd (.tmp (hl hd 6 80 rfl)) hq_29) (congrArg some hv_v_42)⟩) ?_
      refine dS 9 (fun γ ρ B hb hd => op_pickCS lb (.tmp (hl hd 3 77 rfl)) (fun hb30 => (HasO.cnd (.tmp (hl hd 7 81 rfl)) hb30)) (fun hb30 => .cB) hv_v_43) ?_
      refine dS 10 (fun γ ρ B hb hd => op_move lb (.tmp (hl hd 8 82 rfl))) ?_
      refine DSteps.cons (j := 11) rfl (fun _ => rfl) (.cnd (q := v_43) (sv := fun γ => ov (A (rV 16 (rU UInt64)) a_3)) (fun _ => rfl) (fun _ => rfl) (fun d h => by cases h; exact ltB rfl) (fun _ => rfl) (fun γ ρ B hb hd => ⟨(Guard.isT (ltB rfl) rfl (hl hd 9 83 rfl)), fun hq_31 => OpStep.at ⟨ρ, (cvar gb_6 (rV 16 (rU UInt64)) a_3) :: B, _⟩ (setO ⟨ρ, (cvar gb_6 (rV 16 (rU UInt64)) a_3) :: B, _⟩ _ _) (op_loadA (j := 0) lb tA25 (.tmp (hb 7 _ rfl)) rfl (Comp.self (rV 16 (rU UInt64)) a_3) rfl)⟩)) ?_
      refine dC 12 v_43 (fun γ => ov (S rB v_44)) (fun γ ρ B hb hd => ⟨(Guard.isT (ltB rfl) rfl (hl hd 9 83 rfl)), fun hq_32 => (op_call (js := []) ld cl14 (sim_cursor_May k a_3 v_44 (ifT hv_v_44 hq_32)) .func (.cons (HasO.cnd (.tmp (hl hd 10 84 rfl)) hq_32) .nil) rfl).post (fun _ => Imp.refl)⟩) ?_
      refine DSteps.cons (j := 13) rfl (fun _ => rfl) (.cnd (q := v_43) (sv := fun γ => ov (A (rV 16 (rU UInt64)) a_3)) (fun _ => rfl) (fun _ => rfl) (fun d h => by cases h; exact ltB rfl) (fun _ => rfl) (fun γ ρ B hb hd => ⟨(Guard.isT (ltB rfl) rfl (hl hd 9 83 rfl)), fun hq_33 => OpStep.at ⟨ρ, (cvar gb_6 (rV 16 (rU UInt64)) a_3) :: B, _⟩ (setO ⟨ρ, (cvar gb_6 (rV 16 (rU UInt64)) a_3) :: B, _⟩ _ _) (op_loadA (j := 0) lb tA25 (.tmp (hb 7 _ rfl)) rfl (Comp.self (rV 16 (rU UInt64)) a_3) rfl)⟩)) ?_
      refine dC 14 v_43 (fun γ => ov (S rB v_45)) (fun γ ρ B hb hd => ⟨(Guard.isT (ltB rfl) rfl (hl hd 9 83 rfl)), fun hq_34 => (op_call (js := []) ld cl11 (sim_ref10_May k a_3 v_45 (ifT hv_v_45 hq_34)) .func (.cons (HasO.cnd (.tmp (hl hd 12 86 rfl)) hq_34) .nil) rfl).post (fun _ => Imp.refl)⟩) ?_
      refine dC 15 v_43 (fun γ => ov (S rB v_46)) (fun γ ρ B hb hd => ⟨(Guard.isT (ltB rfl) rfl (hl hd 9 83 rfl)), fun hq_35 => op_eqB lb tu4 (HasO.cnd (.tmp (hl hd 11 85 rfl)) hq_35) (HasO.cnd (.tmp (hl hd 13 87 rfl)) hq_35) hv_v_46⟩) ?_
      refine dS 16 (fun γ ρ B hb hd => op_pickCS lb (.tmp (hl hd 9 83 rfl)) (fun hb36 => (HasO.cnd (.tmp (hl hd 14 88 rfl)) hb36)) (fun hb36 => .cB) hv_v_47) ?_
      refine dS 17 (fun γ ρ B hb hd => op_move lb (.tmp (hl hd 15 89 rfl))) ?_
      refine DSteps.cons (j := 18) rfl (fun _ => rfl) (.cnd (q := v_47) (sv := fun γ => ov (A (rV 16 (rU UInt64)) a_3)) (fun _ => rfl) (fun _ => rfl) (fun d h => by cases h; exact ltB rfl) (fun _ => rfl) (fun γ ρ B hb hd => ⟨(Guard.isT (ltB rfl) rfl (hl hd 16 90 rfl)), fun hq_37 => OpStep.at ⟨ρ, (cvar gb_6 (rV 16 (rU UInt64)) a_3) :: B, _⟩ (setO ⟨ρ, (cvar gb_6 (rV 16 (rU UInt64)) a_3) :: B, _⟩ _ _) (op_loadA (j := 0) lb tA25 (.tmp (hb 7 _ rfl)) rfl (Comp.self (rV 16 (rU UInt64)) a_3) rfl)⟩)) ?_
      refine DSteps.cons (j := 19) rfl (fun _ => rfl) (.cnd (q := v_47) (sv := fun γ => ov (A (rV 16 (rU UInt64)) a_4)) (fun _ => rfl) (fun _ => rfl) (fun d h => by cases h; exact ltB rfl) (fun _ => rfl) (fun γ ρ B hb hd => ⟨(Guard.isT (ltB rfl) rfl (hl hd 16 90 rfl)), fun hq_38 => OpStep.at ⟨ρ, (cvar gb_7 (rV 16 (rU UInt64)) a_4) :: B, _⟩ (setO ⟨ρ, (cvar gb_7 (rV 16 (rU UInt64)) a_4) :: B, _⟩ _ _) (op_loadA (j := 0) lb tA25 (.tmp (hb 8 _ rfl)) rfl (Comp.self (rV 16 (rU UInt64)) a_4) rfl)⟩)) ?_
      refine dC 20 v_47 (fun γ => ov (A (rV 16 (rU UInt64)) v_48)) (fun γ ρ B hb hd => ⟨(Guard.isT (ltB rfl) rfl (hl hd 16 90 rfl)), fun hq_39 => (op_call (js := []) ld cl15 (sim_cursor_Join k a_3 a_4 v_48 (ifT hv_v_48 hq_39)) .func (.cons (HasO.cnd (.tmp (hl hd 17 91 rfl)) hq_39) (.cons (HasO.cnd (.tmp (hl hd 18 92 rfl)) hq_39) .nil)) rfl).post (fun _ => Imp.refl)⟩) ?_
      refine DSteps.cons (j := 21) rfl (fun _ => rfl) (.cnd (q := v_47) (sv := fun γ => ov (A (rV 16 (rU UInt64)) a_3)) (fun _ => rfl) (fun _ => rfl) (fun d h => by cases h; exact ltB rfl) (fun _ => rfl) (fun γ ρ B hb hd => ⟨(Guard.isT (ltB rfl) rfl (hl hd 16 90 rfl)), fun hq_40 => OpStep.at ⟨ρ, (cvar gb_6 (rV 16 (rU UInt64)) a_3) :: B, _⟩ (setO ⟨ρ, (cvar gb_6 (rV 16 (rU UInt64)) a_3) :: B, _⟩ _ _) (op_loadA (j := 0) lb tA25 (.tmp (hb 7 _ rfl)) rfl (Comp.self (rV 16 (rU UInt64)) a_3) rfl)⟩)) ?_
      refine DSteps.cons (j := 22) rfl (fun _ => rfl) (.cnd (q := v_47) (sv := fun γ => ov (A (rV 16 (rU UInt64)) a_4)) (fun _ => rfl) (fun _ => rfl) (fun d h => by cases h; exact ltB rfl) (fun _ => rfl) (fun γ ρ B hb hd => ⟨(Guard.isT (ltB rfl) rfl (hl hd 16 90 rfl)), fun hq_41 => OpStep.at ⟨ρ, (cvar gb_7 (rV 16 (rU UInt64)) a_4) :: B, _⟩ (setO ⟨ρ, (cvar gb_7 (rV 16 (rU UInt64)) a_4) :: B, _⟩ _ _) (op_loadA (j := 0) lb tA25 (.tmp (hb 8 _ rfl)) rfl (Comp.self (rV 16 (rU UInt64)) a_4) rfl)⟩)) ?_
      refine dC 23 v_47 (fun γ => ov (A (rV 16 (rU UInt64)) v_49)) (fun γ ρ B hb hd => ⟨(Guard.isT (ltB rfl) rfl (hl hd 16 90 rfl)), fun hq_42 => (op_call (js := []) ld cl16 (sim_ref09_Join k a_3 a_4 v_49 (ifT hv_v_49 hq_42)) .func (.cons (HasO.cnd (.tmp (hl hd 20 94 rfl)) hq_42) (.cons (HasO.cnd (.tmp (hl hd 21 95 rfl)) hq_42) .nil)) rfl).post (fun _ => Imp.refl)⟩) ?_
      refine dC 24 v_47 (fun γ => ov (S rB v_50)) (fun γ ρ B hb hd => ⟨(Guard.isT (ltB rfl) rfl (hl hd 16 90 rfl)), fun hq_43 => op_eqA lb qa25 (by decide) ng25 (HasO.cnd (.tmp (hl hd 19 93 rfl)) hq_43) (HasO.cnd (.tmp (hl hd 22 96 rfl)) hq_43) hv_v_50⟩) ?_
      refine dS 25 (fun γ ρ B hb hd => op_pickCS lb (.tmp (hl hd 16 90 rfl)) (fun hb44 => (HasO.cnd (.tmp (hl hd 23 97 rfl)) hb44)) (fun hb44 => .cB) hv_v_51) ?_
      refine dS 26 (fun γ ρ B hb hd => op_move lb (.tmp (hl hd 24 98 rfl))) ?_
      refine DSteps.cons (j := 27) rfl (fun _ => rfl) (.cnd (q := v_51) (sv := fun γ => ov (A (rV 16 (rU UInt64)) a_3)) (fun _ => rfl) (fun _ => rfl) (fun d h => by cases h; exact ltB rfl) (fun _ => rfl) (fun γ ρ B hb hd => ⟨(Guard.isT (ltB rfl) rfl (hl hd 25 99 rfl)), fun hq_45 => OpStep.at ⟨ρ, (cvar gb_6 (rV 16 (rU UInt64)) a_3) :: B, _⟩ (setO ⟨ρ, (cvar gb_6 (rV 16 (rU UInt64)) a_3) :: B, _⟩ _ _) (op_loadA (j := 0) lb tA25 (.tmp (hb 7 _ rfl)) rfl (Comp.self (rV 16 (rU UInt64)) a_3) rfl)⟩)) ?_
      refine DSteps.cons (j := 28) rfl (fun _ => rfl) (.cnd (q := v_51) (sv := fun γ => ov (A (rV 16 (rU UInt64)) a_4)) (fun _ => rfl) (fun _ => rfl) (fun d h => by cases h; exact ltB rfl) (fun _ => rfl) (fun γ ρ B hb hd => ⟨(Guard.isT (ltB rfl) rfl (hl hd 25 99 rfl)), fun hq_46 => OpStep.at ⟨ρ, (cvar gb_7 (rV 16 (rU UInt64)) a_4) :: B, _⟩ (setO ⟨ρ, (cvar gb_7 (rV 16 (rU UInt64)) a_4) :: B, _⟩ _ _) (op_loadA (j := 0) lb tA25 (.tmp (hb 8 _ rfl)) rfl (Comp.self (rV 16 (rU UInt64)) a_4) rfl)⟩)) ?_
      refine dC 29 v_51 (fun γ => ov (S rB v_52)) (fun γ ρ B hb hd => ⟨(Guard.isT (ltB rfl) rfl (hl hd 25 99 rfl)), fun hq_47 => (op_call (js := []) ld cl17 (sim_cursor_Covers k a_3 a_4 v_52 (ifT hv_v_52 hq_47)) .func (.cons (HasO.cnd (.tmp (hl hd 26 100 rfl)) hq_47) (.cons (HasO.cnd (.tmp (hl hd 27 101 rfl)) hq_47) .nil)) rfl).post (fun _ => Imp.refl)⟩) ?_
      refine DSteps.cons (j := 30) rfl (fun _ => rfl) (.cnd (q := v_51) (sv := fun γ => ov (A (rV 16 (rU UInt64)) a_3)) (fun _ => rfl) (fun _ => rfl) (fun d h => by cases h; exact ltB rfl) (fun _ => rfl) (fun γ ρ B hb hd => ⟨(Guard.isT (ltB rfl) rfl (hl hd 25 99 rfl)), fun hq_48 => OpStep.at ⟨ρ, (cvar gb_6 (rV 16 (rU UInt64)) a_3) :: B, _⟩ (setO ⟨ρ, (cvar gb_6 (rV 16 (rU UInt64)) a_3) :: B, _⟩ _ _) (op_loadA (j := 0) lb tA25 (.tmp (hb 7 _ rfl)) rfl (Comp.self (rV 16 (rU UInt64)) a_3) rfl)⟩)) ?_
      refine DSteps.cons (j := 31) rfl (fun _ => rfl) (.cnd (q := v_51) (sv := fun γ => ov (A (rV 16 (rU UInt64)) a_4)) (fun _ => rfl) (fun _ => rfl) (fun d h => by cases h; exact ltB rfl) (fun _ => rfl) (fun γ ρ B hb hd => ⟨(Guard.isT (ltB rfl) rfl (hl hd 25 99 rfl)), fun hq_49 => OpStep.at ⟨ρ, (cvar gb_7 (rV 16 (rU UInt64)) a_4) :: B, _⟩ (setO ⟨ρ, (cvar gb_7 (rV 16 (rU UInt64)) a_4) :: B, _⟩ _ _) (op_loadA (j := 0) lb tA25 (.tmp (hb 8 _ rfl)) rfl (Comp.self (rV 16 (rU UInt64)) a_4) rfl)⟩)) ?_
      refine dC 32 v_51 (fun γ => ov (S rB v_53)) (fun γ ρ B hb hd => ⟨(Guard.isT (ltB rfl) rfl (hl hd 25 99 rfl)), fun hq_50 => (op_call (js := []) ld cl18 (sim_ref10_Covers k a_3 a_4 v_53 (ifT hv_v_53 hq_50)) .func (.cons (HasO.cnd (.tmp (hl hd 29 103 rfl)) hq_50) (.cons (HasO.cnd (.tmp (hl hd 30 104 rfl)) hq_50) .nil)) rfl).post (fun _ => Imp.refl)⟩) ?_
      refine dC 33 v_51 (fun γ => ov (S rB v_54)) (fun γ ρ B hb hd => ⟨(Guard.isT (ltB rfl) rfl (hl hd 25 99 rfl)), fun hq_51 => op_eqB lb tu4 (HasO.cnd (.tmp (hl hd 28 102 rfl)) hq_51) (HasO.cnd (.tmp (hl hd 31 105 rfl)) hq_51) hv_v_54⟩) ?_
      refine dS 34 (fun γ ρ B hb hd => op_pickCS lb (.tmp (hl hd 25 99 rfl)) (fun hb52 => (HasO.cnd (.tmp (hl hd 32 106 rfl)) hb52)) (fun hb52 => .cB) hv_v_55) ?_
      refine dS 35 (fun γ ρ B hb hd => op_move lb (.tmp (hl hd 33 107 rfl))) ?_
      refine dC 36 v_55 (fun γ => ov (S rB v_56)) (fun γ ρ B hb hd => ⟨(Guard.isT (ltB rfl) rfl (hl hd 34 108 rfl)), fun hq_53 => (op_call (js := []) ld cl6 (sim_law10_known k v_56 (ifT hv_v_56 hq_53)) .func .nil rfl).post (fun _ => Imp.refl)⟩) ?_
      refine dS 37 (fun γ ρ B hb hd => op_pickCS lb (.tmp (hl hd 34 108 rfl)) (fun hb54 => (HasO.cnd (.tmp (hl hd 35 109 rfl)) hb54)) (fun hb54 => .cB) hv_v_57) ?_
      refine dS 38 (fun γ ρ B hb hd => op_assign lb (.tmp (hl hd 36 110 rfl))) ?_
      exact DSteps.nil)
             (by decide +kernel) (fun _ => rfl) rfl (fun _ => rfl) (fun _ => rfl) rfl (by decide) (by decide) (by decide +kernel) (fun _ d h => by cases h)
             (ρ' := fun γ => [(10, ov (S rB v_57))])
             (X' := fun γ => [cvar gb_6 (rV 16 (rU UInt64)) a_3, cvar gb_7 (rV 16 (rU UInt64)) a_4, cvar gb_36 (rV 16 (rU UInt64)) v_34, cvar gb_39 (rV 16 (rU UInt64)) v_37])
             (fun γ ρ hb hd => (.cons (hdq hd 37 10 rfl) .nil)) (fun _ => rfl) (fun γ => ?_)
         refine JQ.at ⟨[(10, ov (S rB v_57))], [cvar gb_6 (rV 16 (rU UInt64)) a_3, cvar gb_7 (rV 16 (rU UInt64)) a_4, cvar gb_36 (rV 16 (rU UInt64)) v_34, cvar gb_39 (rV 16 (rU UInt64)) v_37], []⟩ ?_
         replace hx25 := Option.some.inj hx25
         first | subst hx25 | clear hx25
         exact JQ.join () (Imp.norm (js := []) rfl (.cons rfl .nil))
     · replace hx7 := bnd_inv hx7
       obtain ⟨x_20, hx8, hq8⟩ := hx7
       refine JC.seqJ (γ := Unit) (stj := fun q => ⟨[(0, ov (S (rL (rU UInt8)) t_1)), (1, ov (S rS a_2)), (4, ov (S (rL (rU UInt8)) a_5)), (7, ov (PTR gb_6 0)), (8, ov (PTR gb_7 0)), (11, ov (HDR go_15 0 (List.length v_13) gc_16)), (12, ov (S (rI .i64) v_14)), (38, ov (S rB x_20))], [cvar gb_6 (rV 16 (rU UInt64)) a_3, cvar gb_7 (rV 16 (rU UInt64)) a_4, cown go_15 (rU UInt8) v_13 (List.length v_13) gc_16], []⟩) (fun q => ?_) ?_
       · obtain _ := q
         refine JC.at ⟨[(0, ov (S (rL (rU UInt8)) t_1)), (1, ov (S rS a_2)), (4, ov (S (rL (rU UInt8)) a_5)), (7, ov (PTR gb_6 0)), (8, ov (PTR gb_7 0)), (11, ov (HDR go_15 0 (List.length v_13) gc_16)), (12, ov (S (rI .i64) v_14)), (38, ov (S rB x_20))], [cvar gb_6 (rV 16 (rU UInt64)) a_3, cvar gb_7 (rV 16 (rU UInt64)) a_4, cown go_15 (rU UInt8) v_13 (List.length v_13) gc_16], []⟩ ?_
         replace hq8 := iteB_inv hq8
         rcases hq8 with ⟨hc12, hq8⟩ | ⟨hc12, hq8⟩
         · refine JC.condT (.tmp rfl) hc12 ?_
           replace hq8 := bnd_inv hq8
           obtain ⟨x_28, hx13, hq13⟩ := hq8
           refine JC.seqJ (γ := Unit) (stj := fun q => ⟨[(0, ov (S (rL (rU UInt8)) t_1)), (1, ov (S rS a_2)), (4, ov (S (rL (rU UInt8)) a_5)), (7, ov (PTR gb_6 0)), (8, ov (PTR gb_7 0)), (51, ov (S rB x_28))], [cvar gb_6 (rV 16 (rU UInt64)) a_3, cvar gb_7 (rV 16 (rU UInt64)) a_4], []⟩) (fun q => ?_) ?_
           · obtain _ := q
             refine JC.at ⟨[(0, ov (S (rL (rU UInt8)) t_1)), (1, ov (S rS a_2)), (4, ov (S (rL (rU UInt8)) a_5)), (7, ov (PTR gb_6 0)), (8, ov (PTR gb_7 0)), (51, ov (S rB x_28))], [cvar gb_6 (rV 16 (rU UInt64)) a_3, cvar gb_7 (rV 16 (rU UInt64)) a_4], []⟩ ?_
             replace hq13 := iteB_inv hq13
             rcases hq13 with ⟨hc18, hq13⟩ | ⟨hc18, hq13⟩
             · refine JC.condT (.tmp rfl) hc18 ?_
               refine JC.seq ?_
               refine JC.region ?_
               refine jc (op_assign lb .cB) ?_
               refine JL.nil ?_
               refine JQ.then ?_
               refine JC.ret ?_
               replace hq13 := Option.some.inj hq13
               first | subst hq13 | clear hq13
               dsimp only at hq7
               refine JQ.outR ?_
               replace hq7 := Option.some.inj hq7
               subst hq7
               exact JQ.done (js := []) (ss := [.val (S rB false)]) () (.inl rfl) (.nil rfl) rfl (.cons (.tmp rfl) .nil) rfl rfl rfl
             · refine JC.condF (.tmp rfl) hc18 ?_
               refine JC.skip ?_
               replace hq13 := Option.some.inj hq13
               first | subst hq13 | clear hq13
               exact JQ.joinK () () rfl (Imp.norm (js := [0, 0]) rfl (.cons rfl (.cons rfl (.cons rfl (.cons rfl (.cons rfl .nil))))))
           · replace hx13 := bnd_inv hx13
             obtain ⟨v_21, hv_v_21, hx13⟩ := hx13
             replace hx13 := lt1_inv hx13
             obtain ⟨v_24, hv_v_24, hx13⟩ := hx13
             replace hx13 := bnd_inv hx13
             obtain ⟨_, hv_u_25, hx13⟩ := hx13
             replace hx13 := lt1_inv hx13
             obtain ⟨v_26, hv_v_26, hx13⟩ := hx13
             replace hx13 := lt1_inv hx13
             obtain ⟨v_27, hv_v_27, hx13⟩ := hx13
             refine JC.anyE (kl := []) (kk := 0) (base := [(0, ov (S (rL (rU UInt8)) t_1)), (1, ov (S rS a_2)), (4, ov (S (rL (rU UInt8)) a_5)), (7, ov (PTR gb_6 0)), (8, ov (PTR gb_7 0)), (11, ov (HDR go_15 0 (List.length v_13) gc_16)), (12, ov (S (rI .i64) v_14))])
                 (fs := fun γ => [⟨some 39, ov (HDR go_15 0 (List.length v_13) gc_16)⟩, ⟨some 40, ov (S rS v_13)⟩, ⟨some 41, ov (S (rL (rU UInt8)) t_1)⟩, ⟨some 42, ov (S rS a_2)⟩, ⟨some 43, ov (A (rV 16 (rU UInt64)) a_3)⟩, ⟨some 44, ov (HDR (deo (γ 5 0)) 0 (List.length v_21) (γ 5 1))⟩, ⟨some 45, ov (S rS v_21)⟩, ⟨some 46, ov (S rB v_24)⟩, ⟨some 47, ov (S rB v_24)⟩, ⟨some 48, bif (!v_24) then ov (S (rI .i64) v_14) else .one .und⟩, ⟨some 49, bif (!v_24) then ov (S (rI .i64) v_14) else .one .und⟩, ⟨some 50, bif (!v_24) then ov (S rB v_26) else .one .und⟩, ⟨some 51, ov (S rB v_27)⟩])
                 (rs := fun γ => [⟨cvar gb_6 (rV 16 (rU UInt64)) a_3, none, none, [4]⟩, ⟨cvar gb_7 (rV 16 (rU UInt64)) a_4, none, none, []⟩, ⟨cown go_15 (rU UInt8) v_13 (List.length v_13) gc_16, none, none, [1]⟩, ⟨cown (deo (γ 5 0)) (rU UInt8) v_21 0 (γ 5 1), (some 5), none, [6]⟩])
                 (ds := [39, 40, 41, 42, 43, 44, 45, 46, 47, 48, 49, 50, 51]) (bs := [0, 1, 4, 7, 8, 11, 12]) (afts := [[], [], [], [], [], [5, 6, 7, 8, 9, 10, 11, 12], [], [], [], [], [], [], []]) (js := [0, 0, 0]) mixed (.cons rfl (.cons rfl (.cons rfl (.cons rfl (.cons rfl (.cons rfl (.cons rfl .nil))))))) (fun _ => rfl)
                 (by
      refine dS 1 (fun γ ρ B hb hd => op_move lb (.tmp (hb 11 _ rfl))) ?_
      refine DSteps.cons (j := 2) rfl (fun _ => rfl) (.run (fun γ ρ B hb hd => ⟨.none, OpStep.at ⟨ρ, (cown go_15 (rU UInt8) v_13 (List.length v_13) gc_16) :: B, _⟩ (setO ⟨ρ, (cown go_15 (rU UInt8) v_13 (List.length v_13) gc_16) :: B, _⟩ _ _) (op_convOS (j := 0) lb tu22 tu5 tu9 rfl (.tmp (hl hd 0 39 rfl)))⟩)) ?_
      refine dS 3 (fun γ ρ B hb hd => op_move lb (.tmp (hb 0 _ rfl))) ?_
      refine dS 4 (fun γ ρ B hb hd => op_move lb (.tmp (hb 1 _ rfl))) ?_
      refine DSteps.cons (j := 5) rfl (fun _ => rfl) (.run (fun γ ρ B hb hd => ⟨.none, OpStep.at ⟨ρ, (cvar gb_6 (rV 16 (rU UInt64)) a_3) :: B, _⟩ (setO ⟨ρ, (cvar gb_6 (rV 16 (rU UInt64)) a_3) :: B, _⟩ _ _) (op_loadA (j := 0) lb tA25 (.tmp (hb 7 _ rfl)) rfl (Comp.self (rV 16 (rU UInt64)) a_3) rfl)⟩)) ?_
      refine DSteps.cons (j := 6) rfl (fun _ => rfl) (.runX (fun _ _ => rfl) (fun γ ρ B hb hd => ⟨.none, OpX.ghost (γ := Option Nat × Nat) (st' := fun q => setO ⟨ρ, (cown q.1 (rU UInt8) v_21 0 q.2) :: B, _⟩ (some 44) (ov (HDR q.1 0 (List.length v_21) q.2))) (fun q c => bif Nat.beq c 0 then eno q.1 else q.2) (op_call (js := []) ld cl12 (sim_ref10_Bytes k t_1 a_2 a_3 v_21 hv_v_21) .func (.cons (.tmp (hl hd 2 41 rfl)) (.cons (.tmp (hl hd 3 42 rfl)) (.cons (.tmp (hl hd 4 43 rfl)) .nil))) rfl) (fun q => by obtain ⟨q0, q1⟩ := q; cases q0 <;> exact Imp.refl)⟩) (fun _ _ => rfl) (fun _ _ => rfl)) ?_
      refine DSteps.cons (j := 7) rfl (fun _ => rfl) (.run (fun γ ρ B hb hd => ⟨.none, OpStep.at ⟨ρ, (cown (deo (γ 5 0)) (rU UInt8) v_21 0 (γ 5 1)) :: B, _⟩ (setO ⟨ρ, (cown (deo (γ 5 0)) (rU UInt8) v_21 0 (γ 5 1)) :: B, _⟩ _ _) (op_convOS (j := 0) lb tu22 tu5 tu9 rfl (.tmp (hl hd 5 44 rfl)))⟩)) ?_
      refine dS 8 (fun γ ρ B hb hd => op_cmpS lb (.tmp (hl hd 1 40 rfl)) (.tmp (hl hd 6 45 rfl)) (congrArg some hv_v_24)) ?_
      refine dS 9 (fun γ ρ B hb hd => op_move lb (.tmp (hl hd 7 46 rfl))) ?_
      refine dC 10 (!v_24) (fun γ => ov (S (rI .i64) v_14)) (fun γ ρ B hb hd => ⟨(Guard.isF (ltB rfl) rfl (hl hd 8 47 rfl)), fun hq_14 => op_move lb (.tmp (hb 12 _ rfl))⟩) ?_
      refine dC 11 (!v_24) (fun γ => ov (S (rI .i64) v_14)) (fun γ ρ B hb hd => ⟨(Guard.isF (ltB rfl) rfl (hl hd 8 47 rfl)), fun hq_15 => (op_call (js := []) ld cl8 (sim_law10_num k v_14 () (ifT hv_u_25 hq_15)) .func (.cons (HasO.cnd (.tmp (hl hd 9 48 rfl)) (notT (notF hq_15))) .nil) rfl).post (fun _ => Imp.refl)⟩) ?_
      refine dC 12 (!v_24) (fun γ => ov (S rB v_26)) (fun γ ρ B hb hd => ⟨(Guard.isF (ltB rfl) rfl (hl hd 8 47 rfl)), fun hq_16 => op_cmpI lb (HasO.cnd (.tmp (hl hd 10 49 rfl)) (notT (notF hq_16))) .cI (congrArg some hv_v_26)⟩) ?_
      refine dS 13 (fun γ ρ B hb hd => op_pickCS lb (.tmp (hl hd 8 47 rfl)) (fun hb17 => .cB) (fun hb17 => (HasO.cnd (.tmp (hl hd 11 50 rfl)) (notT hb17))) hv_v_27) ?_
      exact DSteps.nil)
                 (by decide +kernel) (fun _ => rfl) rfl (fun _ => rfl) (fun _ => rfl) rfl (by decide) (by decide) (by decide +kernel) (fun _ d h => by cases h)
                 (ρ' := fun γ => [(0, ov (S (rL (rU UInt8)) t_1)), (1, ov (S rS a_2)), (4, ov (S (rL (rU UInt8)) a_5)), (7, ov (PTR gb_6 0)), (8, ov (PTR gb_7 0)), (51, ov (S rB v_27))])
                 (X' := fun γ => [cvar gb_6 (rV 16 (rU UInt64)) a_3, cvar gb_7 (rV 16 (rU UInt64)) a_4, cown go_15 (rU UInt8) v_13 (List.length v_13) gc_16, cown (deo (γ 5 0)) (rU UInt8) v_21 0 (γ 5 1)])
                 (fun γ ρ hb hd => (.cons (hb 0 _ rfl (by decide)) (.cons (hb 1 _ rfl (by decide)) (.cons (hb 4 _ rfl (by decide)) (.cons (hb 7 _ rfl (by decide)) (.cons (hb 8 _ rfl (by decide)) (.cons (hdq hd 12 51 rfl) .nil))))))) (fun _ => rfl) (fun γ => ?_)
             generalize (deo (γ 5 0)) = go_22
             generalize (γ 5 1) = gc_23
             clear γ
             refine JQ.at ⟨[(0, ov (S (rL (rU UInt8)) t_1)), (1, ov (S rS a_2)), (4, ov (S (rL (rU UInt8)) a_5)), (7, ov (PTR gb_6 0)), (8, ov (PTR gb_7 0)), (51, ov (S rB v_27))], [cvar gb_6 (rV 16 (rU UInt64)) a_3, cvar gb_7 (rV 16 (rU UInt64)) a_4, cown go_15 (rU UInt8) v_13 (List.length v_13) gc_16, cown go_22 (rU UInt8) v_21 0 gc_23], []⟩ ?_
             replace hx13 := Option.some.inj hx13
             first | subst hx13 | clear hx13
             exact JQ.join () (Imp.norm (js := [0, 0]) rfl (.cons rfl (.cons rfl (.cons rfl (.cons rfl (.cons rfl (.cons rfl .nil)))))))
         · refine JC.condF (.tmp rfl) hc12 ?_
           replace hq8 := bnd_inv hq8
           obtain ⟨x_33, hx19, hq19⟩ := hq8
           refine JC.seqJ (γ := Unit) (stj := fun q => ⟨[(0, ov (S (rL (rU UInt8)) t_1)), (1, ov (S rS a_2)), (4, ov (S (rL (rU UInt8)) a_5)), (7, ov (PTR gb_6 0)), (8, ov (PTR gb_7 0)), (59, ov (S rB x_33))], [cvar gb_6 (rV 16 (rU UInt64)) a_3, cvar gb_7 (rV 16 (rU UInt64)) a_4], []⟩) (fun q => ?_) ?_
           · obtain _ := q
             refine JC.at ⟨[(0, ov (S (rL (rU UInt8)) t_1)), (1, ov (S rS a_2)), (4, ov (S (rL (rU UInt8)) a_5)), (7, ov (PTR gb_6 0)), (8, ov (PTR gb_7 0)), (59, ov (S rB x_33))], [cvar gb_6 (rV 16 (rU UInt64)) a_3, cvar gb_7 (rV 16 (rU UInt64)) a_4], []⟩ ?_
             replace hq19 := iteB_inv hq19
             rcases hq19 with ⟨hc24, hq19⟩ | ⟨hc24, hq19⟩
             · refine JC.condT (.tmp rfl) hc24 ?_
               refine JC.seq ?_
               refine JC.region ?_
               refine jc (op_assign lb .cB) ?_
               refine JL.nil ?_
               refine JQ.then ?_
               refine JC.ret ?_
               replace hq19 := Option.some.inj hq19
               first | subst hq19 | clear hq19
               dsimp only at hq7
               refine JQ.outR ?_
               replace hq7 := Option.some.inj hq7
               subst hq7
               exact JQ.done (js := []) (ss := [.val (S rB false)]) () (.inl rfl) (.nil rfl) rfl (.cons (.tmp rfl) .nil) rfl rfl rfl
             · refine JC.condF (.tmp rfl) hc24 ?_
               refine JC.skip ?_
               replace hq19 := Option.some.inj hq19
               first | subst hq19 | clear hq19
               exact JQ.joinK () () rfl (Imp.norm (js := [0, 0]) rfl (.cons rfl (.cons rfl (.cons rfl (.cons rfl (.cons rfl .nil))))))
           · refine JC.region ?_
             refine jc (op_move lb (.tmp rfl)) ?_
             refine jc (op_lenH lb tu22 (.tmp rfl)) ?_
             replace hx19 := lt1_inv hx19
             obtain ⟨v_29, hv_v_29, hx19⟩ := hx19
             refine jc (op_cmpI lb (.tmp rfl) .cI (congrArg some hv_v_29)) ?_
             refine jc (op_move lb (.tmp rfl)) ?_
             refine JL.cnd (sv := ov (S (rI .i64) v_14)) (Guard.isF (ltB rfl) rfl rfl) rfl (ltB rfl) (fun hq_20 => op_move lb (.tmp rfl)) ?_
             replace hx19 := bnd_inv hx19
             obtain ⟨_, hv_u_30, hx19⟩ := hx19
             refine JL.cnd (sv := ov (S (rI .i64) v_14)) (Guard.isF (ltB rfl) rfl rfl) rfl (ltB rfl) (fun hq_21 => (op_call (js := []) ld cl8 (sim_law10_num k v_14 () (ifT hv_u_30 hq_21)) .func (.cons (HasO.cnd (.tmp rfl) (notT (notF hq_21))) .nil) rfl).post (fun _ => Imp.refl)) ?_
             replace hx19 := lt1_inv hx19
             obtain ⟨v_31, hv_v_31, hx19⟩ := hx19
             refine JL.cnd (sv := ov (S rB v_31)) (Guard.isF (ltB rfl) rfl rfl) rfl (ltB rfl) (fun hq_22 => op_cmpI lb (HasO.cnd (.tmp rfl) (notT (notF hq_22))) .cI (congrArg some hv_v_31)) ?_
             replace hx19 := lt1_inv hx19
             obtain ⟨v_32, hv_v_32, hx19⟩ := hx19
             refine jc (op_pickCS lb (.tmp rfl) (fun hb23 => .cB) (fun hb23 => (HasO.cnd (.tmp rfl) (notT hb23))) hv_v_32) ?_
             refine JL.nil ?_
             replace hx19 := Option.some.inj hx19
             first | subst hx19 | clear hx19
             exact JQ.join () (Imp.norm (js := [0, 0]) rfl (.cons rfl (.cons rfl (.cons rfl (.cons rfl (.cons rfl (.cons rfl .nil)))))))
       · refine JC.region ?_
         refine jc (op_move lb (.tmp rfl)) ?_
         refine JL.sub ⟨[(0, ov (S (rL (rU UInt8)) t_1)), (1, ov (S rS a_2)), (4, ov (S (rL (rU UInt8)) a_5)), (7, ov (PTR gb_6 0)), (8, ov (PTR gb_7 0)), (11, ov (HDR go_15 0 (List.length v_13) gc_16)), (12, ov (S (rI .i64) v_14)), (33, ov (S rS a_2))], [cown go_15 (rU UInt8) v_13 (List.length v_13) gc_16, cvar gb_6 (rV 16 (rU UInt64)) a_3, cvar gb_7 (rV 16 (rU UInt64)) a_4], []⟩ rfl rfl rfl ?_
         replace hx8 := bnd_inv hx8
         obtain ⟨v_17, hv_v_17, hx8⟩ := hx8
         refine jx (op_call (js := []) ld cl10 (sim_ref09_MayName k a_2 v_17 hv_v_17) .func (.cons (.tmp rfl) .nil) rfl) (fun _ => ?_)
         refine jc (op_move lb (.tmp rfl)) ?_
         refine JL.cnd (sv := ov (A (rV 16 (rU UInt64)) a_3)) (Guard.isT (ltB rfl) rfl rfl) rfl (ltB rfl) (fun hq_9 => op_loadA (j := 1) lb tA25 (.tmp rfl) rfl (Comp.self (rV 16 (rU UInt64)) a_3) rfl) ?_
         replace hx8 := bnd_inv hx8
         obtain ⟨v_18, hv_v_18, hx8⟩ := hx8
         refine JL.cnd (sv := ov (S rB v_18)) (Guard.isT (ltB rfl) rfl rfl) rfl (ltB rfl) (fun hq_10 => (op_call (js := []) ld cl11 (sim_ref10_May k a_3 v_18 (ifT hv_v_18 hq_10)) .func (.cons (HasO.cnd (.tmp rfl) hq_10) .nil) rfl).post (fun _ => Imp.refl)) ?_
         replace hx8 := lt1_inv hx8
         obtain ⟨v_19, hv_v_19, hx8⟩ := hx8
         refine jc (op_pickCS lb (.tmp rfl) (fun hb11 => (HasO.cnd (.tmp rfl) hb11)) (fun hb11 => .cB) hv_v_19) ?_
         refine JL.nil ?_
         replace hx8 := Option.some.inj hx8
         first | subst hx8 | clear hx8
         exact JQ.join () (Imp.norm (js := [1, 1, 0]) rfl (.cons rfl (.cons rfl (.cons rfl (.cons rfl (.cons rfl (.cons rfl (.cons rfl (.cons rfl .nil)))))))))
 · refine JC.region ?_
   refine jc (op_move lb (.tmp rfl)) ?_
   refine jc (op_lenL lb tu22 (.tmp rfl)) ?_
   replace hx1 := lt1_inv hx1
   obtain ⟨v_8, hv_v_8, hx1⟩ := hx1
   refine jc (op_cmpI lb (.tmp rfl) .cI (congrArg some hv_v_8)) ?_
   refine jc (op_move lb (.tmp rfl)) ?_
   refine JL.cnd (sv := ov (S (rL (rU UInt8)) a_5)) (Guard.isF (ltB rfl) rfl rfl) rfl (ltB rfl) (fun hq_2 => op_move lb (.tmp rfl)) ?_
   refine JL.sub ⟨[(0, ov (S (rL (rU UInt8)) t_1)), (1, ov (S rS a_2)), (4, ov (S (rL (rU UInt8)) a_5)), (7, ov (PTR gb_6 0)), (8, ov (PTR gb_7 0)), (20, ov (S rB v_8)), (21, bif (!v_8) then ov (S (rL (rU UInt8)) a_5) else .one .und)], [cvar gb_6 (rV 16 (rU UInt64)) a_3, cvar gb_7 (rV 16 (rU UInt64)) a_4], []⟩ rfl rfl rfl ?_
   refine JL.cnd (sv := ov (S (rI .i64) (List.length a_5 : Int))) (Guard.isF (ltB rfl) rfl rfl) rfl (ltB rfl) (fun hq_3 => op_lenL lb tu22 (HasO.cnd (.tmp rfl) (notT (notF hq_3)))) ?_
   replace hx1 := lt1_inv hx1
   obtain ⟨v_9, hv_v_9, hx1⟩ := hx1
   refine JL.cnd (sv := ov (S rB v_9)) (Guard.isF (ltB rfl) rfl rfl) rfl (ltB rfl) (fun hq_4 => op_cmpI lb (HasO.cnd (.tmp rfl) (notT (notF hq_4))) .cI (congrArg some hv_v_9)) ?_
   replace hx1 := lt1_inv hx1
   obtain ⟨v_10, hv_v_10, hx1⟩ := hx1
   refine jc (op_pickCS lb (.tmp rfl) (fun hb5 => .cB) (fun hb5 => (HasO.cnd (.tmp rfl) (notT hb5))) hv_v_10) ?_
   refine JL.nil ?_
   replace hx1 := Option.some.inj hx1
   first | subst hx1 | clear hx1
   exact JQ.join () (Imp.norm (js := [0, 0]) rfl (.cons rfl (.cons rfl (.cons rfl (.cons rfl (.cons rfl (.cons rfl .nil)))))))

end Go.Proofs.Ytnhiiabdoichlaa
