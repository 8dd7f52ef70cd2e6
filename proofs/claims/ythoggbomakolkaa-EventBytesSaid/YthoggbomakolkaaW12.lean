/- Walks. -/
import Derived.Test.YthoggbomakolkaaT
import Derived.Test.YthoggbomakolkaaW0
import Derived.Test.YthoggbomakolkaaW1
namespace Go.Proofs.Ythoggbomakolkaa
open Go Fw
set_option linter.unusedVariables false
set_option maxRecDepth 100000
set_option maxHeartbeats 4000000

theorem sim_event_May'2 (k : Nat) (ID_1 : api_Dot) (Topic_2 : (List UInt8)) (o_3 : Nat) (n_4 : Nat) (Past_5 : (Vector UInt64 16)) (To_6 : (List api_Dest)) (x_7 : (List UInt8)) (go_8 : Option Nat) (gc_9 : Nat) (r : Bool) (hm : event_May'2 k ID_1 Topic_2 o_3 n_4 Past_5 To_6 x_7 = some r) : Sim Try.prog 17 [A (rP r_api_Dot (rP rS (rP (rW (HDX go_8 (o_3 * 1) n_4)) (rP (rV 16 (rU UInt64)) (rP (rL r_api_Dest) r0))))) (ID_1, (Topic_2, ((), (Past_5, (To_6, ())))))] [cown go_8 (rU UInt8) x_7 0 gc_9] (γ := Unit) (fun q => [cown go_8 (rU UInt8) x_7 0 gc_9]) (fun q => .one (.val (S rB r))) := by
 unfold event_May'2 at hm
 refine Sim.of Try.func17 rfl rfl (Nat.le_of_ble_eq_true rfl) (fun e0 w0 => ?_)
 refine JC.at ⟨[(0, ov (A (rP r_api_Dot (rP rS (rP (rW (HDX go_8 (o_3 * 1) n_4)) (rP (rV 16 (rU UInt64)) (rP (rL r_api_Dest) r0))))) (ID_1, (Topic_2, ((), (Past_5, (To_6, ())))))))], [cown go_8 (rU UInt8) x_7 0 gc_9], []⟩ ?_
 refine JC.seq ?_
 refine JC.region ?_
 refine jx (op_boxA lb (.tmp rfl)) (fun q => ?_)
 obtain ⟨gb_10, hqq⟩ : ∃ z, z = q := ⟨_, rfl⟩
 subst hqq
 refine jc (op_assign lb .cB) ?_
 refine JL.nil ?_
 refine JQ.then ?_
 refine JC.scope ?_
 refine JC.seq ?_
 replace hm := bnd_inv hm
 obtain ⟨x_20, hx1, hq1⟩ := hm
 refine JC.seqJ (γ := Unit) (stj := fun q => ⟨[(1, ov (PTR gb_10 0)), (29, ov (S rB x_20))], [cvar gb_10 (rP r_api_Dot (rP rS (rP (rW (HDX go_8 (o_3 * 1) n_4)) (rP (rV 16 (rU UInt64)) (rP (rL r_api_Dest) r0))))) (ID_1, (Topic_2, ((), (Past_5, (To_6, ()))))), cown go_8 (rU UInt8) x_7 0 gc_9], []⟩) (fun q => ?_) ?_
 · obtain _ := q
   refine JC.at ⟨[(1, ov (PTR gb_10 0)), (29, ov (S rB x_20))], [cvar gb_10 (rP r_api_Dot (rP rS (rP (rW (HDX go_8 (o_3 * 1) n_4)) (rP (rV 16 (rU UInt64)) (rP (rL r_api_Dest) r0))))) (ID_1, (Topic_2, ((), (Past_5, (To_6, ()))))), cown go_8 (rU UInt8) x_7 0 gc_9], []⟩ ?_
   replace hq1 := iteB_inv hq1
   rcases hq1 with ⟨hc6, hq1⟩ | ⟨hc6, hq1⟩
   · refine JC.condT (.tmp rfl) hc6 ?_
     refine JC.seq ?_
     refine JC.region ?_
     refine jc (op_assign lb .cB) ?_
     refine JL.nil ?_
     refine JQ.then ?_
     refine JC.ret ?_
     refine JQ.outR ?_
     refine JQ.scR ?_
     replace hq1 := Option.some.inj hq1
     subst hq1
     exact JQ.done (js := [1]) (ss := [.val (S rB false)]) () (.inl rfl) (.nil rfl) rfl (.cons (.tmp rfl) .nil) rfl rfl rfl
   · refine JC.condF (.tmp rfl) hc6 ?_
     refine JC.skip ?_
     refine JQ.then ?_
     refine JC.seq ?_
     replace hq1 := bnd_inv hq1
     obtain ⟨x_25, hx7, hq7⟩ := hq1
     refine JC.seqJ (γ := Unit) (stj := fun q => ⟨[(1, ov (PTR gb_10 0)), (45, ov (S rB x_25))], [cvar gb_10 (rP r_api_Dot (rP rS (rP (rW (HDX go_8 (o_3 * 1) n_4)) (rP (rV 16 (rU UInt64)) (rP (rL r_api_Dest) r0))))) (ID_1, (Topic_2, ((), (Past_5, (To_6, ()))))), cown go_8 (rU UInt8) x_7 0 gc_9], []⟩) (fun q => ?_) ?_
     · obtain _ := q
       refine JC.at ⟨[(1, ov (PTR gb_10 0)), (45, ov (S rB x_25))], [cvar gb_10 (rP r_api_Dot (rP rS (rP (rW (HDX go_8 (o_3 * 1) n_4)) (rP (rV 16 (rU UInt64)) (rP (rL r_api_Dest) r0))))) (ID_1, (Topic_2, ((), (Past_5, (To_6, ()))))), cown go_8 (rU UInt8) x_7 0 gc_9], []⟩ ?_
       replace hq7 := iteB_inv hq7
       rcases hq7 with ⟨hc12, hq7⟩ | ⟨hc12, hq7⟩
       · refine JC.condT (.tmp rfl) hc12 ?_
         refine JC.seq ?_
         refine JC.region ?_
         refine jc (op_assign lb .cB) ?_
         refine JL.nil ?_
         refine JQ.then ?_
         refine JC.ret ?_
         refine JQ.outR ?_
         refine JQ.scR ?_
         replace hq7 := Option.some.inj hq7
         subst hq7
         exact JQ.done (js := [1]) (ss := [.val (S rB false)]) () (.inl rfl) (.nil rfl) rfl (.cons (.tmp rfl) .nil) rfl rfl rfl
       · refine JC.condF (.tmp rfl) hc12 ?_
         refine JC.skip ?_
         refine JQ.then ?_
         refine JC.seq ?_
         refine JC.region ?_
         refine jc (op_assign lb .cB) ?_
         refine JL.nil ?_
         refine JQ.then ?_
         refine JC.seq ?_
         refine JC.label ?_
         refine JQ.then ?_
         replace hq7 := bnd_inv hq7
         obtain ⟨x_40, hx13, hq13⟩ := hq7
         refine JC.seqJ (γ := Unit) (stj := fun q => ⟨[(3, ov (S rB x_40))], [cown go_8 (rU UInt8) x_7 0 gc_9], []⟩) (fun q => ?_) ?_
         · obtain _ := q
           refine JC.at ⟨[(3, ov (S rB x_40))], [cown go_8 (rU UInt8) x_7 0 gc_9], []⟩ ?_
           refine JC.seq ?_
           refine JC.region ?_
           refine jc (op_move lb (.tmp rfl)) ?_
           refine jc (op_assign lb (.tmp rfl)) ?_
           refine JL.nil ?_
           refine JQ.then ?_
           refine JC.ret ?_
           refine JQ.scR ?_
           replace hq13 := Option.some.inj hq13
           subst hq13
           exact JQ.done (js := [0]) (ss := [.val (S rB x_40)]) () (.inl rfl) (.nil rfl) rfl (.cons (.tmp rfl) .nil) rfl rfl rfl
         · refine JC.seq ?_
           refine JC.region ?_
           refine jc (op_fieldAddr (off := 20) lb tf38_4 (.tmp rfl)) ?_
           refine jc (op_loadS (j := 0) lb tS36 (.tmp rfl) rfl (Comp.trans (Comp.self (rP r_api_Dot (rP rS (rP (rW (HDX go_8 (o_3 * 1) n_4)) (rP (rV 16 (rU UInt64)) (rP (rL r_api_Dest) r0))))) (ID_1, (Topic_2, ((), (Past_5, (To_6, ())))))) (Comp.at' (Comp.inS (Comp.inS (Comp.inS (Comp.inS (Comp.inF (Comp.self (rL r_api_Dest) To_6) (Nat.le_of_ble_eq_true rfl)))))) (by rfl : _ = 20)) (Nat.le_of_ble_eq_true rfl)) rfl rfl) ?_
           refine jc (op_lenL lb tu36 (.tmp rfl)) ?_
           refine jc (op_move lb .cI) ?_
           refine JL.nil ?_
           refine JQ.then ?_
           refine JC.block ?_
           refine JC.pre ?_ (JC.loop (γ := Unit) (stf := fun s q => ⟨[(1, ov (PTR gb_10 0)), (3, ov (S rB s.1)), (47, ov (S (rL r_api_Dest) To_6)), (48, ov (S (rI .i64) (List.length To_6 : Int))), (49, ov (S (rI .i64) s.2))], [cvar gb_10 (rP r_api_Dot (rP rS (rP (rW (HDX go_8 (o_3 * 1) n_4)) (rP (rV 16 (rU UInt64)) (rP (rL r_api_Dest) r0))))) (ID_1, (Topic_2, ((), (Past_5, (To_6, ()))))), cown go_8 (rU UInt8) x_7 0 gc_9], []⟩) (q := ()) hx13 ?_)
           · exact (Imp.norm (js := [0, 0]) rfl (.cons rfl (.cons rfl (.cons rfl (.cons rfl (.cons rfl .nil))))))
           · intro s q x hx hr
             obtain ⟨x_26, x_27⟩ := s
             obtain _ := q
             change event_May'2.b1 k To_6 x_26 x_27 = some x at hx
             unfold event_May'2.b1 at hx
             refine JC.at ⟨[(1, ov (PTR gb_10 0)), (3, ov (S rB x_26)), (47, ov (S (rL r_api_Dest) To_6)), (48, ov (S (rI .i64) (List.length To_6 : Int))), (49, ov (S (rI .i64) x_27))], [cvar gb_10 (rP r_api_Dot (rP rS (rP (rW (HDX go_8 (o_3 * 1) n_4)) (rP (rV 16 (rU UInt64)) (rP (rL r_api_Dest) r0))))) (ID_1, (Topic_2, ((), (Past_5, (To_6, ()))))), cown go_8 (rU UInt8) x_7 0 gc_9], []⟩ ?_
             refine JC.seq ?_
             refine JC.region ?_
             replace hx := lt1_inv hx
             obtain ⟨v_28, hv_v_28, hx⟩ := hx
             refine jc (op_cmpI lb (.tmp rfl) (.tmp rfl) (congrArg some hv_v_28)) ?_
             refine JL.nil ?_
             refine JQ.then ?_
             refine JC.seq ?_
             replace hx := iteB_inv hx
             rcases hx with ⟨hc15, hx⟩ | ⟨hc15, hx⟩
             · refine JC.condT (.tmp rfl) hc15 ?_
               refine JC.skip ?_
               refine JQ.then ?_
               refine JC.seq ?_
               refine JC.block ?_
               refine JC.seq ?_
               refine JC.region ?_
               refine jc (op_move lb (.tmp rfl)) ?_
               replace hx := bnd_inv hx
               obtain ⟨v_29, hv_v_29, hx⟩ := hx
               refine jc (op_indexAddrLg lb tu36 tz59 (.tmp rfl) (.tmp rfl) hv_v_29) ?_
               refine jc (op_loadPAg lb tA59 (.tmp rfl) rfl) ?_
               refine jx (op_alloc lb tZ59 zr59) (fun q => ?_)
               obtain ⟨gb_30, hqq⟩ : ∃ z, z = q := ⟨_, rfl⟩
               subst hqq
               refine jc (op_assign lb (.tmp rfl)) ?_
               refine jc (op_storeA (j := 2) tA59 (.tmp rfl) (.tmp rfl) rfl (UpdR.self (by rfl)) rfl) ?_
               refine JL.nil ?_
               refine JQ.then ?_
               replace hx := bnd_inv hx
               obtain ⟨x_37, hx16, hq16⟩ := hx
               refine JC.seqJ (γ := Unit) (stj := fun q => ⟨[(1, ov (PTR gb_10 0)), (3, ov (S rB x_37)), (47, ov (S (rL r_api_Dest) To_6)), (48, ov (S (rI .i64) (List.length To_6 : Int))), (49, ov (S (rI .i64) x_27))], [cvar gb_10 (rP r_api_Dot (rP rS (rP (rW (HDX go_8 (o_3 * 1) n_4)) (rP (rV 16 (rU UInt64)) (rP (rL r_api_Dest) r0))))) (ID_1, (Topic_2, ((), (Past_5, (To_6, ()))))), cown go_8 (rU UInt8) x_7 0 gc_9], []⟩) (fun q => ?_) ?_
               · obtain _ := q
                 refine JC.at ⟨[(1, ov (PTR gb_10 0)), (3, ov (S rB x_37)), (47, ov (S (rL r_api_Dest) To_6)), (48, ov (S (rI .i64) (List.length To_6 : Int))), (49, ov (S (rI .i64) x_27))], [cvar gb_10 (rP r_api_Dot (rP rS (rP (rW (HDX go_8 (o_3 * 1) n_4)) (rP (rV 16 (rU UInt64)) (rP (rL r_api_Dest) r0))))) (ID_1, (Topic_2, ((), (Past_5, (To_6, ()))))), cown go_8 (rU UInt8) x_7 0 gc_9], []⟩ ?_
                 refine JC.seq ?_
                 refine JC.region ?_
                 refine jc (op_move lb (.tmp rfl)) ?_
                 replace hq16 := lt1_inv hq16
                 obtain ⟨v_38, hv_v_38, hq16⟩ := hq16
                 refine jc (op_not lb (.tmp rfl) hv_v_38) ?_
                 refine JL.nil ?_
                 refine JQ.then ?_
                 replace hq16 := iteB_inv hq16
                 rcases hq16 with ⟨hc26, hq16⟩ | ⟨hc26, hq16⟩
                 · refine JC.condT (.tmp rfl) hc26 ?_
                   refine JC.exit ?_
                   refine JQ.outE (by decide) ?_
                   refine JQ.outX ?_
                   replace hq16 := Option.some.inj hq16
                   first | subst hq16 | clear hq16
                   have ht := hr _ rfl
                   have hq14 := congrArg some ht
                   clear hr ht
                   refine JQ.outX ?_
                   refine JQ.here ?_
                   replace hq14 := Option.some.inj hq14
                   first | subst hq14 | clear hq14
                   exact JQ.join () (Imp.norm (js := [1]) rfl (.cons rfl .nil))
                 · refine JC.condF (.tmp rfl) hc26 ?_
                   refine JC.skip ?_
                   refine JQ.outNB ?_
                   refine JQ.then ?_
                   refine JC.region ?_
                   replace hq16 := lt1_inv hq16
                   obtain ⟨v_39, hv_v_39, hq16⟩ := hq16
                   refine jc (op_arI lb (.tmp rfl) .cI (congrArg some hv_v_39)) ?_
                   refine jc (op_move lb (.tmp rfl)) ?_
                   refine JL.nil ?_
                   replace hq16 := Option.some.inj hq16
                   first | subst hq16 | clear hq16
                   exact JQ.next () rfl (Imp.norm (js := [0, 0]) rfl (.cons rfl (.cons rfl (.cons rfl (.cons rfl (.cons rfl .nil))))))
               · replace hx16 := bnd_inv hx16
                 obtain ⟨v_31, hv_v_31, hx16⟩ := hx16
                 replace hx16 := iteB_inv hx16
                 rcases hx16 with ⟨hc18, hx16⟩ | ⟨hc18, hx16⟩
                 · replace hx16 := bnd_inv hx16
                   obtain ⟨v_32, hv_v_32, hx16⟩ := hx16
                   replace hx16 := lt1_inv hx16
                   obtain ⟨v_33, hv_v_33, hx16⟩ := hx16
                   replace hx16 := iteB_inv hx16
                   rcases hx16 with ⟨hc23, hx16⟩ | ⟨hc23, hx16⟩
                   · replace hx16 := iteB_inv hx16
                     rcases hx16 with ⟨hc25, hx16⟩ | ⟨hc25, hx16⟩
                     · refine JC.anyE (kl := []) (kk := 0) (base := [(1, ov (PTR gb_10 0)), (4, ov (S (rI .i64) x_27)), (5, ov (PTR gb_30 0)), (47, ov (S (rL r_api_Dest) To_6)), (48, ov (S (rI .i64) (List.length To_6 : Int))), (49, ov (S (rI .i64) x_27))])
                           (fs := fun γ => [⟨some 54, ov (PTR gb_30 (0 + 0))⟩, ⟨some 55, ov (A r_api_Dot v_29.Dot)⟩, ⟨some 56, ov (S rB v_31)⟩, ⟨some 57, ov (S rB v_31)⟩, ⟨some 58, ov (PTR gb_30 (0 + 2))⟩, ⟨some 59, ov (S rS v_29.Device)⟩, ⟨some 60, ov (S rB v_32)⟩, ⟨some 61, ov (S rB v_32)⟩, ⟨some 62, ov (S rB v_32)⟩, ⟨some 63, bif v_32 then ov (S (rI .i64) x_27) else .one .und⟩, ⟨some 64, bif v_32 then ov (S rB v_33) else .one .und⟩, ⟨some 65, bif v_32 then ov (S rB v_33) else .one .und⟩, ⟨some 66, .one .und⟩, ⟨some 67, .one .und⟩, ⟨some 68, .one .und⟩, ⟨some 69, .one .und⟩, ⟨some 70, .one .und⟩, ⟨some 71, .one .und⟩, ⟨some 72, .one .und⟩, ⟨some 73, .one .und⟩, ⟨some 74, .one .und⟩, ⟨some 75, .one .und⟩, ⟨some 76, ov (S rB true)⟩, ⟨some 77, ov (S rB true)⟩, ⟨some 3, ov (S rB true)⟩])
                           (rs := fun γ => [⟨cvar gb_10 (rP r_api_Dot (rP rS (rP (rW (HDX go_8 (o_3 * 1) n_4)) (rP (rV 16 (rU UInt64)) (rP (rL r_api_Dest) r0))))) (ID_1, (Topic_2, ((), (Past_5, (To_6, ()))))), none, none, []⟩, ⟨cown go_8 (rU UInt8) x_7 0 gc_9, none, none, []⟩, ⟨cvar gb_30 r_api_Dest v_29, none, none, [1, 5]⟩])
                           (ds := [54, 55, 56, 57, 58, 59, 60, 61, 62, 63, 64, 65, 66, 67, 68, 69, 70, 71, 72, 73, 74, 75, 76, 77, 3]) (bs := [1, 4, 5, 47, 48, 49]) (afts := [[], [], [], [], [], [], [], [], [], [], [], [], [], [], [], [], [], [], [], [], [], [], [], [], []]) (js := [0, 0, 0]) mixed (.cons rfl (.cons rfl (.cons rfl (.cons rfl (.cons rfl (.cons rfl .nil)))))) (fun _ => rfl)
                           (by
      refine dS 1 (fun γ ρ B hb hd => op_fieldAddr (off := 0) lb tf59_0 (.tmp (hb 5 _ rfl))) ?_
      refine DSteps.cons (j := 2) rfl (fun _ => rfl) (.run (fun γ ρ B hb hd => ⟨.none, OpStep.at ⟨ρ, (cvar gb_30 r_api_Dest v_29) :: B, _⟩ (setO ⟨ρ, (cvar gb_30 r_api_Dest v_29) :: B, _⟩ _ _) (op_loadA (j := 0) lb tA24 (.tmp (hl hd 0 54 rfl)) rfl (Comp.trans (Comp.self r_api_Dest v_29) (comp_api_Dest_Dot v_29) (Nat.le_of_ble_eq_true rfl)) rfl)⟩)) ?_
      refine dS 3 (fun γ ρ B hb hd => (op_call (js := []) ld cl27 (sim_event_MayDot k v_29.Dot v_31 hv_v_31) .func (.cons (.tmp (hl hd 1 55 rfl)) .nil) rfl).post (fun _ => Imp.refl)) ?_
      refine dS 4 (fun γ ρ B hb hd => op_move lb (.tmp (hl hd 2 56 rfl))) ?_
      refine DSteps.cons (j := 5) rfl (fun _ => rfl) (.run (fun γ ρ B hb hd => ⟨.yes rfl (ltB rfl) (hl hd 3 57 rfl) hc18, OpStep.at ⟨ρ, B, _⟩ (setO ⟨ρ, B, _⟩ _ _) (op_fieldAddr (off := 2) lb tf59_1 (.tmp (hb 5 _ rfl)))⟩)) ?_
      refine DSteps.cons (j := 6) rfl (fun _ => rfl) (.run (fun γ ρ B hb hd => ⟨.yes rfl (ltB rfl) (hl hd 3 57 rfl) hc18, OpStep.at ⟨ρ, (cvar gb_30 r_api_Dest v_29) :: B, _⟩ (setO ⟨ρ, (cvar gb_30 r_api_Dest v_29) :: B, _⟩ _ _) (op_loadS (j := 0) lb tS9 (.tmp (hl hd 4 58 rfl)) rfl (Comp.trans (Comp.self r_api_Dest v_29) (comp_api_Dest_Device v_29) (Nat.le_of_ble_eq_true rfl)) rfl rfl)⟩)) ?_
      refine DSteps.cons (j := 7) rfl (fun _ => rfl) (.run (fun γ ρ B hb hd => ⟨.yes rfl (ltB rfl) (hl hd 3 57 rfl) hc18, OpStep.at ⟨ρ, B, _⟩ (setO ⟨ρ, B, _⟩ _ _) ((op_call (js := []) ld cl30 (sim_event_MayName k v_29.Device v_32 hv_v_32) .func (.cons (.tmp (hl hd 5 59 rfl)) .nil) rfl).post (fun _ => Imp.refl))⟩)) ?_
      refine dS 8 (fun γ ρ B hb hd => op_pickT lb (.tmp (hl hd 3 57 rfl)) hc18 (.tmp (hl hd 6 60 rfl))) ?_
      refine dS 9 (fun γ ρ B hb hd => op_move lb (.tmp (hl hd 7 61 rfl))) ?_
      refine dC 10 v_32 (fun γ => ov (S (rI .i64) x_27)) (fun γ ρ B hb hd => ⟨(Guard.isT (ltB rfl) rfl (hl hd 8 62 rfl)), fun hq_19 => op_move lb (.tmp (hb 4 _ rfl))⟩) ?_
      refine dC 11 v_32 (fun γ => ov (S rB v_33)) (fun γ ρ B hb hd => ⟨(Guard.isT (ltB rfl) rfl (hl hd 8 62 rfl)), fun hq_20 => op_cmpI lb (HasO.cnd (.tmp (hl hd 9 63 rfl)) hq_20) .cI (congrArg some hv_v_33)⟩) ?_
      refine dC 12 v_32 (fun γ => ov (S rB v_33)) (fun γ ρ B hb hd => ⟨(Guard.isT (ltB rfl) rfl (hl hd 8 62 rfl)), fun hq_21 => op_move lb (HasO.cnd (.tmp (hl hd 10 64 rfl)) hq_21)⟩) ?_
      refine DSteps.cons (j := 13) rfl (fun _ => rfl) (.skip (fun γ ρ B hb hd => ⟨(Guard.eqB (Guard.cF (q := v_32) (ltB rfl) rfl (hl hd 11 65 rfl)) (andFR (notF' hc25))), rfl, rfl, rfl, fun d h => by cases h; exact ltB rfl⟩)) ?_
      refine DSteps.cons (j := 14) rfl (fun _ => rfl) (.skip (fun γ ρ B hb hd => ⟨(Guard.eqB (Guard.cF (q := v_32) (ltB rfl) rfl (hl hd 11 65 rfl)) (andFR (notF' hc25))), rfl, rfl, rfl, fun d h => by cases h; exact ltB rfl⟩)) ?_
      refine DSteps.cons (j := 15) rfl (fun _ => rfl) (.skip (fun γ ρ B hb hd => ⟨(Guard.eqB (Guard.cF (q := v_32) (ltB rfl) rfl (hl hd 11 65 rfl)) (andFR (notF' hc25))), rfl, rfl, rfl, fun d h => by cases h; exact ltB rfl⟩)) ?_
      refine DSteps.cons (j := 16) rfl (fun _ => rfl) (.skip (fun γ ρ B hb hd => ⟨(Guard.eqB (Guard.cF (q := v_32) (ltB rfl) rfl (hl hd 11 65 rfl)) (andFR (notF' hc25))), rfl, rfl, rfl, fun d h => by cases h; exact ltB rfl⟩)) ?_
      refine DSteps.cons (j := 17) rfl (fun _ => rfl) (.skip (fun γ ρ B hb hd => ⟨(Guard.eqB (Guard.cF (q := v_32) (ltB rfl) rfl (hl hd 11 65 rfl)) (andFR (notF' hc25))), rfl, rfl, rfl, fun d h => by cases h; exact ltB rfl⟩)) ?_
      refine DSteps.cons (j := 18) rfl (fun _ => rfl) (.skip (fun γ ρ B hb hd => ⟨(Guard.eqB (Guard.cF (q := v_32) (ltB rfl) rfl (hl hd 11 65 rfl)) (andFR (notF' hc25))), rfl, rfl, rfl, fun d h => by cases h; exact ltB rfl⟩)) ?_
      refine DSteps.cons (j := 19) rfl (fun _ => rfl) (.skip (fun γ ρ B hb hd => ⟨(Guard.eqB (Guard.cF (q := v_32) (ltB rfl) rfl (hl hd 11 65 rfl)) (andFR (notF' hc25))), rfl, rfl, rfl, fun d h => by cases h; exact ltB rfl⟩)) ?_
      refine DSteps.cons (j := 20) rfl (fun _ => rfl) (.skip (fun γ ρ B hb hd => ⟨(Guard.eqB (Guard.cF (q := v_32) (ltB rfl) rfl (hl hd 11 65 rfl)) (andFR (notF' hc25))), rfl, rfl, rfl, fun d h => by cases h; exact ltB rfl⟩)) ?_
      refine DSteps.cons (j := 21) rfl (fun _ => rfl) (.skip (fun γ ρ B hb hd => ⟨(Guard.eqB (Guard.cF (q := v_32) (ltB rfl) rfl (hl hd 11 65 rfl)) (andFR (notF' hc25))), rfl, rfl, rfl, fun d h => by cases h; exact ltB rfl⟩)) ?_
      refine DSteps.cons (j := 22) rfl (fun _ => rfl) (.skip (fun γ ρ B hb hd => ⟨(Guard.eqB (Guard.cF (q := v_32) (ltB rfl) rfl (hl hd 11 65 rfl)) (andFR (notF' hc25))), rfl, rfl, rfl, fun d h => by cases h; exact ltB rfl⟩)) ?_
      refine DSteps.cons (j := 23) rfl (fun _ => rfl) (.run (fun γ ρ B hb hd => ⟨.yes rfl (ltB rfl) (hl hd 8 62 rfl) hc23, OpStep.at ⟨ρ, B, _⟩ (setO ⟨ρ, B, _⟩ _ _) (op_pickT lb (HasO.cnd (.tmp (hl hd 11 65 rfl)) hc23) hc25 .cB)⟩)) ?_
      refine dS 24 (fun γ ρ B hb hd => op_pickT lb (.tmp (hl hd 8 62 rfl)) hc23 (.tmp (hl hd 22 76 rfl))) ?_
      refine dS 25 (fun γ ρ B hb hd => op_assign lb (.tmp (hl hd 23 77 rfl))) ?_
      exact DSteps.nil)
                           (by decide +kernel) (fun _ => rfl) rfl (fun _ => rfl) (fun _ => rfl) rfl (by decide) (by decide) (by decide +kernel) (fun _ d h => by cases h)
                           (ρ' := fun γ => [(1, ov (PTR gb_10 0)), (3, ov (S rB true)), (47, ov (S (rL r_api_Dest) To_6)), (48, ov (S (rI .i64) (List.length To_6 : Int))), (49, ov (S (rI .i64) x_27))])
                           (X' := fun γ => [cvar gb_10 (rP r_api_Dot (rP rS (rP (rW (HDX go_8 (o_3 * 1) n_4)) (rP (rV 16 (rU UInt64)) (rP (rL r_api_Dest) r0))))) (ID_1, (Topic_2, ((), (Past_5, (To_6, ()))))), cown go_8 (rU UInt8) x_7 0 gc_9, cvar gb_30 r_api_Dest v_29])
                           (fun γ ρ hb hd => (.cons (hb 1 _ rfl (by decide)) (.cons (hdq hd 24 3 rfl) (.cons (hb 47 _ rfl (by decide)) (.cons (hb 48 _ rfl (by decide)) (.cons (hb 49 _ rfl (by decide)) .nil)))))) (fun _ => rfl) (fun γ => ?_)
                       refine JQ.at ⟨[(1, ov (PTR gb_10 0)), (3, ov (S rB true)), (47, ov (S (rL r_api_Dest) To_6)), (48, ov (S (rI .i64) (List.length To_6 : Int))), (49, ov (S (rI .i64) x_27))], [cvar gb_10 (rP r_api_Dot (rP rS (rP (rW (HDX go_8 (o_3 * 1) n_4)) (rP (rV 16 (rU UInt64)) (rP (rL r_api_Dest) r0))))) (ID_1, (Topic_2, ((), (Past_5, (To_6, ()))))), cown go_8 (rU UInt8) x_7 0 gc_9, cvar gb_30 r_api_Dest v_29], []⟩ ?_
                       replace hx16 := Option.some.inj hx16
                       first | subst hx16 | clear hx16
                       exact JQ.join () (Imp.norm (js := [0, 0]) rfl (.cons rfl (.cons rfl (.cons rfl (.cons rfl (.cons rfl .nil))))))
                     · replace hx16 := lt1_inv hx16
                       obtain ⟨v_34, hv_v_34, hx16⟩ := hx16
                       replace hx16 := bnd_inv hx16
                       obtain ⟨v_35, hv_v_35, hx16⟩ := hx16
                       replace hx16 := bnd_inv hx16
                       obtain ⟨v_36, hv_v_36, hx16⟩ := hx16
                       refine JC.anyE (kl := []) (kk := 0) (base := [(1, ov (PTR gb_10 0)), (4, ov (S (rI .i64) x_27)), (5, ov (PTR gb_30 0)), (47, ov (S (rL r_api_Dest) To_6)), (48, ov (S (rI .i64) (List.length To_6 : Int))), (49, ov (S (rI .i64) x_27))])
                           (fs := fun γ => [⟨some 54, ov (PTR gb_30 (0 + 0))⟩, ⟨some 55, ov (A r_api_Dot v_29.Dot)⟩, ⟨some 56, ov (S rB v_31)⟩, ⟨some 57, ov (S rB v_31)⟩, ⟨some 58, ov (PTR gb_30 (0 + 2))⟩, ⟨some 59, ov (S rS v_29.Device)⟩, ⟨some 60, ov (S rB v_32)⟩, ⟨some 61, ov (S rB v_32)⟩, ⟨some 62, ov (S rB v_32)⟩, ⟨some 63, bif v_32 then ov (S (rI .i64) x_27) else .one .und⟩, ⟨some 64, bif v_32 then ov (S rB v_33) else .one .und⟩, ⟨some 65, bif v_32 then ov (S rB v_33) else .one .und⟩, ⟨some 66, ov (PTR gb_10 (0 + 20))⟩, ⟨some 67, ov (S (rL r_api_Dest) To_6)⟩, ⟨some 68, ov (S (rI .i64) x_27)⟩, ⟨some 69, ov (S (rI .i64) v_34)⟩, ⟨some 70, ov (PT r_api_Dest v_35)⟩, ⟨some 71, ov (PT r_api_Dot v_35.Dot)⟩, ⟨some 72, ov (A r_api_Dot v_35.Dot)⟩, ⟨some 73, ov (PTR gb_30 (0 + 0))⟩, ⟨some 74, ov (A r_api_Dot v_29.Dot)⟩, ⟨some 75, ov (S rB v_36)⟩, ⟨some 76, ov (S rB v_36)⟩, ⟨some 77, ov (S rB v_36)⟩, ⟨some 3, ov (S rB v_36)⟩])
                           (rs := fun γ => [⟨cvar gb_10 (rP r_api_Dot (rP rS (rP (rW (HDX go_8 (o_3 * 1) n_4)) (rP (rV 16 (rU UInt64)) (rP (rL r_api_Dest) r0))))) (ID_1, (Topic_2, ((), (Past_5, (To_6, ()))))), none, none, [13]⟩, ⟨cown go_8 (rU UInt8) x_7 0 gc_9, none, none, []⟩, ⟨cvar gb_30 r_api_Dest v_29, none, none, [1, 5, 20]⟩])
                           (ds := [54, 55, 56, 57, 58, 59, 60, 61, 62, 63, 64, 65, 66, 67, 68, 69, 70, 71, 72, 73, 74, 75, 76, 77, 3]) (bs := [1, 4, 5, 47, 48, 49]) (afts := [[], [], [], [], [], [], [], [], [], [], [], [], [], [], [], [], [], [], [], [], [], [], [], [], []]) (js := [0, 0, 0]) mixed (.cons rfl (.cons rfl (.cons rfl (.cons rfl (.cons rfl (.cons rfl .nil)))))) (fun _ => rfl)
                           (by
      refine dS 1 (fun γ ρ B hb hd => op_fieldAddr (off := 0) lb tf59_0 (.tmp (hb 5 _ rfl))) ?_
      refine DSteps.cons (j := 2) rfl (fun _ => rfl) (.run (fun γ ρ B hb hd => ⟨.none, OpStep.at ⟨ρ, (cvar gb_30 r_api_Dest v_29) :: B, _⟩ (setO ⟨ρ, (cvar gb_30 r_api_Dest v_29) :: B, _⟩ _ _) (op_loadA (j := 0) lb tA24 (.tmp (hl hd 0 54 rfl)) rfl (Comp.trans (Comp.self r_api_Dest v_29) (comp_api_Dest_Dot v_29) (Nat.le_of_ble_eq_true rfl)) rfl)⟩)) ?_
      refine dS 3 (fun γ ρ B hb hd => (op_call (js := []) ld cl27 (sim_event_MayDot k v_29.Dot v_31 hv_v_31) .func (.cons (.tmp (hl hd 1 55 rfl)) .nil) rfl).post (fun _ => Imp.refl)) ?_
      refine dS 4 (fun γ ρ B hb hd => op_move lb (.tmp (hl hd 2 56 rfl))) ?_
      refine DSteps.cons (j := 5) rfl (fun _ => rfl) (.run (fun γ ρ B hb hd => ⟨.yes rfl (ltB rfl) (hl hd 3 57 rfl) hc18, OpStep.at ⟨ρ, B, _⟩ (setO ⟨ρ, B, _⟩ _ _) (op_fieldAddr (off := 2) lb tf59_1 (.tmp (hb 5 _ rfl)))⟩)) ?_
      refine DSteps.cons (j := 6) rfl (fun _ => rfl) (.run (fun γ ρ B hb hd => ⟨.yes rfl (ltB rfl) (hl hd 3 57 rfl) hc18, OpStep.at ⟨ρ, (cvar gb_30 r_api_Dest v_29) :: B, _⟩ (setO ⟨ρ, (cvar gb_30 r_api_Dest v_29) :: B, _⟩ _ _) (op_loadS (j := 0) lb tS9 (.tmp (hl hd 4 58 rfl)) rfl (Comp.trans (Comp.self r_api_Dest v_29) (comp_api_Dest_Device v_29) (Nat.le_of_ble_eq_true rfl)) rfl rfl)⟩)) ?_
      refine DSteps.cons (j := 7) rfl (fun _ => rfl) (.run (fun γ ρ B hb hd => ⟨.yes rfl (ltB rfl) (hl hd 3 57 rfl) hc18, OpStep.at ⟨ρ, B, _⟩ (setO ⟨ρ, B, _⟩ _ _) ((op_call (js := []) ld cl30 (sim_event_MayName k v_29.Device v_32 hv_v_32) .func (.cons (.tmp (hl hd 5 59 rfl)) .nil) rfl).post (fun _ => Imp.refl))⟩)) ?_
      refine dS 8 (fun γ ρ B hb hd => op_pickT lb (.tmp (hl hd 3 57 rfl)) hc18 (.tmp (hl hd 6 60 rfl))) ?_
      refine dS 9 (fun γ ρ B hb hd => op_move lb (.tmp (hl hd 7 61 rfl))) ?_
      refine dC 10 v_32 (fun γ => ov (S (rI .i64) x_27)) (fun γ ρ B hb hd => ⟨(Guard.isT (ltB rfl) rfl (hl hd 8 62 rfl)), fun hq_19 => op_move lb (.tmp (hb 4 _ rfl))⟩) ?_
      refine dC 11 v_32 (fun γ => ov (S rB v_33)) (fun γ ρ B hb hd => ⟨(Guard.isT (ltB rfl) rfl (hl hd 8 62 rfl)), fun hq_20 => op_cmpI lb (HasO.cnd (.tmp (hl hd 9 63 rfl)) hq_20) .cI (congrArg some hv_v_33)⟩) ?_
      refine dC 12 v_32 (fun γ => ov (S rB v_33)) (fun γ ρ B hb hd => ⟨(Guard.isT (ltB rfl) rfl (hl hd 8 62 rfl)), fun hq_21 => op_move lb (HasO.cnd (.tmp (hl hd 10 64 rfl)) hq_21)⟩) ?_
      refine DSteps.cons (j := 13) rfl (fun _ => rfl) (.run (fun γ ρ B hb hd => ⟨(Guard.eqB (Guard.cF (q := v_32) (ltB rfl) rfl (hl hd 11 65 rfl)) (andI hc23 (notT hc25))), OpStep.at ⟨ρ, B, _⟩ (setO ⟨ρ, B, _⟩ _ _) (op_fieldAddr (off := 20) lb tf38_4 (.tmp (hb 1 _ rfl)))⟩)) ?_
      refine DSteps.cons (j := 14) rfl (fun _ => rfl) (.run (fun γ ρ B hb hd => ⟨(Guard.eqB (Guard.cF (q := v_32) (ltB rfl) rfl (hl hd 11 65 rfl)) (andI hc23 (notT hc25))), OpStep.at ⟨ρ, (cvar gb_10 (rP r_api_Dot (rP rS (rP (rW (HDX go_8 (o_3 * 1) n_4)) (rP (rV 16 (rU UInt64)) (rP (rL r_api_Dest) r0))))) (ID_1, (Topic_2, ((), (Past_5, (To_6, ())))))) :: B, _⟩ (setO ⟨ρ, (cvar gb_10 (rP r_api_Dot (rP rS (rP (rW (HDX go_8 (o_3 * 1) n_4)) (rP (rV 16 (rU UInt64)) (rP (rL r_api_Dest) r0))))) (ID_1, (Topic_2, ((), (Past_5, (To_6, ())))))) :: B, _⟩ _ _) (op_loadS (j := 0) lb tS36 (.tmp (hl hd 12 66 rfl)) rfl (Comp.trans (Comp.self (rP r_api_Dot (rP rS (rP (rW (HDX go_8 (o_3 * 1) n_4)) (rP (rV 16 (rU UInt64)) (rP (rL r_api_Dest) r0))))) (ID_1, (Topic_2, ((), (Past_5, (To_6, ())))))) (Comp.at' (Comp.inS (Comp.inS (Comp.inS (Comp.inS (Comp.inF (Comp.self (rL r_api_Dest) To_6) (Nat.le_of_ble_eq_true rfl)))))) (by rfl : _ = 20)) (Nat.le_of_ble_eq_true rfl)) rfl rfl)⟩)) ?_
      refine DSteps.cons (j := 15) rfl (fun _ => rfl) (.run (fun γ ρ B hb hd => ⟨(Guard.eqB (Guard.cF (q := v_32) (ltB rfl) rfl (hl hd 11 65 rfl)) (andI hc23 (notT hc25))), OpStep.at ⟨ρ, B, _⟩ (setO ⟨ρ, B, _⟩ _ _) (op_move lb (.tmp (hb 4 _ rfl)))⟩)) ?_
      refine DSteps.cons (j := 16) rfl (fun _ => rfl) (.run (fun γ ρ B hb hd => ⟨(Guard.eqB (Guard.cF (q := v_32) (ltB rfl) rfl (hl hd 11 65 rfl)) (andI hc23 (notT hc25))), OpStep.at ⟨ρ, B, _⟩ (setO ⟨ρ, B, _⟩ _ _) (op_arI lb (.tmp (hl hd 14 68 rfl)) .cI (congrArg some hv_v_34))⟩)) ?_
      refine DSteps.cons (j := 17) rfl (fun _ => rfl) (.run (fun γ ρ B hb hd => ⟨(Guard.eqB (Guard.cF (q := v_32) (ltB rfl) rfl (hl hd 11 65 rfl)) (andI hc23 (notT hc25))), OpStep.at ⟨ρ, B, _⟩ (setO ⟨ρ, B, _⟩ _ _) (op_indexAddrLg lb tu36 tz59 (.tmp (hl hd 13 67 rfl)) (.tmp (hl hd 15 69 rfl)) hv_v_35)⟩)) ?_
      refine DSteps.cons (j := 18) rfl (fun _ => rfl) (.run (fun γ ρ B hb hd => ⟨(Guard.eqB (Guard.cF (q := v_32) (ltB rfl) rfl (hl hd 11 65 rfl)) (andI hc23 (notT hc25))), OpStep.at ⟨ρ, B, _⟩ (setO ⟨ρ, B, _⟩ _ _) (op_fieldAddrP lb tf59_0 (.tmp (hl hd 16 70 rfl)) (comp_api_Dest_Dot v_35))⟩)) ?_
      refine DSteps.cons (j := 19) rfl (fun _ => rfl) (.run (fun γ ρ B hb hd => ⟨(Guard.eqB (Guard.cF (q := v_32) (ltB rfl) rfl (hl hd 11 65 rfl)) (andI hc23 (notT hc25))), OpStep.at ⟨ρ, B, _⟩ (setO ⟨ρ, B, _⟩ _ _) (op_loadPAg lb tA24 (.tmp (hl hd 17 71 rfl)) rfl)⟩)) ?_
      refine DSteps.cons (j := 20) rfl (fun _ => rfl) (.run (fun γ ρ B hb hd => ⟨(Guard.eqB (Guard.cF (q := v_32) (ltB rfl) rfl (hl hd 11 65 rfl)) (andI hc23 (notT hc25))), OpStep.at ⟨ρ, B, _⟩ (setO ⟨ρ, B, _⟩ _ _) (op_fieldAddr (off := 0) lb tf59_0 (.tmp (hb 5 _ rfl)))⟩)) ?_
      refine DSteps.cons (j := 21) rfl (fun _ => rfl) (.run (fun γ ρ B hb hd => ⟨(Guard.eqB (Guard.cF (q := v_32) (ltB rfl) rfl (hl hd 11 65 rfl)) (andI hc23 (notT hc25))), OpStep.at ⟨ρ, (cvar gb_30 r_api_Dest v_29) :: B, _⟩ (setO ⟨ρ, (cvar gb_30 r_api_Dest v_29) :: B, _⟩ _ _) (op_loadA (j := 0) lb tA24 (.tmp (hl hd 19 73 rfl)) rfl (Comp.trans (Comp.self r_api_Dest v_29) (comp_api_Dest_Dot v_29) (Nat.le_of_ble_eq_true rfl)) rfl)⟩)) ?_
      refine DSteps.cons (j := 22) rfl (fun _ => rfl) (.run (fun γ ρ B hb hd => ⟨(Guard.eqB (Guard.cF (q := v_32) (ltB rfl) rfl (hl hd 11 65 rfl)) (andI hc23 (notT hc25))), OpStep.at ⟨ρ, B, _⟩ (setO ⟨ρ, B, _⟩ _ _) ((op_call (js := []) ld cl7 (sim_event_Less k v_35.Dot v_29.Dot v_36 hv_v_36) .func (.cons (.tmp (hl hd 18 72 rfl)) (.cons (.tmp (hl hd 20 74 rfl)) .nil)) rfl).post (fun _ => Imp.refl))⟩)) ?_
      refine DSteps.cons (j := 23) rfl (fun _ => rfl) (.run (fun γ ρ B hb hd => ⟨.yes rfl (ltB rfl) (hl hd 8 62 rfl) hc23, OpStep.at ⟨ρ, B, _⟩ (setO ⟨ρ, B, _⟩ _ _) (op_pickF lb (HasO.cnd (.tmp (hl hd 11 65 rfl)) hc23) hc25 (.tmp (hl hd 21 75 rfl)))⟩)) ?_
      refine dS 24 (fun γ ρ B hb hd => op_pickT lb (.tmp (hl hd 8 62 rfl)) hc23 (.tmp (hl hd 22 76 rfl))) ?_
      refine dS 25 (fun γ ρ B hb hd => op_assign lb (.tmp (hl hd 23 77 rfl))) ?_
      exact DSteps.nil)
                           (by decide +kernel) (fun _ => rfl) rfl (fun _ => rfl) (fun _ => rfl) rfl (by decide) (by decide) (by decide +kernel) (fun _ d h => by cases h)
                           (ρ' := fun γ => [(1, ov (PTR gb_10 0)), (3, ov (S rB v_36)), (47, ov (S (rL r_api_Dest) To_6)), (48, ov (S (rI .i64) (List.length To_6 : Int))), (49, ov (S (rI .i64) x_27))])
                           (X' := fun γ => [cvar gb_10 (rP r_api_Dot (rP rS (rP (rW (HDX go_8 (o_3 * 1) n_4)) (rP (rV 16 (rU UInt64)) (rP (rL r_api_Dest) r0))))) (ID_1, (Topic_2, ((), (Past_5, (To_6, ()))))), cown go_8 (rU UInt8) x_7 0 gc_9, cvar gb_30 r_api_Dest v_29])
                           (fun γ ρ hb hd => (.cons (hb 1 _ rfl (by decide)) (.cons (hdq hd 24 3 rfl) (.cons (hb 47 _ rfl (by decide)) (.cons (hb 48 _ rfl (by decide)) (.cons (hb 49 _ rfl (by decide)) .nil)))))) (fun _ => rfl) (fun γ => ?_)
                       refine JQ.at ⟨[(1, ov (PTR gb_10 0)), (3, ov (S rB v_36)), (47, ov (S (rL r_api_Dest) To_6)), (48, ov (S (rI .i64) (List.length To_6 : Int))), (49, ov (S (rI .i64) x_27))], [cvar gb_10 (rP r_api_Dot (rP rS (rP (rW (HDX go_8 (o_3 * 1) n_4)) (rP (rV 16 (rU UInt64)) (rP (rL r_api_Dest) r0))))) (ID_1, (Topic_2, ((), (Past_5, (To_6, ()))))), cown go_8 (rU UInt8) x_7 0 gc_9, cvar gb_30 r_api_Dest v_29], []⟩ ?_
                       replace hx16 := Option.some.inj hx16
                       first | subst hx16 | clear hx16
                       exact JQ.join () (Imp.norm (js := [0, 0]) rfl (.cons rfl (.cons rfl (.cons rfl (.cons rfl (.cons rfl .nil))))))
                   · refine JC.anyE (kl := []) (kk := 0) (base := [(1, ov (PTR gb_10 0)), (4, ov (S (rI .i64) x_27)), (5, ov (PTR gb_30 0)), (47, ov (S (rL r_api_Dest) To_6)), (48, ov (S (rI .i64) (List.length To_6 : Int))), (49, ov (S (rI .i64) x_27))])
                         (fs := fun γ => [⟨some 54, ov (PTR gb_30 (0 + 0))⟩, ⟨some 55, ov (A r_api_Dot v_29.Dot)⟩, ⟨some 56, ov (S rB v_31)⟩, ⟨some 57, ov (S rB v_31)⟩, ⟨some 58, ov (PTR gb_30 (0 + 2))⟩, ⟨some 59, ov (S rS v_29.Device)⟩, ⟨some 60, ov (S rB v_32)⟩, ⟨some 61, ov (S rB v_32)⟩, ⟨some 62, ov (S rB v_32)⟩, ⟨some 63, bif v_32 then ov (S (rI .i64) x_27) else .one .und⟩, ⟨some 64, bif v_32 then ov (S rB v_33) else .one .und⟩, ⟨some 65, bif v_32 then ov (S rB v_33) else .one .und⟩, ⟨some 66, .one .und⟩, ⟨some 67, .one .und⟩, ⟨some 68, .one .und⟩, ⟨some 69, .one .und⟩, ⟨some 70, .one .und⟩, ⟨some 71, .one .und⟩, ⟨some 72, .one .und⟩, ⟨some 73, .one .und⟩, ⟨some 74, .one .und⟩, ⟨some 75, .one .und⟩, ⟨some 76, .one .und⟩, ⟨some 77, ov (S rB false)⟩, ⟨some 3, ov (S rB false)⟩])
                         (rs := fun γ => [⟨cvar gb_10 (rP r_api_Dot (rP rS (rP (rW (HDX go_8 (o_3 * 1) n_4)) (rP (rV 16 (rU UInt64)) (rP (rL r_api_Dest) r0))))) (ID_1, (Topic_2, ((), (Past_5, (To_6, ()))))), none, none, []⟩, ⟨cown go_8 (rU UInt8) x_7 0 gc_9, none, none, []⟩, ⟨cvar gb_30 r_api_Dest v_29, none, none, [1, 5]⟩])
                         (ds := [54, 55, 56, 57, 58, 59, 60, 61, 62, 63, 64, 65, 66, 67, 68, 69, 70, 71, 72, 73, 74, 75, 76, 77, 3]) (bs := [1, 4, 5, 47, 48, 49]) (afts := [[], [], [], [], [], [], [], [], [], [], [], [], [], [], [], [], [], [], [], [], [], [], [], [], []]) (js := [0, 0, 0]) mixed (.cons rfl (.cons rfl (.cons rfl (.cons rfl (.cons rfl (.cons rfl .nil)))))) (fun _ => rfl)
                         (by
      refine dS 1 (fun γ ρ B hb hd => op_fieldAddr (off := 0) lb tf59_0 (.tmp (hb 5 _ rfl))) ?_
      refine DSteps.cons (j := 2) rfl (fun _ => rfl) (.run (fun γ ρ B hb hd => ⟨.none, OpStep.at ⟨ρ, (cvar gb_30 r_api_Dest v_29) :: B, _⟩ (setO ⟨ρ, (cvar gb_30 r_api_Dest v_29) :: B, _⟩ _ _) (op_loadA (j := 0) lb tA24 (.tmp (hl hd 0 54 rfl)) rfl (Comp.trans (Comp.self r_api_Dest v_29) (comp_api_Dest_Dot v_29) (Nat.le_of_ble_eq_true rfl)) rfl)⟩)) ?_
      refine dS 3 (fun γ ρ B hb hd => (op_call (js := []) ld cl27 (sim_event_MayDot k v_29.Dot v_31 hv_v_31) .func (.cons (.tmp (hl hd 1 55 rfl)) .nil) rfl).post (fun _ => Imp.refl)) ?_
      refine dS 4 (fun γ ρ B hb hd => op_move lb (.tmp (hl hd 2 56 rfl))) ?_
      refine DSteps.cons (j := 5) rfl (fun _ => rfl) (.run (fun γ ρ B hb hd => ⟨.yes rfl (ltB rfl) (hl hd 3 57 rfl) hc18, OpStep.at ⟨ρ, B, _⟩ (setO ⟨ρ, B, _⟩ _ _) (op_fieldAddr (off := 2) lb tf59_1 (.tmp (hb 5 _ rfl)))⟩)) ?_
      refine DSteps.cons (j := 6) rfl (fun _ => rfl) (.run (fun γ ρ B hb hd => ⟨.yes rfl (ltB rfl) (hl hd 3 57 rfl) hc18, OpStep.at ⟨ρ, (cvar gb_30 r_api_Dest v_29) :: B, _⟩ (setO ⟨ρ, (cvar gb_30 r_api_Dest v_29) :: B, _⟩ _ _) (op_loadS (j := 0) lb tS9 (.tmp (hl hd 4 58 rfl)) rfl (Comp.trans (Comp.self r_api_Dest v_29) (comp_api_Dest_Device v_29) (Nat.le_of_ble_eq_true rfl)) rfl rfl)⟩)) ?_
      refine DSteps.cons (j := 7) rfl (fun _ => rfl) (.run (fun γ ρ B hb hd => ⟨.yes rfl (ltB rfl) (hl hd 3 57 rfl) hc18, OpStep.at ⟨ρ, B, _⟩ (setO ⟨ρ, B, _⟩ _ _) ((op_call (js := []) ld cl30 (sim_event_MayName k v_29.Device v_32 hv_v_32) .func (.cons (.tmp (hl hd 5 59 rfl)) .nil) rfl).post (fun _ => Imp.refl))⟩)) ?_
      refine dS 8 (fun γ ρ B hb hd => op_pickT lb (.tmp (hl hd 3 57 rfl)) hc18 (.tmp (hl hd 6 60 rfl))) ?_
      refine dS 9 (fun γ ρ B hb hd => op_move lb (.tmp (hl hd 7 61 rfl))) ?_
      refine dC 10 v_32 (fun γ => ov (S (rI .i64) x_27)) (fun γ ρ B hb hd => ⟨(Guard.isT (ltB rfl) rfl (hl hd 8 62 rfl)), fun hq_19 => op_move lb (.tmp (hb 4 _ rfl))⟩) ?_
      refine dC 11 v_32 (fun γ => ov (S rB v_33)) (fun γ ρ B hb hd => ⟨(Guard.isT (ltB rfl) rfl (hl hd 8 62 rfl)), fun hq_20 => op_cmpI lb (HasO.cnd (.tmp (hl hd 9 63 rfl)) hq_20) .cI (congrArg some hv_v_33)⟩) ?_
      refine dC 12 v_32 (fun γ => ov (S rB v_33)) (fun γ ρ B hb hd => ⟨(Guard.isT (ltB rfl) rfl (hl hd 8 62 rfl)), fun hq_21 => op_move lb (HasO.cnd (.tmp (hl hd 10 64 rfl)) hq_21)⟩) ?_
      refine DSteps.cons (j := 13) rfl (fun _ => rfl) (.skip (fun γ ρ B hb hd => ⟨(Guard.eqB (Guard.cF (q := v_32) (ltB rfl) rfl (hl hd 11 65 rfl)) (andFL hc23)), rfl, rfl, rfl, fun d h => by cases h; exact ltB rfl⟩)) ?_
      refine DSteps.cons (j := 14) rfl (fun _ => rfl) (.skip (fun γ ρ B hb hd => ⟨(Guard.eqB (Guard.cF (q := v_32) (ltB rfl) rfl (hl hd 11 65 rfl)) (andFL hc23)), rfl, rfl, rfl, fun d h => by cases h; exact ltB rfl⟩)) ?_
      refine DSteps.cons (j := 15) rfl (fun _ => rfl) (.skip (fun γ ρ B hb hd => ⟨(Guard.eqB (Guard.cF (q := v_32) (ltB rfl) rfl (hl hd 11 65 rfl)) (andFL hc23)), rfl, rfl, rfl, fun d h => by cases h; exact ltB rfl⟩)) ?_
      refine DSteps.cons (j := 16) rfl (fun _ => rfl) (.skip (fun γ ρ B hb hd => ⟨(Guard.eqB (Guard.cF (q := v_32) (ltB rfl) rfl (hl hd 11 65 rfl)) (andFL hc23)), rfl, rfl, rfl, fun d h => by cases h; exact ltB rfl⟩)) ?_
      refine DSteps.cons (j := 17) rfl (fun _ => rfl) (.skip (fun γ ρ B hb hd => ⟨(Guard.eqB (Guard.cF (q := v_32) (ltB rfl) rfl (hl hd 11 65 rfl)) (andFL hc23)), rfl, rfl, rfl, fun d h => by cases h; exact ltB rfl⟩)) ?_
      refine DSteps.cons (j := 18) rfl (fun _ => rfl) (.skip (fun γ ρ B hb hd => ⟨(Guard.eqB (Guard.cF (q := v_32) (ltB rfl) rfl (hl hd 11 65 rfl)) (andFL hc23)), rfl, rfl, rfl, fun d h => by cases h; exact ltB rfl⟩)) ?_
      refine DSteps.cons (j := 19) rfl (fun _ => rfl) (.skip (fun γ ρ B hb hd => ⟨(Guard.eqB (Guard.cF (q := v_32) (ltB rfl) rfl (hl hd 11 65 rfl)) (andFL hc23)), rfl, rfl, rfl, fun d h => by cases h; exact ltB rfl⟩)) ?_
      refine DSteps.cons (j := 20) rfl (fun _ => rfl) (.skip (fun γ ρ B hb hd => ⟨(Guard.eqB (Guard.cF (q := v_32) (ltB rfl) rfl (hl hd 11 65 rfl)) (andFL hc23)), rfl, rfl, rfl, fun d h => by cases h; exact ltB rfl⟩)) ?_
      refine DSteps.cons (j := 21) rfl (fun _ => rfl) (.skip (fun γ ρ B hb hd => ⟨(Guard.eqB (Guard.cF (q := v_32) (ltB rfl) rfl (hl hd 11 65 rfl)) (andFL hc23)), rfl, rfl, rfl, fun d h => by cases h; exact ltB rfl⟩)) ?_
      refine DSteps.cons (j := 22) rfl (fun _ => rfl) (.skip (fun γ ρ B hb hd => ⟨(Guard.eqB (Guard.cF (q := v_32) (ltB rfl) rfl (hl hd 11 65 rfl)) (andFL hc23)), rfl, rfl, rfl, fun d h => by cases h; exact ltB rfl⟩)) ?_
      refine DSteps.cons (j := 23) rfl (fun _ => rfl) (.skip (fun γ ρ B hb hd => ⟨.no rfl (ltB rfl) (hl hd 8 62 rfl) hc23, rfl, rfl, rfl, fun d h => by cases h; exact ltB rfl⟩)) ?_
      refine dS 24 (fun γ ρ B hb hd => op_pickF lb (.tmp (hl hd 8 62 rfl)) hc23 .cB) ?_
      refine dS 25 (fun γ ρ B hb hd => op_assign lb (.tmp (hl hd 23 77 rfl))) ?_
      exact DSteps.nil)
                         (by decide +kernel) (fun _ => rfl) rfl (fun _ => rfl) (fun _ => rfl) rfl (by decide) (by decide) (by decide +kernel) (fun _ d h => by cases h)
                         (ρ' := fun γ => [(1, ov (PTR gb_10 0)), (3, ov (S rB false)), (47, ov (S (rL r_api_Dest) To_6)), (48, ov (S (rI .i64) (List.length To_6 : Int))), (49, ov (S (rI .i64) x_27))])
                         (X' := fun γ => [cvar gb_10 (rP r_api_Dot (rP rS (rP (rW (HDX go_8 (o_3 * 1) n_4)) (rP (rV 16 (rU UInt64)) (rP (rL r_api_Dest) r0))))) (ID_1, (Topic_2, ((), (Past_5, (To_6, ()))))), cown go_8 (rU UInt8) x_7 0 gc_9, cvar gb_30 r_api_Dest v_29])
                         (fun γ ρ hb hd => (.cons (hb 1 _ rfl (by decide)) (.cons (hdq hd 24 3 rfl) (.cons (hb 47 _ rfl (by decide)) (.cons (hb 48 _ rfl (by decide)) (.cons (hb 49 _ rfl (by decide)) .nil)))))) (fun _ => rfl) (fun γ => ?_)
                     refine JQ.at ⟨[(1, ov (PTR gb_10 0)), (3, ov (S rB false)), (47, ov (S (rL r_api_Dest) To_6)), (48, ov (S (rI .i64) (List.length To_6 : Int))), (49, ov (S (rI .i64) x_27))], [cvar gb_10 (rP r_api_Dot (rP rS (rP (rW (HDX go_8 (o_3 * 1) n_4)) (rP (rV 16 (rU UInt64)) (rP (rL r_api_Dest) r0))))) (ID_1, (Topic_2, ((), (Past_5, (To_6, ()))))), cown go_8 (rU UInt8) x_7 0 gc_9, cvar gb_30 r_api_Dest v_29], []⟩ ?_
                     replace hx16 := Option.some.inj hx16
                     first | subst hx16 | clear hx16
                     exact JQ.join () (Imp.norm (js := [0, 0]) rfl (.cons rfl (.cons rfl (.cons rfl (.cons rfl (.cons rfl .nil))))))
                 · refine JC.anyE (kl := []) (kk := 0) (base := [(1, ov (PTR gb_10 0)), (5, ov (PTR gb_30 0)), (47, ov (S (rL r_api_Dest) To_6)), (48, ov (S (rI .i64) (List.length To_6 : Int))), (49, ov (S (rI .i64) x_27))])
                       (fs := fun γ => [⟨some 54, ov (PTR gb_30 (0 + 0))⟩, ⟨some 55, ov (A r_api_Dot v_29.Dot)⟩, ⟨some 56, ov (S rB v_31)⟩, ⟨some 57, ov (S rB v_31)⟩, ⟨some 58, .one .und⟩, ⟨some 59, .one .und⟩, ⟨some 60, .one .und⟩, ⟨some 61, ov (S rB false)⟩, ⟨some 62, ov (S rB false)⟩, ⟨some 63, .one .und⟩, ⟨some 64, .one .und⟩, ⟨some 65, .one .und⟩, ⟨some 66, .one .und⟩, ⟨some 67, .one .und⟩, ⟨some 68, .one .und⟩, ⟨some 69, .one .und⟩, ⟨some 70, .one .und⟩, ⟨some 71, .one .und⟩, ⟨some 72, .one .und⟩, ⟨some 73, .one .und⟩, ⟨some 74, .one .und⟩, ⟨some 75, .one .und⟩, ⟨some 76, .one .und⟩, ⟨some 77, ov (S rB false)⟩, ⟨some 3, ov (S rB false)⟩])
                       (rs := fun γ => [⟨cvar gb_10 (rP r_api_Dot (rP rS (rP (rW (HDX go_8 (o_3 * 1) n_4)) (rP (rV 16 (rU UInt64)) (rP (rL r_api_Dest) r0))))) (ID_1, (Topic_2, ((), (Past_5, (To_6, ()))))), none, none, []⟩, ⟨cown go_8 (rU UInt8) x_7 0 gc_9, none, none, []⟩, ⟨cvar gb_30 r_api_Dest v_29, none, none, [1]⟩])
                       (ds := [54, 55, 56, 57, 58, 59, 60, 61, 62, 63, 64, 65, 66, 67, 68, 69, 70, 71, 72, 73, 74, 75, 76, 77, 3]) (bs := [1, 5, 47, 48, 49]) (afts := [[], [], [], [], [], [], [], [], [], [], [], [], [], [], [], [], [], [], [], [], [], [], [], [], []]) (js := [0, 0, 0]) mixed (.cons rfl (.cons rfl (.cons rfl (.cons rfl (.cons rfl .nil))))) (fun _ => rfl)
                       (by
      refine dS 1 (fun γ ρ B hb hd => op_fieldAddr (off := 0) lb tf59_0 (.tmp (hb 5 _ rfl))) ?_
      refine DSteps.cons (j := 2) rfl (fun _ => rfl) (.run (fun γ ρ B hb hd => ⟨.none, OpStep.at ⟨ρ, (cvar gb_30 r_api_Dest v_29) :: B, _⟩ (setO ⟨ρ, (cvar gb_30 r_api_Dest v_29) :: B, _⟩ _ _) (op_loadA (j := 0) lb tA24 (.tmp (hl hd 0 54 rfl)) rfl (Comp.trans (Comp.self r_api_Dest v_29) (comp_api_Dest_Dot v_29) (Nat.le_of_ble_eq_true rfl)) rfl)⟩)) ?_
      refine dS 3 (fun γ ρ B hb hd => (op_call (js := []) ld cl27 (sim_event_MayDot k v_29.Dot v_31 hv_v_31) .func (.cons (.tmp (hl hd 1 55 rfl)) .nil) rfl).post (fun _ => Imp.refl)) ?_
      refine dS 4 (fun γ ρ B hb hd => op_move lb (.tmp (hl hd 2 56 rfl))) ?_
      refine DSteps.cons (j := 5) rfl (fun _ => rfl) (.skip (fun γ ρ B hb hd => ⟨.no rfl (ltB rfl) (hl hd 3 57 rfl) hc18, rfl, rfl, rfl, fun d h => by cases h; exact ltB rfl⟩)) ?_
      refine DSteps.cons (j := 6) rfl (fun _ => rfl) (.skip (fun γ ρ B hb hd => ⟨.no rfl (ltB rfl) (hl hd 3 57 rfl) hc18, rfl, rfl, rfl, fun d h => by cases h; exact ltB rfl⟩)) ?_
      refine DSteps.cons (j := 7) rfl (fun _ => rfl) (.skip (fun γ ρ B hb hd => ⟨.no rfl (ltB rfl) (hl hd 3 57 rfl) hc18, rfl, rfl, rfl, fun d h => by cases h; exact ltB rfl⟩)) ?_
      refine dS 8 (fun γ ρ B hb hd => op_pickF lb (.tmp (hl hd 3 57 rfl)) hc18 .cB) ?_
      refine dS 9 (fun γ ρ B hb hd => op_move lb (.tmp (hl hd 7 61 rfl))) ?_
      refine DSteps.cons (j := 10) rfl (fun _ => rfl) (.skip (fun γ ρ B hb hd => ⟨.no rfl (ltB rfl) (hl hd 8 62 rfl) rfl, rfl, rfl, rfl, fun d h => by cases h; exact ltB rfl⟩)) ?_
      refine DSteps.cons (j := 11) rfl (fun _ => rfl) (.skip (fun γ ρ B hb hd => ⟨.no rfl (ltB rfl) (hl hd 8 62 rfl) rfl, rfl, rfl, rfl, fun d h => by cases h; exact ltB rfl⟩)) ?_
      refine DSteps.cons (j := 12) rfl (fun _ => rfl) (.skip (fun γ ρ B hb hd => ⟨.no rfl (ltB rfl) (hl hd 8 62 rfl) rfl, rfl, rfl, rfl, fun d h => by cases h; exact ltB rfl⟩)) ?_
      refine DSteps.cons (j := 13) rfl (fun _ => rfl) (.skip (fun γ ρ B hb hd => ⟨.und rfl (ltB rfl) (hl hd 11 65 rfl), rfl, rfl, rfl, fun d h => by cases h; exact ltB rfl⟩)) ?_
      refine DSteps.cons (j := 14) rfl (fun _ => rfl) (.skip (fun γ ρ B hb hd => ⟨.und rfl (ltB rfl) (hl hd 11 65 rfl), rfl, rfl, rfl, fun d h => by cases h; exact ltB rfl⟩)) ?_
      refine DSteps.cons (j := 15) rfl (fun _ => rfl) (.skip (fun γ ρ B hb hd => ⟨.und rfl (ltB rfl) (hl hd 11 65 rfl), rfl, rfl, rfl, fun d h => by cases h; exact ltB rfl⟩)) ?_
      refine DSteps.cons (j := 16) rfl (fun _ => rfl) (.skip (fun γ ρ B hb hd => ⟨.und rfl (ltB rfl) (hl hd 11 65 rfl), rfl, rfl, rfl, fun d h => by cases h; exact ltB rfl⟩)) ?_
      refine DSteps.cons (j := 17) rfl (fun _ => rfl) (.skip (fun γ ρ B hb hd => ⟨.und rfl (ltB rfl) (hl hd 11 65 rfl), rfl, rfl, rfl, fun d h => by cases h; exact ltB rfl⟩)) ?_
      refine DSteps.cons (j := 18) rfl (fun _ => rfl) (.skip (fun γ ρ B hb hd => ⟨.und rfl (ltB rfl) (hl hd 11 65 rfl), rfl, rfl, rfl, fun d h => by cases h; exact ltB rfl⟩)) ?_
      refine DSteps.cons (j := 19) rfl (fun _ => rfl) (.skip (fun γ ρ B hb hd => ⟨.und rfl (ltB rfl) (hl hd 11 65 rfl), rfl, rfl, rfl, fun d h => by cases h; exact ltB rfl⟩)) ?_
      refine DSteps.cons (j := 20) rfl (fun _ => rfl) (.skip (fun γ ρ B hb hd => ⟨.und rfl (ltB rfl) (hl hd 11 65 rfl), rfl, rfl, rfl, fun d h => by cases h; exact ltB rfl⟩)) ?_
      refine DSteps.cons (j := 21) rfl (fun _ => rfl) (.skip (fun γ ρ B hb hd => ⟨.und rfl (ltB rfl) (hl hd 11 65 rfl), rfl, rfl, rfl, fun d h => by cases h; exact ltB rfl⟩)) ?_
      refine DSteps.cons (j := 22) rfl (fun _ => rfl) (.skip (fun γ ρ B hb hd => ⟨.und rfl (ltB rfl) (hl hd 11 65 rfl), rfl, rfl, rfl, fun d h => by cases h; exact ltB rfl⟩)) ?_
      refine DSteps.cons (j := 23) rfl (fun _ => rfl) (.skip (fun γ ρ B hb hd => ⟨.no rfl (ltB rfl) (hl hd 8 62 rfl) rfl, rfl, rfl, rfl, fun d h => by cases h; exact ltB rfl⟩)) ?_
      refine dS 24 (fun γ ρ B hb hd => op_pickF lb (.tmp (hl hd 8 62 rfl)) rfl .cB) ?_
      refine dS 25 (fun γ ρ B hb hd => op_assign lb (.tmp (hl hd 23 77 rfl))) ?_
      exact DSteps.nil)
                       (by decide +kernel) (fun _ => rfl) rfl (fun _ => rfl) (fun _ => rfl) rfl (by decide) (by decide) (by decide +kernel) (fun _ d h => by cases h)
                       (ρ' := fun γ => [(1, ov (PTR gb_10 0)), (3, ov (S rB false)), (47, ov (S (rL r_api_Dest) To_6)), (48, ov (S (rI .i64) (List.length To_6 : Int))), (49, ov (S (rI .i64) x_27))])
                       (X' := fun γ => [cvar gb_10 (rP r_api_Dot (rP rS (rP (rW (HDX go_8 (o_3 * 1) n_4)) (rP (rV 16 (rU UInt64)) (rP (rL r_api_Dest) r0))))) (ID_1, (Topic_2, ((), (Past_5, (To_6, ()))))), cown go_8 (rU UInt8) x_7 0 gc_9, cvar gb_30 r_api_Dest v_29])
                       (fun γ ρ hb hd => (.cons (hb 1 _ rfl (by decide)) (.cons (hdq hd 24 3 rfl) (.cons (hb 47 _ rfl (by decide)) (.cons (hb 48 _ rfl (by decide)) (.cons (hb 49 _ rfl (by decide)) .nil)))))) (fun _ => rfl) (fun γ => ?_)
                   refine JQ.at ⟨[(1, ov (PTR gb_10 0)), (3, ov (S rB false)), (47, ov (S (rL r_api_Dest) To_6)), (48, ov (S (rI .i64) (List.length To_6 : Int))), (49, ov (S (rI .i64) x_27))], [cvar gb_10 (rP r_api_Dot (rP rS (rP (rW (HDX go_8 (o_3 * 1) n_4)) (rP (rV 16 (rU UInt64)) (rP (rL r_api_Dest) r0))))) (ID_1, (Topic_2, ((), (Past_5, (To_6, ()))))), cown go_8 (rU UInt8) x_7 0 gc_9, cvar gb_30 r_api_Dest v_29], []⟩ ?_
                   replace hx16 := Option.some.inj hx16
                   first | subst hx16 | clear hx16
                   exact JQ.join () (Imp.norm (js := [0, 0]) rfl (.cons rfl (.cons rfl (.cons rfl (.cons rfl (.cons rfl .nil))))))
             · refine JC.condF (.tmp rfl) hc15 ?_
               refine JC.exit ?_
               refine JQ.outX ?_
               replace hx := Option.some.inj hx
               first | subst hx | clear hx
               have ht := hr _ rfl
               have hq14 := congrArg some ht
               clear hr ht
               refine JQ.outX ?_
               refine JQ.here ?_
               replace hq14 := Option.some.inj hq14
               first | subst hq14 | clear hq14
               exact JQ.join () (Imp.norm (js := [1]) rfl (.cons rfl .nil))
     · refine JC.region ?_
       refine jc (op_fieldAddr (off := 2) lb tf38_1 (.tmp rfl)) ?_
       refine jc (op_loadS (j := 0) lb tS9 (.tmp rfl) rfl (Comp.trans (Comp.self (rP r_api_Dot (rP rS (rP (rW (HDX go_8 (o_3 * 1) n_4)) (rP (rV 16 (rU UInt64)) (rP (rL r_api_Dest) r0))))) (ID_1, (Topic_2, ((), (Past_5, (To_6, ())))))) (Comp.at' (Comp.inS (Comp.inF (Comp.self rS Topic_2) (Nat.le_of_ble_eq_true rfl))) (by rfl : _ = 2)) (Nat.le_of_ble_eq_true rfl)) rfl rfl) ?_
       replace hx7 := bnd_inv hx7
       obtain ⟨v_21, hv_v_21, hx7⟩ := hx7
       refine jx (op_call (js := []) ld cl30 (sim_event_MayName k Topic_2 v_21 hv_v_21) .func (.cons (.tmp rfl) .nil) rfl) (fun _ => ?_)
       replace hx7 := lt1_inv hx7
       obtain ⟨v_22, hv_v_22, hx7⟩ := hx7
       refine jc (op_not lb (.tmp rfl) hv_v_22) ?_
       refine jc (op_move lb (.tmp rfl)) ?_
       replace hx7 := iteB_inv hx7
       rcases hx7 with ⟨hc9, hx7⟩ | ⟨hc9, hx7⟩
       · refine JL.skip (.no rfl (ltB rfl) rfl hc9) (fun d h => by cases h; exact ltB rfl) ?_
         refine JL.skip (.no rfl (ltB rfl) rfl hc9) (fun d h => by cases h; exact ltB rfl) ?_
         refine JL.skip (.no rfl (ltB rfl) rfl hc9) (fun d h => by cases h; exact ltB rfl) ?_
         refine JL.skip (.no rfl (ltB rfl) rfl hc9) (fun d h => by cases h; exact ltB rfl) ?_
         refine jc (op_pickT lb (.tmp rfl) hc9 .cB) ?_
         refine jc (op_move lb (.tmp rfl)) ?_
         refine JL.skip (.no rfl (ltB rfl) rfl rfl) (fun d h => by cases h; exact ltB rfl) ?_
         refine JL.skip (.no rfl (ltB rfl) rfl rfl) (fun d h => by cases h; exact ltB rfl) ?_
         refine JL.skip (.no rfl (ltB rfl) rfl rfl) (fun d h => by cases h; exact ltB rfl) ?_
         refine JL.skip (.no rfl (ltB rfl) rfl rfl) (fun d h => by cases h; exact ltB rfl) ?_
         refine jc (op_pickT lb (.tmp rfl) rfl .cB) ?_
         refine JL.nil ?_
         replace hx7 := Option.some.inj hx7
         first | subst hx7 | clear hx7
         exact JQ.join () (Imp.norm (js := [0, 0]) rfl (.cons rfl (.cons rfl .nil)))
       · refine JL.run (.yes rfl (ltB rfl) rfl hc9) (op_fieldAddr (off := 3) lb tf38_2 (.tmp rfl)) ?_
         refine JL.run (.yes rfl (ltB rfl) rfl hc9) (op_loadW (j := 0) lb tS35 (.tmp rfl) rfl (Comp.trans (Comp.self (rP r_api_Dot (rP rS (rP (rW (HDX go_8 (o_3 * 1) n_4)) (rP (rV 16 (rU UInt64)) (rP (rL r_api_Dest) r0))))) (ID_1, (Topic_2, ((), (Past_5, (To_6, ())))))) (Comp.at' (Comp.inS (Comp.inS (Comp.inF (Comp.self (rW (HDX go_8 (o_3 * 1) n_4)) ()) (Nat.le_of_ble_eq_true rfl)))) (by rfl : _ = 3)) (Nat.le_of_ble_eq_true rfl))) ?_
         refine JL.run (.yes rfl (ltB rfl) rfl hc9) (op_lenX lb tu35 (.tmp rfl)) ?_
         replace hx7 := lt1_inv hx7
         obtain ⟨v_23, hv_v_23, hx7⟩ := hx7
         refine JL.run (.yes rfl (ltB rfl) rfl hc9) (op_cmpI lb (.tmp rfl) .cI (congrArg some hv_v_23)) ?_
         refine jc (op_pickF lb (.tmp rfl) hc9 (.tmp rfl)) ?_
         refine jc (op_move lb (.tmp rfl)) ?_
         replace hx7 := iteB_inv hx7
         rcases hx7 with ⟨hc11, hx7⟩ | ⟨hc11, hx7⟩
         · refine JL.skip (.no rfl (ltB rfl) rfl hc11) (fun d h => by cases h; exact ltB rfl) ?_
           refine JL.skip (.no rfl (ltB rfl) rfl hc11) (fun d h => by cases h; exact ltB rfl) ?_
           refine JL.skip (.no rfl (ltB rfl) rfl hc11) (fun d h => by cases h; exact ltB rfl) ?_
           refine JL.skip (.no rfl (ltB rfl) rfl hc11) (fun d h => by cases h; exact ltB rfl) ?_
           refine jc (op_pickT lb (.tmp rfl) hc11 .cB) ?_
           refine JL.sub ⟨[(1, ov (PTR gb_10 0)), (45, ov (S rB true))], [cvar gb_10 (rP r_api_Dot (rP rS (rP (rW (HDX go_8 (o_3 * 1) n_4)) (rP (rV 16 (rU UInt64)) (rP (rL r_api_Dest) r0))))) (ID_1, (Topic_2, ((), (Past_5, (To_6, ()))))), cown go_8 (rU UInt8) x_7 0 gc_9], []⟩ (.cons rfl (.cons rfl .nil)) rfl rfl ?_
           refine JL.nil ?_
           replace hx7 := Option.some.inj hx7
           first | subst hx7 | clear hx7
           exact JQ.join () (Imp.norm (js := [0, 0]) rfl (.cons rfl (.cons rfl .nil)))
         · refine JL.run (.yes rfl (ltB rfl) rfl hc11) (op_fieldAddr (off := 20) lb tf38_4 (.tmp rfl)) ?_
           refine JL.sub ⟨[(1, ov (PTR gb_10 0)), (40, ov (S rB v_23)), (41, ov (PTR gb_10 (0 + 20)))], [cvar gb_10 (rP r_api_Dot (rP rS (rP (rW (HDX go_8 (o_3 * 1) n_4)) (rP (rV 16 (rU UInt64)) (rP (rL r_api_Dest) r0))))) (ID_1, (Topic_2, ((), (Past_5, (To_6, ()))))), cown go_8 (rU UInt8) x_7 0 gc_9], []⟩ (.cons rfl (.cons rfl (.cons rfl .nil))) rfl rfl ?_
           refine JL.run (.yes rfl (ltB rfl) rfl hc11) (op_loadS (j := 0) lb tS36 (.tmp rfl) rfl (Comp.trans (Comp.self (rP r_api_Dot (rP rS (rP (rW (HDX go_8 (o_3 * 1) n_4)) (rP (rV 16 (rU UInt64)) (rP (rL r_api_Dest) r0))))) (ID_1, (Topic_2, ((), (Past_5, (To_6, ())))))) (Comp.at' (Comp.inS (Comp.inS (Comp.inS (Comp.inS (Comp.inF (Comp.self (rL r_api_Dest) To_6) (Nat.le_of_ble_eq_true rfl)))))) (by rfl : _ = 20)) (Nat.le_of_ble_eq_true rfl)) rfl rfl) ?_
           refine JL.run (.yes rfl (ltB rfl) rfl hc11) (op_lenL lb tu36 (.tmp rfl)) ?_
           replace hx7 := lt1_inv hx7
           obtain ⟨v_24, hv_v_24, hx7⟩ := hx7
           refine JL.run (.yes rfl (ltB rfl) rfl hc11) (op_cmpI lb (.tmp rfl) .cI (congrArg some hv_v_24)) ?_
           refine jc (op_pickF lb (.tmp rfl) hc11 (.tmp rfl)) ?_
           refine JL.nil ?_
           replace hx7 := Option.some.inj hx7
           first | subst hx7 | clear hx7
           exact JQ.join () (Imp.norm (js := [0, 0]) rfl (.cons rfl (.cons rfl .nil)))
 · replace hx1 := bnd_inv hx1
   obtain ⟨v_11, hv_v_11, hx1⟩ := hx1
   replace hx1 := lt1_inv hx1
   obtain ⟨v_12, hv_v_12, hx1⟩ := hx1
   replace hx1 := iteB_inv hx1
   rcases hx1 with ⟨hc3, hx1⟩ | ⟨hc3, hx1⟩
   · refine JC.anyE (kl := []) (kk := 0) (base := [(1, ov (PTR gb_10 0))])
         (fs := fun γ => [⟨some 6, ov (PTR gb_10 (0 + 0))⟩, ⟨some 7, ov (A r_api_Dot ID_1)⟩, ⟨some 8, ov (S rB v_11)⟩, ⟨some 9, ov (S rB v_12)⟩, ⟨some 10, ov (S rB v_12)⟩, ⟨some 11, .one .und⟩, ⟨some 12, .one .und⟩, ⟨some 13, .one .und⟩, ⟨some 14, .one .und⟩, ⟨some 15, ov (S rB true)⟩, ⟨some 16, ov (S rB true)⟩, ⟨some 17, .one .und⟩, ⟨some 18, .one .und⟩, ⟨some 19, .one .und⟩, ⟨some 20, .one .und⟩, ⟨some 21, .one .und⟩, ⟨some 22, .one .und⟩, ⟨some 23, .one .und⟩, ⟨some 24, .one .und⟩, ⟨some 25, .one .und⟩, ⟨some 26, .one .und⟩, ⟨some 27, .one .und⟩, ⟨some 28, .one .und⟩, ⟨some 29, ov (S rB true)⟩])
         (rs := fun γ => [⟨cown go_8 (rU UInt8) x_7 0 gc_9, none, none, []⟩, ⟨cvar gb_10 (rP r_api_Dot (rP rS (rP (rW (HDX go_8 (o_3 * 1) n_4)) (rP (rV 16 (rU UInt64)) (rP (rL r_api_Dest) r0))))) (ID_1, (Topic_2, ((), (Past_5, (To_6, ()))))), none, none, [1]⟩])
         (ds := [6, 7, 8, 9, 10, 11, 12, 13, 14, 15, 16, 17, 18, 19, 20, 21, 22, 23, 24, 25, 26, 27, 28, 29]) (bs := [1]) (afts := [[], [], [], [], [], [], [], [], [], [], [], [], [], [], [], [], [], [], [], [], [], [], [], []]) (js := [0, 0]) mixed (.cons rfl .nil) (fun _ => rfl)
         (by
      refine dS 1 (fun γ ρ B hb hd => op_fieldAddr (off := 0) lb tf38_0 (.tmp (hb 1 _ rfl))) ?_
      refine DSteps.cons (j := 2) rfl (fun _ => rfl) (.run (fun γ ρ B hb hd => ⟨.none, OpStep.at ⟨ρ, (cvar gb_10 (rP r_api_Dot (rP rS (rP (rW (HDX go_8 (o_3 * 1) n_4)) (rP (rV 16 (rU UInt64)) (rP (rL r_api_Dest) r0))))) (ID_1, (Topic_2, ((), (Past_5, (To_6, ())))))) :: B, _⟩ (setO ⟨ρ, (cvar gb_10 (rP r_api_Dot (rP rS (rP (rW (HDX go_8 (o_3 * 1) n_4)) (rP (rV 16 (rU UInt64)) (rP (rL r_api_Dest) r0))))) (ID_1, (Topic_2, ((), (Past_5, (To_6, ())))))) :: B, _⟩ _ _) (op_loadA (j := 0) lb tA24 (.tmp (hl hd 0 6 rfl)) rfl (Comp.trans (Comp.self (rP r_api_Dot (rP rS (rP (rW (HDX go_8 (o_3 * 1) n_4)) (rP (rV 16 (rU UInt64)) (rP (rL r_api_Dest) r0))))) (ID_1, (Topic_2, ((), (Past_5, (To_6, ())))))) (Comp.at' (Comp.inF (Comp.self r_api_Dot ID_1) (Nat.le_of_ble_eq_true rfl)) (by rfl : _ = 0)) (Nat.le_of_ble_eq_true rfl)) rfl)⟩)) ?_
      refine dS 3 (fun γ ρ B hb hd => (op_call (js := []) ld cl27 (sim_event_MayDot k ID_1 v_11 hv_v_11) .func (.cons (.tmp (hl hd 1 7 rfl)) .nil) rfl).post (fun _ => Imp.refl)) ?_
      refine dS 4 (fun γ ρ B hb hd => op_not lb (.tmp (hl hd 2 8 rfl)) hv_v_12) ?_
      refine dS 5 (fun γ ρ B hb hd => op_move lb (.tmp (hl hd 3 9 rfl))) ?_
      refine DSteps.cons (j := 6) rfl (fun _ => rfl) (.skip (fun γ ρ B hb hd => ⟨.no rfl (ltB rfl) (hl hd 4 10 rfl) hc3, rfl, rfl, rfl, fun d h => by cases h; exact ltB rfl⟩)) ?_
      refine DSteps.cons (j := 7) rfl (fun _ => rfl) (.skip (fun γ ρ B hb hd => ⟨.no rfl (ltB rfl) (hl hd 4 10 rfl) hc3, rfl, rfl, rfl, fun d h => by cases h; exact ltB rfl⟩)) ?_
      refine DSteps.cons (j := 8) rfl (fun _ => rfl) (.skip (fun γ ρ B hb hd => ⟨.no rfl (ltB rfl) (hl hd 4 10 rfl) hc3, rfl, rfl, rfl, fun d h => by cases h; exact ltB rfl⟩)) ?_
      refine DSteps.cons (j := 9) rfl (fun _ => rfl) (.skip (fun γ ρ B hb hd => ⟨.no rfl (ltB rfl) (hl hd 4 10 rfl) hc3, rfl, rfl, rfl, fun d h => by cases h; exact ltB rfl⟩)) ?_
      refine dS 10 (fun γ ρ B hb hd => op_pickT lb (.tmp (hl hd 4 10 rfl)) hc3 .cB) ?_
      refine dS 11 (fun γ ρ B hb hd => op_move lb (.tmp (hl hd 9 15 rfl))) ?_
      refine DSteps.cons (j := 12) rfl (fun _ => rfl) (.skip (fun γ ρ B hb hd => ⟨.no rfl (ltB rfl) (hl hd 10 16 rfl) rfl, rfl, rfl, rfl, fun d h => by cases h; exact ltB rfl⟩)) ?_
      refine DSteps.cons (j := 13) rfl (fun _ => rfl) (.skip (fun γ ρ B hb hd => ⟨.no rfl (ltB rfl) (hl hd 10 16 rfl) rfl, rfl, rfl, rfl, fun d h => by cases h; exact ltB rfl⟩)) ?_
      refine DSteps.cons (j := 14) rfl (fun _ => rfl) (.skip (fun γ ρ B hb hd => ⟨.no rfl (ltB rfl) (hl hd 10 16 rfl) rfl, rfl, rfl, rfl, fun d h => by cases h; exact ltB rfl⟩)) ?_
      refine DSteps.cons (j := 15) rfl (fun _ => rfl) (.skip (fun γ ρ B hb hd => ⟨.no rfl (ltB rfl) (hl hd 10 16 rfl) rfl, rfl, rfl, rfl, fun d h => by cases h; exact ltB rfl⟩)) ?_
      refine DSteps.cons (j := 16) rfl (fun _ => rfl) (.skip (fun γ ρ B hb hd => ⟨.no rfl (ltB rfl) (hl hd 10 16 rfl) rfl, rfl, rfl, rfl, fun d h => by cases h; exact ltB rfl⟩)) ?_
      refine DSteps.cons (j := 17) rfl (fun _ => rfl) (.skip (fun γ ρ B hb hd => ⟨.no rfl (ltB rfl) (hl hd 10 16 rfl) rfl, rfl, rfl, rfl, fun d h => by cases h; exact ltB rfl⟩)) ?_
      refine DSteps.cons (j := 18) rfl (fun _ => rfl) (.skip (fun γ ρ B hb hd => ⟨.no rfl (ltB rfl) (hl hd 10 16 rfl) rfl, rfl, rfl, rfl, fun d h => by cases h; exact ltB rfl⟩)) ?_
      refine DSteps.cons (j := 19) rfl (fun _ => rfl) (.skip (fun γ ρ B hb hd => ⟨.no rfl (ltB rfl) (hl hd 10 16 rfl) rfl, rfl, rfl, rfl, fun d h => by cases h; exact ltB rfl⟩)) ?_
      refine DSteps.cons (j := 20) rfl (fun _ => rfl) (.skip (fun γ ρ B hb hd => ⟨.no rfl (ltB rfl) (hl hd 10 16 rfl) rfl, rfl, rfl, rfl, fun d h => by cases h; exact ltB rfl⟩)) ?_
      refine DSteps.cons (j := 21) rfl (fun _ => rfl) (.skip (fun γ ρ B hb hd => ⟨.no rfl (ltB rfl) (hl hd 10 16 rfl) rfl, rfl, rfl, rfl, fun d h => by cases h; exact ltB rfl⟩)) ?_
      refine DSteps.cons (j := 22) rfl (fun _ => rfl) (.skip (fun γ ρ B hb hd => ⟨.no rfl (ltB rfl) (hl hd 10 16 rfl) rfl, rfl, rfl, rfl, fun d h => by cases h; exact ltB rfl⟩)) ?_
      refine DSteps.cons (j := 23) rfl (fun _ => rfl) (.skip (fun γ ρ B hb hd => ⟨.no rfl (ltB rfl) (hl hd 10 16 rfl) rfl, rfl, rfl, rfl, fun d h => by cases h; exact ltB rfl⟩)) ?_
      refine dS 24 (fun γ ρ B hb hd => op_pickT lb (.tmp (hl hd 10 16 rfl)) rfl .cB) ?_
      exact DSteps.nil)
         (by decide +kernel) (fun _ => rfl) rfl (fun _ => rfl) (fun _ => rfl) rfl (by decide) (by decide) (by decide +kernel) (fun _ d h => by cases h)
         (ρ' := fun γ => [(1, ov (PTR gb_10 0)), (29, ov (S rB true))])
         (X' := fun γ => [cown go_8 (rU UInt8) x_7 0 gc_9, cvar gb_10 (rP r_api_Dot (rP rS (rP (rW (HDX go_8 (o_3 * 1) n_4)) (rP (rV 16 (rU UInt64)) (rP (rL r_api_Dest) r0))))) (ID_1, (Topic_2, ((), (Past_5, (To_6, ())))))])
         (fun γ ρ hb hd => (.cons (hb 1 _ rfl (by decide)) (.cons (hdq hd 23 29 rfl) .nil))) (fun _ => rfl) (fun γ => ?_)
     refine JQ.at ⟨[(1, ov (PTR gb_10 0)), (29, ov (S rB true))], [cown go_8 (rU UInt8) x_7 0 gc_9, cvar gb_10 (rP r_api_Dot (rP rS (rP (rW (HDX go_8 (o_3 * 1) n_4)) (rP (rV 16 (rU UInt64)) (rP (rL r_api_Dest) r0))))) (ID_1, (Topic_2, ((), (Past_5, (To_6, ())))))], []⟩ ?_
     replace hx1 := Option.some.inj hx1
     first | subst hx1 | clear hx1
     refine JQ.pre (Imp.var (j := 1) (q := (rP r_api_Dot (rP rS (rP (rW (HDX go_8 (o_3 * 1) n_4)) (rP (rV 16 (rU UInt64)) (rP (rL r_api_Dest) r0)))))) (y := (ID_1, (Topic_2, ((), (Past_5, (To_6, ())))))) rfl Wk.refl) ?_
     exact JQ.join () (Imp.norm (js := [1, 0]) rfl (.cons rfl (.cons rfl .nil)))
   · replace hx1 := bnd_inv hx1
     obtain ⟨v_13, hv_v_13, hx1⟩ := hx1
     replace hx1 := lt1_inv hx1
     obtain ⟨v_14, hv_v_14, hx1⟩ := hx1
     replace hx1 := iteB_inv hx1
     rcases hx1 with ⟨hc5, hx1⟩ | ⟨hc5, hx1⟩
     · refine JC.anyE (kl := []) (kk := 0) (base := [(1, ov (PTR gb_10 0))])
           (fs := fun γ => [⟨some 6, ov (PTR gb_10 (0 + 0))⟩, ⟨some 7, ov (A r_api_Dot ID_1)⟩, ⟨some 8, ov (S rB v_11)⟩, ⟨some 9, ov (S rB v_12)⟩, ⟨some 10, ov (S rB v_12)⟩, ⟨some 11, ov (PTR gb_10 (0 + 4))⟩, ⟨some 12, ov (A (rV 16 (rU UInt64)) Past_5)⟩, ⟨some 13, ov (S rB v_13)⟩, ⟨some 14, ov (S rB v_14)⟩, ⟨some 15, ov (S rB v_14)⟩, ⟨some 16, ov (S rB v_14)⟩, ⟨some 17, .one .und⟩, ⟨some 18, .one .und⟩, ⟨some 19, .one .und⟩, ⟨some 20, .one .und⟩, ⟨some 21, .one .und⟩, ⟨some 22, .one .und⟩, ⟨some 23, .one .und⟩, ⟨some 24, .one .und⟩, ⟨some 25, .one .und⟩, ⟨some 26, .one .und⟩, ⟨some 27, .one .und⟩, ⟨some 28, .one .und⟩, ⟨some 29, ov (S rB true)⟩])
           (rs := fun γ => [⟨cown go_8 (rU UInt8) x_7 0 gc_9, none, none, []⟩, ⟨cvar gb_10 (rP r_api_Dot (rP rS (rP (rW (HDX go_8 (o_3 * 1) n_4)) (rP (rV 16 (rU UInt64)) (rP (rL r_api_Dest) r0))))) (ID_1, (Topic_2, ((), (Past_5, (To_6, ()))))), none, none, [1, 6]⟩])
           (ds := [6, 7, 8, 9, 10, 11, 12, 13, 14, 15, 16, 17, 18, 19, 20, 21, 22, 23, 24, 25, 26, 27, 28, 29]) (bs := [1]) (afts := [[], [], [], [], [], [], [], [], [], [], [], [], [], [], [], [], [], [], [], [], [], [], [], []]) (js := [0, 0]) mixed (.cons rfl .nil) (fun _ => rfl)
           (by
      refine dS 1 (fun γ ρ B hb hd => op_fieldAddr (off := 0) lb tf38_0 (.tmp (hb 1 _ rfl))) ?_
      refine DSteps.cons (j := 2) rfl (fun _ => rfl) (.run (fun γ ρ B hb hd => ⟨.none, OpStep.at ⟨ρ, (cvar gb_10 (rP r_api_Dot (rP rS (rP (rW (HDX go_8 (o_3 * 1) n_4)) (rP (rV 16 (rU UInt64)) (rP (rL r_api_Dest) r0))))) (ID_1, (Topic_2, ((), (Past_5, (To_6, ())))))) :: B, _⟩ (setO ⟨ρ, (cvar gb_10 (rP r_api_Dot (rP rS (rP (rW (HDX go_8 (o_3 * 1) n_4)) (rP (rV 16 (rU UInt64)) (rP (rL r_api_Dest) r0))))) (ID_1, (Topic_2, ((), (Past_5, (To_6, ())))))) :: B, _⟩ _ _) (op_loadA (j := 0) lb tA24 (.tmp (hl hd 0 6 rfl)) rfl (Comp.trans (Comp.self (rP r_api_Dot (rP rS (rP (rW (HDX go_8 (o_3 * 1) n_4)) (rP (rV 16 (rU UInt64)) (rP (rL r_api_Dest) r0))))) (ID_1, (Topic_2, ((), (Past_5, (To_6, ())))))) (Comp.at' (Comp.inF (Comp.self r_api_Dot ID_1) (Nat.le_of_ble_eq_true rfl)) (by rfl : _ = 0)) (Nat.le_of_ble_eq_true rfl)) rfl)⟩)) ?_
      refine dS 3 (fun γ ρ B hb hd => (op_call (js := []) ld cl27 (sim_event_MayDot k ID_1 v_11 hv_v_11) .func (.cons (.tmp (hl hd 1 7 rfl)) .nil) rfl).post (fun _ => Imp.refl)) ?_
      refine dS 4 (fun γ ρ B hb hd => op_not lb (.tmp (hl hd 2 8 rfl)) hv_v_12) ?_
      refine dS 5 (fun γ ρ B hb hd => op_move lb (.tmp (hl hd 3 9 rfl))) ?_
      refine DSteps.cons (j := 6) rfl (fun _ => rfl) (.run (fun γ ρ B hb hd => ⟨.yes rfl (ltB rfl) (hl hd 4 10 rfl) hc3, OpStep.at ⟨ρ, B, _⟩ (setO ⟨ρ, B, _⟩ _ _) (op_fieldAddr (off := 4) lb tf38_3 (.tmp (hb 1 _ rfl)))⟩)) ?_
      refine DSteps.cons (j := 7) rfl (fun _ => rfl) (.run (fun γ ρ B hb hd => ⟨.yes rfl (ltB rfl) (hl hd 4 10 rfl) hc3, OpStep.at ⟨ρ, (cvar gb_10 (rP r_api_Dot (rP rS (rP (rW (HDX go_8 (o_3 * 1) n_4)) (rP (rV 16 (rU UInt64)) (rP (rL r_api_Dest) r0))))) (ID_1, (Topic_2, ((), (Past_5, (To_6, ())))))) :: B, _⟩ (setO ⟨ρ, (cvar gb_10 (rP r_api_Dot (rP rS (rP (rW (HDX go_8 (o_3 * 1) n_4)) (rP (rV 16 (rU UInt64)) (rP (rL r_api_Dest) r0))))) (ID_1, (Topic_2, ((), (Past_5, (To_6, ())))))) :: B, _⟩ _ _) (op_loadA (j := 0) lb tA26 (.tmp (hl hd 5 11 rfl)) rfl (Comp.trans (Comp.self (rP r_api_Dot (rP rS (rP (rW (HDX go_8 (o_3 * 1) n_4)) (rP (rV 16 (rU UInt64)) (rP (rL r_api_Dest) r0))))) (ID_1, (Topic_2, ((), (Past_5, (To_6, ())))))) (Comp.at' (Comp.inS (Comp.inS (Comp.inS (Comp.inF (Comp.self (rV 16 (rU UInt64)) Past_5) (Nat.le_of_ble_eq_true rfl))))) (by rfl : _ = 4)) (Nat.le_of_ble_eq_true rfl)) rfl)⟩)) ?_
      refine DSteps.cons (j := 8) rfl (fun _ => rfl) (.run (fun γ ρ B hb hd => ⟨.yes rfl (ltB rfl) (hl hd 4 10 rfl) hc3, OpStep.at ⟨ρ, B, _⟩ (setO ⟨ρ, B, _⟩ _ _) ((op_call (js := []) ld cl29 (sim_event_mayVector k Past_5 v_13 hv_v_13) .func (.cons (.tmp (hl hd 6 12 rfl)) .nil) rfl).post (fun _ => Imp.refl))⟩)) ?_
      refine DSteps.cons (j := 9) rfl (fun _ => rfl) (.run (fun γ ρ B hb hd => ⟨.yes rfl (ltB rfl) (hl hd 4 10 rfl) hc3, OpStep.at ⟨ρ, B, _⟩ (setO ⟨ρ, B, _⟩ _ _) (op_not lb (.tmp (hl hd 7 13 rfl)) hv_v_14)⟩)) ?_
      refine dS 10 (fun γ ρ B hb hd => op_pickF lb (.tmp (hl hd 4 10 rfl)) hc3 (.tmp (hl hd 8 14 rfl))) ?_
      refine dS 11 (fun γ ρ B hb hd => op_move lb (.tmp (hl hd 9 15 rfl))) ?_
      refine DSteps.cons (j := 12) rfl (fun _ => rfl) (.skip (fun γ ρ B hb hd => ⟨.no rfl (ltB rfl) (hl hd 10 16 rfl) hc5, rfl, rfl, rfl, fun d h => by cases h; exact ltB rfl⟩)) ?_
      refine DSteps.cons (j := 13) rfl (fun _ => rfl) (.skip (fun γ ρ B hb hd => ⟨.no rfl (ltB rfl) (hl hd 10 16 rfl) hc5, rfl, rfl, rfl, fun d h => by cases h; exact ltB rfl⟩)) ?_
      refine DSteps.cons (j := 14) rfl (fun _ => rfl) (.skip (fun γ ρ B hb hd => ⟨.no rfl (ltB rfl) (hl hd 10 16 rfl) hc5, rfl, rfl, rfl, fun d h => by cases h; exact ltB rfl⟩)) ?_
      refine DSteps.cons (j := 15) rfl (fun _ => rfl) (.skip (fun γ ρ B hb hd => ⟨.no rfl (ltB rfl) (hl hd 10 16 rfl) hc5, rfl, rfl, rfl, fun d h => by cases h; exact ltB rfl⟩)) ?_
      refine DSteps.cons (j := 16) rfl (fun _ => rfl) (.skip (fun γ ρ B hb hd => ⟨.no rfl (ltB rfl) (hl hd 10 16 rfl) hc5, rfl, rfl, rfl, fun d h => by cases h; exact ltB rfl⟩)) ?_
      refine DSteps.cons (j := 17) rfl (fun _ => rfl) (.skip (fun γ ρ B hb hd => ⟨.no rfl (ltB rfl) (hl hd 10 16 rfl) hc5, rfl, rfl, rfl, fun d h => by cases h; exact ltB rfl⟩)) ?_
      refine DSteps.cons (j := 18) rfl (fun _ => rfl) (.skip (fun γ ρ B hb hd => ⟨.no rfl (ltB rfl) (hl hd 10 16 rfl) hc5, rfl, rfl, rfl, fun d h => by cases h; exact ltB rfl⟩)) ?_
      refine DSteps.cons (j := 19) rfl (fun _ => rfl) (.skip (fun γ ρ B hb hd => ⟨.no rfl (ltB rfl) (hl hd 10 16 rfl) hc5, rfl, rfl, rfl, fun d h => by cases h; exact ltB rfl⟩)) ?_
      refine DSteps.cons (j := 20) rfl (fun _ => rfl) (.skip (fun γ ρ B hb hd => ⟨.no rfl (ltB rfl) (hl hd 10 16 rfl) hc5, rfl, rfl, rfl, fun d h => by cases h; exact ltB rfl⟩)) ?_
      refine DSteps.cons (j := 21) rfl (fun _ => rfl) (.skip (fun γ ρ B hb hd => ⟨.no rfl (ltB rfl) (hl hd 10 16 rfl) hc5, rfl, rfl, rfl, fun d h => by cases h; exact ltB rfl⟩)) ?_
      refine DSteps.cons (j := 22) rfl (fun _ => rfl) (.skip (fun γ ρ B hb hd => ⟨.no rfl (ltB rfl) (hl hd 10 16 rfl) hc5, rfl, rfl, rfl, fun d h => by cases h; exact ltB rfl⟩)) ?_
      refine DSteps.cons (j := 23) rfl (fun _ => rfl) (.skip (fun γ ρ B hb hd => ⟨.no rfl (ltB rfl) (hl hd 10 16 rfl) hc5, rfl, rfl, rfl, fun d h => by cases h; exact ltB rfl⟩)) ?_
      refine dS 24 (fun γ ρ B hb hd => op_pickT lb (.tmp (hl hd 10 16 rfl)) hc5 .cB) ?_
      exact DSteps.nil)
           (by decide +kernel) (fun _ => rfl) rfl (fun _ => rfl) (fun _ => rfl) rfl (by decide) (by decide) (by decide +kernel) (fun _ d h => by cases h)
           (ρ' := fun γ => [(1, ov (PTR gb_10 0)), (29, ov (S rB true))])
           (X' := fun γ => [cown go_8 (rU UInt8) x_7 0 gc_9, cvar gb_10 (rP r_api_Dot (rP rS (rP (rW (HDX go_8 (o_3 * 1) n_4)) (rP (rV 16 (rU UInt64)) (rP (rL r_api_Dest) r0))))) (ID_1, (Topic_2, ((), (Past_5, (To_6, ())))))])
           (fun γ ρ hb hd => (.cons (hb 1 _ rfl (by decide)) (.cons (hdq hd 23 29 rfl) .nil))) (fun _ => rfl) (fun γ => ?_)
       refine JQ.at ⟨[(1, ov (PTR gb_10 0)), (29, ov (S rB true))], [cown go_8 (rU UInt8) x_7 0 gc_9, cvar gb_10 (rP r_api_Dot (rP rS (rP (rW (HDX go_8 (o_3 * 1) n_4)) (rP (rV 16 (rU UInt64)) (rP (rL r_api_Dest) r0))))) (ID_1, (Topic_2, ((), (Past_5, (To_6, ())))))], []⟩ ?_
       replace hx1 := Option.some.inj hx1
       first | subst hx1 | clear hx1
       refine JQ.pre (Imp.var (j := 1) (q := (rP r_api_Dot (rP rS (rP (rW (HDX go_8 (o_3 * 1) n_4)) (rP (rV 16 (rU UInt64)) (rP (rL r_api_Dest) r0)))))) (y := (ID_1, (Topic_2, ((), (Past_5, (To_6, ())))))) rfl Wk.refl) ?_
       exact JQ.join () (Imp.norm (js := [1, 0]) rfl (.cons rfl (.cons rfl .nil)))
     · replace hx1 := lt1_inv hx1
       obtain ⟨v_15, hv_v_15, hx1⟩ := hx1
       replace hx1 := bnd_inv hx1
       obtain ⟨i_16, hv_i_16, hx1⟩ := hx1
       replace hx1 := lt1_inv hx1
       obtain ⟨v_17, hv_v_17, hx1⟩ := hx1
       replace hx1 := lt1_inv hx1
       obtain ⟨v_18, hv_v_18, hx1⟩ := hx1
       replace hx1 := lt1_inv hx1
       obtain ⟨v_19, hv_v_19, hx1⟩ := hx1
       refine JC.anyE (kl := []) (kk := 0) (base := [(1, ov (PTR gb_10 0))])
           (fs := fun γ => [⟨some 6, ov (PTR gb_10 (0 + 0))⟩, ⟨some 7, ov (A r_api_Dot ID_1)⟩, ⟨some 8, ov (S rB v_11)⟩, ⟨some 9, ov (S rB v_12)⟩, ⟨some 10, ov (S rB v_12)⟩, ⟨some 11, ov (PTR gb_10 (0 + 4))⟩, ⟨some 12, ov (A (rV 16 (rU UInt64)) Past_5)⟩, ⟨some 13, ov (S rB v_13)⟩, ⟨some 14, ov (S rB v_14)⟩, ⟨some 15, ov (S rB v_14)⟩, ⟨some 16, ov (S rB v_14)⟩, ⟨some 17, ov (PTR gb_10 (0 + 0))⟩, ⟨some 18, ov (PTR gb_10 ((0 + 0) + 0))⟩, ⟨some 19, ov (S (rI .i64) ID_1.Region)⟩, ⟨some 20, ov (S (rI .i64) v_15)⟩, ⟨some 21, ov (PTR gb_10 (0 + 4))⟩, ⟨some 22, ov (PTR gb_10 ((0 + 4) + i_16.1 * 1))⟩, ⟨some 23, ov (S (rU UInt64) v_17)⟩, ⟨some 24, ov (PTR gb_10 (0 + 0))⟩, ⟨some 25, ov (PTR gb_10 ((0 + 0) + 1))⟩, ⟨some 26, ov (S (rU UInt64) ID_1.Count)⟩, ⟨some 27, ov (S (rU UInt64) v_18)⟩, ⟨some 28, ov (S rB v_19)⟩, ⟨some 29, ov (S rB v_19)⟩])
           (rs := fun γ => [⟨cown go_8 (rU UInt8) x_7 0 gc_9, none, none, []⟩, ⟨cvar gb_10 (rP r_api_Dot (rP rS (rP (rW (HDX go_8 (o_3 * 1) n_4)) (rP (rV 16 (rU UInt64)) (rP (rL r_api_Dest) r0))))) (ID_1, (Topic_2, ((), (Past_5, (To_6, ()))))), none, none, [1, 6, 13, 17, 20]⟩])
           (ds := [6, 7, 8, 9, 10, 11, 12, 13, 14, 15, 16, 17, 18, 19, 20, 21, 22, 23, 24, 25, 26, 27, 28, 29]) (bs := [1]) (afts := [[], [], [], [], [], [], [], [], [], [], [], [], [], [], [], [], [], [], [], [], [], [], [], []]) (js := [0, 0]) mixed (.cons rfl .nil) (fun _ => rfl)
           (by
      refine dS 1 (fun γ ρ B hb hd => op_fieldAddr (off := 0) lb tf38_0 (.tmp (hb 1 _ rfl))) ?_
      refine DSteps.cons (j := 2) rfl (fun _ => rfl) (.run (fun γ ρ B hb hd => ⟨.none, OpStep.at ⟨ρ, (cvar gb_10 (rP r_api_Dot (rP rS (rP (rW (HDX go_8 (o_3 * 1) n_4)) (rP (rV 16 (rU UInt64)) (rP (rL r_api_Dest) r0))))) (ID_1, (Topic_2, ((), (Past_5, (To_6, ())))))) :: B, _⟩ (setO ⟨ρ, (cvar gb_10 (rP r_api_Dot (rP rS (rP (rW (HDX go_8 (o_3 * 1) n_4)) (rP (rV 16 (rU UInt64)) (rP (rL r_api_Dest) r0))))) (ID_1, (Topic_2, ((), (Past_5, (To_6, ())))))) :: B, _⟩ _ _) (op_loadA (j := 0) lb tA24 (.tmp (hl hd 0 6 rfl)) rfl (Comp.trans (Comp.self (rP r_api_Dot (rP rS (rP (rW (HDX go_8 (o_3 * 1) n_4)) (rP (rV 16 (rU UInt64)) (rP (rL r_api_Dest) r0))))) (ID_1, (Topic_2, ((), (Past_5, (To_6, ())))))) (Comp.at' (Comp.inF (Comp.self r_api_Dot ID_1) (Nat.le_of_ble_eq_true rfl)) (by rfl : _ = 0)) (Nat.le_of_ble_eq_true rfl)) rfl)⟩)) ?_
      refine dS 3 (fun γ ρ B hb hd => (op_call (js := []) ld cl27 (sim_event_MayDot k ID_1 v_11 hv_v_11) .func (.cons (.tmp (hl hd 1 7 rfl)) .nil) rfl).post (fun _ => Imp.refl)) ?_
      refine dS 4 (fun γ ρ B hb hd => op_not lb (.tmp (hl hd 2 8 rfl)) hv_v_12) ?_
      refine dS 5 (fun γ ρ B hb hd => op_move lb (.tmp (hl hd 3 9 rfl))) ?_
      refine DSteps.cons (j := 6) rfl (fun _ => rfl) (.run (fun γ ρ B hb hd => ⟨.yes rfl (ltB rfl) (hl hd 4 10 rfl) hc3, OpStep.at ⟨ρ, B, _⟩ (setO ⟨ρ, B, _⟩ _ _) (op_fieldAddr (off := 4) lb tf38_3 (.tmp (hb 1 _ rfl)))⟩)) ?_
      refine DSteps.cons (j := 7) rfl (fun _ => rfl) (.run (fun γ ρ B hb hd => ⟨.yes rfl (ltB rfl) (hl hd 4 10 rfl) hc3, OpStep.at ⟨ρ, (cvar gb_10 (rP r_api_Dot (rP rS (rP (rW (HDX go_8 (o_3 * 1) n_4)) (rP (rV 16 (rU UInt64)) (rP (rL r_api_Dest) r0))))) (ID_1, (Topic_2, ((), (Past_5, (To_6, ())))))) :: B, _⟩ (setO ⟨ρ, (cvar gb_10 (rP r_api_Dot (rP rS (rP (rW (HDX go_8 (o_3 * 1) n_4)) (rP (rV 16 (rU UInt64)) (rP (rL r_api_Dest) r0))))) (ID_1, (Topic_2, ((), (Past_5, (To_6, ())))))) :: B, _⟩ _ _) (op_loadA (j := 0) lb tA26 (.tmp (hl hd 5 11 rfl)) rfl (Comp.trans (Comp.self (rP r_api_Dot (rP rS (rP (rW (HDX go_8 (o_3 * 1) n_4)) (rP (rV 16 (rU UInt64)) (rP (rL r_api_Dest) r0))))) (ID_1, (Topic_2, ((), (Past_5, (To_6, ())))))) (Comp.at' (Comp.inS (Comp.inS (Comp.inS (Comp.inF (Comp.self (rV 16 (rU UInt64)) Past_5) (Nat.le_of_ble_eq_true rfl))))) (by rfl : _ = 4)) (Nat.le_of_ble_eq_true rfl)) rfl)⟩)) ?_
      refine DSteps.cons (j := 8) rfl (fun _ => rfl) (.run (fun γ ρ B hb hd => ⟨.yes rfl (ltB rfl) (hl hd 4 10 rfl) hc3, OpStep.at ⟨ρ, B, _⟩ (setO ⟨ρ, B, _⟩ _ _) ((op_call (js := []) ld cl29 (sim_event_mayVector k Past_5 v_13 hv_v_13) .func (.cons (.tmp (hl hd 6 12 rfl)) .nil) rfl).post (fun _ => Imp.refl))⟩)) ?_
      refine DSteps.cons (j := 9) rfl (fun _ => rfl) (.run (fun γ ρ B hb hd => ⟨.yes rfl (ltB rfl) (hl hd 4 10 rfl) hc3, OpStep.at ⟨ρ, B, _⟩ (setO ⟨ρ, B, _⟩ _ _) (op_not lb (.tmp (hl hd 7 13 rfl)) hv_v_14)⟩)) ?_
      refine dS 10 (fun γ ρ B hb hd => op_pickF lb (.tmp (hl hd 4 10 rfl)) hc3 (.tmp (hl hd 8 14 rfl))) ?_
      refine dS 11 (fun γ ρ B hb hd => op_move lb (.tmp (hl hd 9 15 rfl))) ?_
      refine DSteps.cons (j := 12) rfl (fun _ => rfl) (.run (fun γ ρ B hb hd => ⟨.yes rfl (ltB rfl) (hl hd 10 16 rfl) hc5, OpStep.at ⟨ρ, B, _⟩ (setO ⟨ρ, B, _⟩ _ _) (op_fieldAddr (off := 0) lb tf38_0 (.tmp (hb 1 _ rfl)))⟩)) ?_
      refine DSteps.cons (j := 13) rfl (fun _ => rfl) (.run (fun γ ρ B hb hd => ⟨.yes rfl (ltB rfl) (hl hd 10 16 rfl) hc5, OpStep.at ⟨ρ, B, _⟩ (setO ⟨ρ, B, _⟩ _ _) (op_fieldAddr (off := 0) lb tf24_0 (.tmp (hl hd 11 17 rfl)))⟩)) ?_
      refine DSteps.cons (j := 14) rfl (fun _ => rfl) (.run (fun γ ρ B hb hd => ⟨.yes rfl (ltB rfl) (hl hd 10 16 rfl) hc5, OpStep.at ⟨ρ, (cvar gb_10 (rP r_api_Dot (rP rS (rP (rW (HDX go_8 (o_3 * 1) n_4)) (rP (rV 16 (rU UInt64)) (rP (rL r_api_Dest) r0))))) (ID_1, (Topic_2, ((), (Past_5, (To_6, ())))))) :: B, _⟩ (setO ⟨ρ, (cvar gb_10 (rP r_api_Dot (rP rS (rP (rW (HDX go_8 (o_3 * 1) n_4)) (rP (rV 16 (rU UInt64)) (rP (rL r_api_Dest) r0))))) (ID_1, (Topic_2, ((), (Past_5, (To_6, ())))))) :: B, _⟩ _ _) (op_loadS (j := 0) lb tS3 (.tmp (hl hd 12 18 rfl)) rfl (Comp.trans (Comp.trans (Comp.self (rP r_api_Dot (rP rS (rP (rW (HDX go_8 (o_3 * 1) n_4)) (rP (rV 16 (rU UInt64)) (rP (rL r_api_Dest) r0))))) (ID_1, (Topic_2, ((), (Past_5, (To_6, ())))))) (Comp.at' (Comp.inF (Comp.self r_api_Dot ID_1) (Nat.le_of_ble_eq_true rfl)) (by rfl : _ = 0)) (Nat.le_of_ble_eq_true rfl)) (comp_api_Dot_Region ID_1) (Nat.le_of_ble_eq_true rfl)) rfl rfl)⟩)) ?_
      refine DSteps.cons (j := 15) rfl (fun _ => rfl) (.run (fun γ ρ B hb hd => ⟨.yes rfl (ltB rfl) (hl hd 10 16 rfl) hc5, OpStep.at ⟨ρ, B, _⟩ (setO ⟨ρ, B, _⟩ _ _) (op_arI lb (.tmp (hl hd 13 19 rfl)) .cI (congrArg some hv_v_15))⟩)) ?_
      refine DSteps.cons (j := 16) rfl (fun _ => rfl) (.run (fun γ ρ B hb hd => ⟨.yes rfl (ltB rfl) (hl hd 10 16 rfl) hc5, OpStep.at ⟨ρ, B, _⟩ (setO ⟨ρ, B, _⟩ _ _) (op_fieldAddr (off := 4) lb tf38_3 (.tmp (hb 1 _ rfl)))⟩)) ?_
      refine DSteps.cons (j := 17) rfl (fun _ => rfl) (.run (fun γ ρ B hb hd => ⟨.yes rfl (ltB rfl) (hl hd 10 16 rfl) hc5, OpStep.at ⟨ρ, B, _⟩ (setO ⟨ρ, B, _⟩ _ _) (op_indexAddrIF lb tr26 (.tmp (hl hd 15 21 rfl)) (.tmp (hl hd 14 20 rfl)) hv_i_16)⟩)) ?_
      refine DSteps.cons (j := 18) rfl (fun _ => rfl) (.run (fun γ ρ B hb hd => ⟨.yes rfl (ltB rfl) (hl hd 10 16 rfl) hc5, OpStep.at ⟨ρ, (cvar gb_10 (rP r_api_Dot (rP rS (rP (rW (HDX go_8 (o_3 * 1) n_4)) (rP (rV 16 (rU UInt64)) (rP (rL r_api_Dest) r0))))) (ID_1, (Topic_2, ((), (Past_5, (To_6, ())))))) :: B, _⟩ (setO ⟨ρ, (cvar gb_10 (rP r_api_Dot (rP rS (rP (rW (HDX go_8 (o_3 * 1) n_4)) (rP (rV 16 (rU UInt64)) (rP (rL r_api_Dest) r0))))) (ID_1, (Topic_2, ((), (Past_5, (To_6, ())))))) :: B, _⟩ _ _) (op_loadS (j := 0) lb tS22 (.tmp (hl hd 16 22 rfl)) rfl (Comp.at (Comp.trans (Comp.self (rP r_api_Dot (rP rS (rP (rW (HDX go_8 (o_3 * 1) n_4)) (rP (rV 16 (rU UInt64)) (rP (rL r_api_Dest) r0))))) (ID_1, (Topic_2, ((), (Past_5, (To_6, ())))))) (Comp.at' (Comp.inS (Comp.inS (Comp.inS (Comp.inF (Comp.self (rV 16 (rU UInt64)) Past_5) (Nat.le_of_ble_eq_true rfl))))) (by rfl : _ = 4)) (Nat.le_of_ble_eq_true rfl)) i_16.2 rfl) rfl hv_v_17)⟩)) ?_
      refine DSteps.cons (j := 19) rfl (fun _ => rfl) (.run (fun γ ρ B hb hd => ⟨.yes rfl (ltB rfl) (hl hd 10 16 rfl) hc5, OpStep.at ⟨ρ, B, _⟩ (setO ⟨ρ, B, _⟩ _ _) (op_fieldAddr (off := 0) lb tf38_0 (.tmp (hb 1 _ rfl)))⟩)) ?_
      refine DSteps.cons (j := 20) rfl (fun _ => rfl) (.run (fun γ ρ B hb hd => ⟨.yes rfl (ltB rfl) (hl hd 10 16 rfl) hc5, OpStep.at ⟨ρ, B, _⟩ (setO ⟨ρ, B, _⟩ _ _) (op_fieldAddr (off := 1) lb tf24_1 (.tmp (hl hd 18 24 rfl)))⟩)) ?_
      refine DSteps.cons (j := 21) rfl (fun _ => rfl) (.run (fun γ ρ B hb hd => ⟨.yes rfl (ltB rfl) (hl hd 10 16 rfl) hc5, OpStep.at ⟨ρ, (cvar gb_10 (rP r_api_Dot (rP rS (rP (rW (HDX go_8 (o_3 * 1) n_4)) (rP (rV 16 (rU UInt64)) (rP (rL r_api_Dest) r0))))) (ID_1, (Topic_2, ((), (Past_5, (To_6, ())))))) :: B, _⟩ (setO ⟨ρ, (cvar gb_10 (rP r_api_Dot (rP rS (rP (rW (HDX go_8 (o_3 * 1) n_4)) (rP (rV 16 (rU UInt64)) (rP (rL r_api_Dest) r0))))) (ID_1, (Topic_2, ((), (Past_5, (To_6, ())))))) :: B, _⟩ _ _) (op_loadS (j := 0) lb tS22 (.tmp (hl hd 19 25 rfl)) rfl (Comp.trans (Comp.trans (Comp.self (rP r_api_Dot (rP rS (rP (rW (HDX go_8 (o_3 * 1) n_4)) (rP (rV 16 (rU UInt64)) (rP (rL r_api_Dest) r0))))) (ID_1, (Topic_2, ((), (Past_5, (To_6, ())))))) (Comp.at' (Comp.inF (Comp.self r_api_Dot ID_1) (Nat.le_of_ble_eq_true rfl)) (by rfl : _ = 0)) (Nat.le_of_ble_eq_true rfl)) (comp_api_Dot_Count ID_1) (Nat.le_of_ble_eq_true rfl)) rfl rfl)⟩)) ?_
      refine DSteps.cons (j := 22) rfl (fun _ => rfl) (.run (fun γ ρ B hb hd => ⟨.yes rfl (ltB rfl) (hl hd 10 16 rfl) hc5, OpStep.at ⟨ρ, B, _⟩ (setO ⟨ρ, B, _⟩ _ _) (op_arU lb (.tmp (hl hd 20 26 rfl)) (HasO.cU (x := (1 : UInt64)) rfl (by decide)) (congrArg some hv_v_18))⟩)) ?_
      refine DSteps.cons (j := 23) rfl (fun _ => rfl) (.run (fun γ ρ B hb hd => ⟨.yes rfl (ltB rfl) (hl hd 10 16 rfl) hc5, OpStep.at ⟨ρ, B, _⟩ (setO ⟨ρ, B, _⟩ _ _) (op_cmpU lb (.tmp (hl hd 17 23 rfl)) (.tmp (hl hd 21 27 rfl)) (congrArg some hv_v_19))⟩)) ?_
      refine dS 24 (fun γ ρ B hb hd => op_pickF lb (.tmp (hl hd 10 16 rfl)) hc5 (.tmp (hl hd 22 28 rfl))) ?_
      exact DSteps.nil)
           (by decide +kernel) (fun _ => rfl) rfl (fun _ => rfl) (fun _ => rfl) rfl (by decide) (by decide) (by decide +kernel) (fun _ d h => by cases h)
           (ρ' := fun γ => [(1, ov (PTR gb_10 0)), (29, ov (S rB v_19))])
           (X' := fun γ => [cown go_8 (rU UInt8) x_7 0 gc_9, cvar gb_10 (rP r_api_Dot (rP rS (rP (rW (HDX go_8 (o_3 * 1) n_4)) (rP (rV 16 (rU UInt64)) (rP (rL r_api_Dest) r0))))) (ID_1, (Topic_2, ((), (Past_5, (To_6, ())))))])
           (fun γ ρ hb hd => (.cons (hb 1 _ rfl (by decide)) (.cons (hdq hd 23 29 rfl) .nil))) (fun _ => rfl) (fun γ => ?_)
       refine JQ.at ⟨[(1, ov (PTR gb_10 0)), (29, ov (S rB v_19))], [cown go_8 (rU UInt8) x_7 0 gc_9, cvar gb_10 (rP r_api_Dot (rP rS (rP (rW (HDX go_8 (o_3 * 1) n_4)) (rP (rV 16 (rU UInt64)) (rP (rL r_api_Dest) r0))))) (ID_1, (Topic_2, ((), (Past_5, (To_6, ())))))], []⟩ ?_
       replace hx1 := Option.some.inj hx1
       first | subst hx1 | clear hx1
       refine JQ.pre (Imp.var (j := 1) (q := (rP r_api_Dot (rP rS (rP (rW (HDX go_8 (o_3 * 1) n_4)) (rP (rV 16 (rU UInt64)) (rP (rL r_api_Dest) r0)))))) (y := (ID_1, (Topic_2, ((), (Past_5, (To_6, ())))))) rfl Wk.refl) ?_
       exact JQ.join () (Imp.norm (js := [1, 0]) rfl (.cons rfl (.cons rfl .nil)))

end Go.Proofs.Ythoggbomakolkaa
