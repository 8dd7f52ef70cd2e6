/- Walks. -/
import Derived.Test.YtkbkdfcakpbojaaT
namespace Go.Proofs.Ytkbkdfcakpbojaa
open Go Fw
set_option linter.unusedVariables false
set_option maxRecDepth 100000
set_option maxHeartbeats 4000000

theorem sim_ref01_Unhex (k : Nat) (t_1 : (List UInt8)) (r : (List UInt8) × Bool) (hm : ref01_Unhex k t_1 = some r) : Sim Try.prog 36 [S rS t_1] [] (γ := Option Nat × Nat) (fun q => [cown q.1 (rU UInt8) r.1 0 q.2]) (fun q => .tup [.val (HDR q.1 0 (List.length r.1) q.2), .val (S rB r.2)]) := by
 unfold ref01_Unhex at hm
 refine Sim.of Try.func36 rfl rfl (Nat.le_of_ble_eq_true rfl) (fun e0 w0 => ?_)
 refine JC.at ⟨[(0, ov (S rS t_1))], [], []⟩ ?_
 refine JC.seq ?_
 refine JC.region ?_
 refine jc (op_assign lb HasO.nilH) ?_
 refine jc (op_assign lb .cB) ?_
 refine JL.nil ?_
 refine JQ.then ?_
 refine JC.seq ?_
 refine JC.seq ?_
 refine JC.region ?_
 refine jc (op_move lb (.tmp rfl)) ?_
 refine jc (op_lenS lb tu9 (.tmp rfl)) ?_
 replace hm := bnd_inv hm
 obtain ⟨v_2, hv_v_2, hm⟩ := hm
 refine jc (op_arI lb (.tmp rfl) .cI hv_v_2) ?_
 replace hm := lt1_inv hm
 obtain ⟨v_3, hv_v_3, hm⟩ := hm
 refine jc (op_cmpI lb (.tmp rfl) .cI (congrArg some hv_v_3)) ?_
 refine JL.nil ?_
 refine JQ.then ?_
 replace hm := iteB_inv hm
 rcases hm with ⟨hc1, hm⟩ | ⟨hc1, hm⟩
 · refine JC.condT (.tmp rfl) hc1 ?_
   refine JC.seq ?_
   refine JC.region ?_
   refine jc (op_assign lb HasO.nilH) ?_
   refine jc (op_assign lb .cB) ?_
   refine JL.nil ?_
   refine JQ.then ?_
   refine JC.ret ?_
   refine JQ.outR ?_
   replace hm := Option.some.inj hm
   subst hm
   refine JQ.pre (Imp.nilown (rU UInt8)) ?_
   exact JQ.done (js := [0]) (ss := [.val (HDR none 0 (List.length ([] : (List UInt8))) (0)), .val (S rB false)]) (none, 0) (.inl rfl) (.nil rfl) rfl (.cons (.tmp rfl) (.cons (.tmp rfl) .nil)) rfl rfl rfl
 · refine JC.condF (.tmp rfl) hc1 ?_
   refine JC.skip ?_
   refine JQ.then ?_
   refine JC.seq ?_
   refine JC.region ?_
   refine jc (op_assign lb HasO.nilH) ?_
   refine JL.nil ?_
   refine JQ.then ?_
   replace hm := bnd_inv hm
   obtain ⟨tv2, hx2, hq2⟩ := hm
   refine JC.seqK (α := (List UInt8)) (γ := Option Nat × Nat) (stj := fun v q => ⟨[(4, ov (HDR q.1 0 (List.length v) q.2))], [cown q.1 (rU UInt8) v 0 q.2], []⟩) (p := fun v => tv2 = (.inl v)) (fun v q hv => ?_) ?_
   · subst hv
     obtain ⟨x_51, hvv⟩ : ∃ z, z = v := ⟨_, rfl⟩
     subst hvv
     obtain ⟨go_52, gc_53⟩ := q
     dsimp only at hq2
     refine JC.at ⟨[(4, ov (HDR go_52 0 (List.length x_51) gc_53))], [cown go_52 (rU UInt8) x_51 0 gc_53], []⟩ ?_
     refine JC.seq ?_
     refine JC.region ?_
     refine jc (op_move lb (.tmp rfl)) ?_
     refine jc (op_assign lb (.tmp rfl)) ?_
     refine jc (op_assign lb .cB) ?_
     refine JL.nil ?_
     refine JQ.then ?_
     refine JC.ret ?_
     replace hq2 := Option.some.inj hq2
     subst hq2
     exact JQ.done (js := [0]) (ss := [.val (HDR go_52 0 (List.length x_51) gc_53), .val (S rB true)]) (go_52, gc_53) (.inl rfl) (.nil rfl) rfl (.cons (.tmp rfl) (.cons (.tmp rfl) .nil)) rfl rfl rfl
   · refine JC.seq ?_
     refine JC.region ?_
     refine jc (op_assign lb .cI) ?_
     refine JL.nil ?_
     refine JQ.then ?_
     refine JC.block ?_
     replace hx2 := bnd_inv hx2
     obtain ⟨tv3, hL3, hq3⟩ := hx2
     refine JC.pre (Imp.nilown (rU UInt8)) ?_
     refine JC.pre ?_ (JC.loop (γ := Option Nat × Nat) (stf := fun s q => ⟨[(0, ov (S rS t_1)), (4, ov (HDR q.1 0 (List.length s.1) q.2)), (5, ov (S (rI .i64) s.2))], [cown q.1 (rU UInt8) s.1 0 q.2], []⟩) (q := (none, 0)) hL3 ?_)
     · exact (Imp.norm (js := [0]) rfl (.cons rfl (.cons rfl (.cons rfl .nil))))
     · intro s q x hx hr
       obtain ⟨x_4, x_5⟩ := s
       obtain ⟨go_6, gc_7⟩ := q
       change ref01_Unhex.b1 k t_1 x_4 x_5 = some x at hx
       unfold ref01_Unhex.b1 at hx
       refine JC.at ⟨[(0, ov (S rS t_1)), (4, ov (HDR go_6 0 (List.length x_4) gc_7)), (5, ov (S (rI .i64) x_5))], [cown go_6 (rU UInt8) x_4 0 gc_7], []⟩ ?_
       refine JC.seq ?_
       refine JC.seq ?_
       refine JC.region ?_
       refine jc (op_move lb (.tmp rfl)) ?_
       refine jc (op_move lb (.tmp rfl)) ?_
       refine jc (op_lenS lb tu9 (.tmp rfl)) ?_
       replace hx := lt1_inv hx
       obtain ⟨v_8, hv_v_8, hx⟩ := hx
       refine jc (op_cmpI lb (.tmp rfl) (.tmp rfl) (congrArg some hv_v_8)) ?_
       refine JL.nil ?_
       refine JQ.then ?_
       replace hx := iteB_inv hx
       rcases hx with ⟨hc4, hx⟩ | ⟨hc4, hx⟩
       · refine JC.condT (.tmp rfl) hc4 ?_
         refine JC.skip ?_
         refine JQ.then ?_
         replace hx := bnd_inv hx
         obtain ⟨tv5, hx5, hq5⟩ := hx
         refine JC.seqK (α := (List UInt8)) (γ := Option Nat × Nat) (stj := fun v q => ⟨[(0, ov (S rS t_1)), (4, ov (HDR q.1 0 (List.length v) q.2)), (5, ov (S (rI .i64) x_5))], [cown q.1 (rU UInt8) v 0 q.2], []⟩) (p := fun v => tv5 = (.inl v)) (fun v q hv => ?_) ?_
         · subst hv
           obtain ⟨x_44, hvv⟩ : ∃ z, z = v := ⟨_, rfl⟩
           subst hvv
           obtain ⟨go_45, gc_46⟩ := q
           dsimp only at hq5
           refine JC.at ⟨[(0, ov (S rS t_1)), (4, ov (HDR go_45 0 (List.length x_44) gc_46)), (5, ov (S (rI .i64) x_5))], [cown go_45 (rU UInt8) x_44 0 gc_46], []⟩ ?_
           refine JC.region ?_
           refine jc (op_move lb (.tmp rfl)) ?_
           replace hq5 := lt1_inv hq5
           obtain ⟨v_47, hv_v_47, hq5⟩ := hq5
           refine jc (op_arI lb (.tmp rfl) .cI (congrArg some hv_v_47)) ?_
           refine jc (op_assign lb (.tmp rfl)) ?_
           refine JL.nil ?_
           replace hq5 := Option.some.inj hq5
           first | subst hq5 | clear hq5
           exact JQ.next (go_45, gc_46) rfl (Imp.norm (js := [0]) rfl (.cons rfl (.cons rfl (.cons rfl .nil))))
         · refine JC.block ?_
           refine JC.seq ?_
           refine JC.region ?_
           refine jc (op_assign lb .cI) ?_
           refine JL.nil ?_
           refine JQ.then ?_
           replace hx5 := bnd_inv hx5
           obtain ⟨tv6, hx6, hq6⟩ := hx5
           refine JC.seqK (α := Int) (γ := Unit) (stj := fun v q => ⟨[(0, ov (S rS t_1)), (4, ov (HDR go_6 0 (List.length x_4) gc_7)), (5, ov (S (rI .i64) x_5)), (6, ov (S (rI .i64) v))], [cown go_6 (rU UInt8) x_4 0 gc_7], []⟩) (p := fun v => tv6 = (.inl v)) (fun v q hv => ?_) ?_
           · subst hv
             obtain ⟨x_39, hvv⟩ : ∃ z, z = v := ⟨_, rfl⟩
             subst hvv
             obtain _ := q
             dsimp only at hq6
             refine JC.at ⟨[(0, ov (S rS t_1)), (4, ov (HDR go_6 0 (List.length x_4) gc_7)), (5, ov (S (rI .i64) x_5)), (6, ov (S (rI .i64) x_39))], [cown go_6 (rU UInt8) x_4 0 gc_7], []⟩ ?_
             refine JC.region ?_
             refine jc (op_move lb (.tmp rfl)) ?_
             refine jc (op_move lb (.tmp rfl)) ?_
             replace hq6 := lt1_inv hq6
             obtain ⟨v_40, hv_v_40, hq6⟩ := hq6
             refine jc (op_convIU lb tu3 tu5 (.tmp rfl) hv_v_40) ?_
             refine jc (op_buildF (r := (rU UInt8)) lb tu23 tz5 tZ5 rfl (Nat.le_of_ble_eq_true rfl) (.S rfl (.tmp rfl) .nil) rfl) ?_
             replace hq6 := bnd_inv hq6
             obtain ⟨x_41, hv_x_41, hq6⟩ := hq6
             refine jx (op_appendL (j := 0) lb tu23 tu23 rfl tB5 rfl (Nat.lt_of_lt_of_le Nat.zero_lt_one (Nat.le_of_ble_eq_true rfl)) (Nat.lt_of_lt_of_le Nat.zero_lt_one (Nat.le_of_ble_eq_true rfl))  rfl (.tmp rfl) (.tmp rfl) hv_x_41) (fun q => ?_)
             obtain ⟨go_42, gc_43⟩ := q
             refine jc (op_assign lb (.tmp rfl)) ?_
             refine JL.nil ?_
             refine JQ.outNB ?_
             replace hq6 := Option.some.inj hq6
             first | subst hq6 | clear hq6
             exact JQ.joinK x_41 (go_42, gc_43) rfl (Imp.norm (js := [0]) rfl (.cons rfl (.cons rfl (.cons rfl .nil))))
           · refine JC.seq ?_
             refine JC.region ?_
             refine jc (op_move lb (.tmp rfl)) ?_
             refine jc (op_assign lb (.tmp rfl)) ?_
             refine JL.nil ?_
             refine JQ.then ?_
             refine JC.block ?_
             replace hx6 := bnd_inv hx6
             obtain ⟨tv7, hL7, hq7⟩ := hx6
             refine JC.pre ?_ (JC.loop (γ := Unit) (stf := fun s q => ⟨[(0, ov (S rS t_1)), (4, ov (HDR go_6 0 (List.length x_4) gc_7)), (5, ov (S (rI .i64) x_5)), (6, ov (S (rI .i64) s.1)), (7, ov (S (rI .i64) s.2))], [cown go_6 (rU UInt8) x_4 0 gc_7], []⟩) (q := ()) hL7 ?_)
             · exact (Imp.norm (js := [0]) rfl (.cons rfl (.cons rfl (.cons rfl (.cons rfl (.cons rfl .nil))))))
             · intro s q x hx hr
               obtain ⟨x_9, x_10⟩ := s
               obtain _ := q
               change ref01_Unhex.b2 k x_5 t_1 x_9 x_10 = some x at hx
               unfold ref01_Unhex.b2 at hx
               refine JC.at ⟨[(0, ov (S rS t_1)), (4, ov (HDR go_6 0 (List.length x_4) gc_7)), (5, ov (S (rI .i64) x_5)), (6, ov (S (rI .i64) x_9)), (7, ov (S (rI .i64) x_10))], [cown go_6 (rU UInt8) x_4 0 gc_7], []⟩ ?_
               refine JC.seq ?_
               refine JC.seq ?_
               refine JC.region ?_
               refine jc (op_move lb (.tmp rfl)) ?_
               refine jc (op_move lb (.tmp rfl)) ?_
               replace hx := lt1_inv hx
               obtain ⟨v_11, hv_v_11, hx⟩ := hx
               refine jc (op_arI lb (.tmp rfl) .cI (congrArg some hv_v_11)) ?_
               replace hx := lt1_inv hx
               obtain ⟨v_12, hv_v_12, hx⟩ := hx
               refine jc (op_cmpI lb (.tmp rfl) (.tmp rfl) (congrArg some hv_v_12)) ?_
               refine JL.nil ?_
               refine JQ.then ?_
               replace hx := iteB_inv hx
               rcases hx with ⟨hc8, hx⟩ | ⟨hc8, hx⟩
               · refine JC.condT (.tmp rfl) hc8 ?_
                 refine JC.skip ?_
                 refine JQ.then ?_
                 replace hx := bnd_inv hx
                 obtain ⟨tv9, hx9, hq9⟩ := hx
                 refine JC.seqK (α := Int) (γ := Unit) (stj := fun v q => ⟨[(0, ov (S rS t_1)), (4, ov (HDR go_6 0 (List.length x_4) gc_7)), (5, ov (S (rI .i64) x_5)), (6, ov (S (rI .i64) v)), (7, ov (S (rI .i64) x_10))], [cown go_6 (rU UInt8) x_4 0 gc_7], []⟩) (p := fun v => tv9 = (.inl v)) (fun v q hv => ?_) ?_
                 · subst hv
                   obtain ⟨x_36, hvv⟩ : ∃ z, z = v := ⟨_, rfl⟩
                   subst hvv
                   obtain _ := q
                   dsimp only at hq9
                   refine JC.at ⟨[(0, ov (S rS t_1)), (4, ov (HDR go_6 0 (List.length x_4) gc_7)), (5, ov (S (rI .i64) x_5)), (6, ov (S (rI .i64) x_36)), (7, ov (S (rI .i64) x_10))], [cown go_6 (rU UInt8) x_4 0 gc_7], []⟩ ?_
                   refine JC.region ?_
                   refine jc (op_move lb (.tmp rfl)) ?_
                   replace hq9 := lt1_inv hq9
                   obtain ⟨v_37, hv_v_37, hq9⟩ := hq9
                   refine jc (op_arI lb (.tmp rfl) .cI (congrArg some hv_v_37)) ?_
                   refine jc (op_assign lb (.tmp rfl)) ?_
                   refine JL.nil ?_
                   replace hq9 := Option.some.inj hq9
                   first | subst hq9 | clear hq9
                   exact JQ.next () rfl (Imp.norm (js := [0]) rfl (.cons rfl (.cons rfl (.cons rfl (.cons rfl (.cons rfl .nil))))))
                 · refine JC.block ?_
                   refine JC.block ?_
                   replace hx9 := bnd_inv hx9
                   obtain ⟨x_18, hx10, hq10⟩ := hx9
                   refine JC.seqJ (γ := Unit) (stj := fun q => ⟨[(0, ov (S rS t_1)), (4, ov (HDR go_6 0 (List.length x_4) gc_7)), (5, ov (S (rI .i64) x_5)), (6, ov (S (rI .i64) x_9)), (7, ov (S (rI .i64) x_10)), (25, ov (S rB x_18))], [cown go_6 (rU UInt8) x_4 0 gc_7], []⟩) (fun q => ?_) ?_
                   · obtain _ := q
                     refine JC.at ⟨[(0, ov (S rS t_1)), (4, ov (HDR go_6 0 (List.length x_4) gc_7)), (5, ov (S (rI .i64) x_5)), (6, ov (S (rI .i64) x_9)), (7, ov (S (rI .i64) x_10)), (25, ov (S rB x_18))], [cown go_6 (rU UInt8) x_4 0 gc_7], []⟩ ?_
                     replace hq10 := iteB_inv hq10
                     rcases hq10 with ⟨hc16, hq10⟩ | ⟨hc16, hq10⟩
                     · refine JC.condT (.tmp rfl) hc16 ?_
                       refine JC.region ?_
                       refine jc (op_move lb (.tmp rfl)) ?_
                       replace hq10 := lt1_inv hq10
                       obtain ⟨v_19, hv_v_19, hq10⟩ := hq10
                       refine jc (op_arI lb .cI (.tmp rfl) (congrArg some hv_v_19)) ?_
                       refine jc (op_move lb (.tmp rfl)) ?_
                       refine jc (op_move lb (.tmp rfl)) ?_
                       replace hq10 := bnd_inv hq10
                       obtain ⟨v_20, hv_v_20, hq10⟩ := hq10
                       refine jc (op_indexStrg lb tu9 (.tmp rfl) (.tmp rfl) hv_v_20) ?_
                       replace hq10 := lt1_inv hq10
                       obtain ⟨v_21, hv_v_21, hq10⟩ := hq10
                       refine jc (op_arU lb (.tmp rfl) (HasO.cU (x := (48 : UInt8)) rfl (by decide)) (congrArg some hv_v_21)) ?_
                       replace hq10 := lt1_inv hq10
                       obtain ⟨v_22, hv_v_22, hq10⟩ := hq10
                       refine jc (op_convUI lb tu5 tu3 (.tmp rfl) hv_v_22) ?_
                       replace hq10 := lt1_inv hq10
                       obtain ⟨v_23, hv_v_23, hq10⟩ := hq10
                       refine jc (op_arI lb (.tmp rfl) (.tmp rfl) (congrArg some hv_v_23)) ?_
                       refine jc (op_assign lb (.tmp rfl)) ?_
                       refine JL.nil ?_
                       refine JQ.outNB ?_
                       refine JQ.outNB ?_
                       replace hq10 := Option.some.inj hq10
                       first | subst hq10 | clear hq10
                       exact JQ.joinK v_23 () rfl (Imp.norm (js := [0]) rfl (.cons rfl (.cons rfl (.cons rfl (.cons rfl (.cons rfl .nil))))))
                     · refine JC.condF (.tmp rfl) hc16 ?_
                       replace hq10 := bnd_inv hq10
                       obtain ⟨x_29, hx17, hq17⟩ := hq10
                       refine JC.seqJ (γ := Unit) (stj := fun q => ⟨[(0, ov (S rS t_1)), (4, ov (HDR go_6 0 (List.length x_4) gc_7)), (5, ov (S (rI .i64) x_5)), (6, ov (S (rI .i64) x_9)), (7, ov (S (rI .i64) x_10)), (44, ov (S rB x_29))], [cown go_6 (rU UInt8) x_4 0 gc_7], []⟩) (fun q => ?_) ?_
                       · obtain _ := q
                         refine JC.at ⟨[(0, ov (S rS t_1)), (4, ov (HDR go_6 0 (List.length x_4) gc_7)), (5, ov (S (rI .i64) x_5)), (6, ov (S (rI .i64) x_9)), (7, ov (S (rI .i64) x_10)), (44, ov (S rB x_29))], [cown go_6 (rU UInt8) x_4 0 gc_7], []⟩ ?_
                         replace hq17 := iteB_inv hq17
                         rcases hq17 with ⟨hc23, hq17⟩ | ⟨hc23, hq17⟩
                         · refine JC.condT (.tmp rfl) hc23 ?_
                           refine JC.region ?_
                           refine jc (op_move lb (.tmp rfl)) ?_
                           replace hq17 := lt1_inv hq17
                           obtain ⟨v_30, hv_v_30, hq17⟩ := hq17
                           refine jc (op_arI lb .cI (.tmp rfl) (congrArg some hv_v_30)) ?_
                           refine jc (op_move lb (.tmp rfl)) ?_
                           refine jc (op_move lb (.tmp rfl)) ?_
                           replace hq17 := bnd_inv hq17
                           obtain ⟨v_31, hv_v_31, hq17⟩ := hq17
                           refine jc (op_indexStrg lb tu9 (.tmp rfl) (.tmp rfl) hv_v_31) ?_
                           replace hq17 := lt1_inv hq17
                           obtain ⟨v_32, hv_v_32, hq17⟩ := hq17
                           refine jc (op_arU lb (.tmp rfl) (HasO.cU (x := (97 : UInt8)) rfl (by decide)) (congrArg some hv_v_32)) ?_
                           replace hq17 := lt1_inv hq17
                           obtain ⟨v_33, hv_v_33, hq17⟩ := hq17
                           refine jc (op_convUI lb tu5 tu3 (.tmp rfl) hv_v_33) ?_
                           replace hq17 := lt1_inv hq17
                           obtain ⟨v_34, hv_v_34, hq17⟩ := hq17
                           refine jc (op_arI lb (.tmp rfl) (.tmp rfl) (congrArg some hv_v_34)) ?_
                           replace hq17 := lt1_inv hq17
                           obtain ⟨v_35, hv_v_35, hq17⟩ := hq17
                           refine jc (op_arI lb (.tmp rfl) .cI (congrArg some hv_v_35)) ?_
                           refine jc (op_assign lb (.tmp rfl)) ?_
                           refine JL.nil ?_
                           refine JQ.outNB ?_
                           refine JQ.outNB ?_
                           replace hq17 := Option.some.inj hq17
                           first | subst hq17 | clear hq17
                           exact JQ.joinK v_35 () rfl (Imp.norm (js := [0]) rfl (.cons rfl (.cons rfl (.cons rfl (.cons rfl (.cons rfl .nil))))))
                         · refine JC.condF (.tmp rfl) hc23 ?_
                           refine JC.seq ?_
                           refine JC.region ?_
                           refine jc (op_assign lb HasO.nilH) ?_
                           refine jc (op_assign lb .cB) ?_
                           refine JL.nil ?_
                           refine JQ.then ?_
                           refine JC.ret ?_
                           refine JQ.outRB ?_
                           refine JQ.outRB ?_
                           replace hq17 := Option.some.inj hq17
                           first | subst hq17 | clear hq17
                           dsimp only at hq9
                           refine JQ.outR ?_
                           replace hq9 := Option.some.inj hq9
                           first | subst hq9 | clear hq9
                           have ht := hr _ rfl
                           clear hr
                           first | subst ht | clear ht
                           dsimp only at hq7
                           refine JQ.outR ?_
                           refine JQ.outRB ?_
                           replace hq7 := Option.some.inj hq7
                           first | subst hq7 | clear hq7
                           dsimp only at hq6
                           refine JQ.outR ?_
                           refine JQ.outRB ?_
                           replace hq6 := Option.some.inj hq6
                           first | subst hq6 | clear hq6
                           dsimp only at hq5
                           refine JQ.outR ?_
                           replace hq5 := Option.some.inj hq5
                           first | subst hq5 | clear hq5
                           have ht := hr _ rfl
                           clear hr
                           first | subst ht | clear ht
                           dsimp only at hq3
                           refine JQ.outR ?_
                           refine JQ.outRB ?_
                           replace hq3 := Option.some.inj hq3
                           first | subst hq3 | clear hq3
                           dsimp only at hq2
                           refine JQ.outR ?_
                           replace hq2 := Option.some.inj hq2
                           subst hq2
                           refine JQ.pre (Imp.nilown (rU UInt8)) ?_
                           exact JQ.done (js := [1]) (ss := [.val (HDR none 0 (List.length ([] : (List UInt8))) (0)), .val (S rB false)]) (none, 0) (.inl rfl) (.nil rfl) rfl (.cons (.tmp rfl) (.cons (.tmp rfl) .nil)) rfl rfl rfl
                       · refine JC.region ?_
                         refine jc (op_move lb (.tmp rfl)) ?_
                         refine jc (op_move lb (.tmp rfl)) ?_
                         replace hx17 := bnd_inv hx17
                         obtain ⟨v_24, hv_v_24, hx17⟩ := hx17
                         refine jc (op_indexStrg lb tu9 (.tmp rfl) (.tmp rfl) hv_v_24) ?_
                         replace hx17 := lt1_inv hx17
                         obtain ⟨v_25, hv_v_25, hx17⟩ := hx17
                         refine jc (op_cmpU lb (.tmp rfl) (HasO.cU (x := (97 : UInt8)) rfl (by decide)) (congrArg some hv_v_25)) ?_
                         refine jc (op_move lb (.tmp rfl)) ?_
                         refine JL.cnd (sv := ov (S rS t_1)) (Guard.isT (ltB rfl) rfl rfl) rfl (ltB rfl) (fun hq_18 => op_move lb (.tmp rfl)) ?_
                         refine JL.cnd (sv := ov (S (rI .i64) x_10)) (Guard.isT (ltB rfl) rfl rfl) rfl (ltB rfl) (fun hq_19 => op_move lb (.tmp rfl)) ?_
                         replace hx17 := bnd_inv hx17
                         obtain ⟨v_26, hv_v_26, hx17⟩ := hx17
                         refine JL.cnd (sv := ov (S (rU UInt8) v_26)) (Guard.isT (ltB rfl) rfl rfl) rfl (ltB rfl) (fun hq_20 => op_indexStrg lb tu9 (HasO.cnd (.tmp rfl) hq_20) (HasO.cnd (.tmp rfl) hq_20) (ifT hv_v_26 hq_20)) ?_
                         replace hx17 := lt1_inv hx17
                         obtain ⟨v_27, hv_v_27, hx17⟩ := hx17
                         refine JL.cnd (sv := ov (S rB v_27)) (Guard.isT (ltB rfl) rfl rfl) rfl (ltB rfl) (fun hq_21 => op_cmpU lb (HasO.cnd (.tmp rfl) hq_21) (HasO.cU (x := (102 : UInt8)) rfl (by decide)) (congrArg some hv_v_27)) ?_
                         replace hx17 := lt1_inv hx17
                         obtain ⟨v_28, hv_v_28, hx17⟩ := hx17
                         refine jc (op_pickCS lb (.tmp rfl) (fun hb22 => (HasO.cnd (.tmp rfl) hb22)) (fun hb22 => .cB) hv_v_28) ?_
                         refine jc (op_assign lb (.tmp rfl)) ?_
                         refine JL.nil ?_
                         replace hx17 := Option.some.inj hx17
                         first | subst hx17 | clear hx17
                         exact JQ.join () (Imp.norm (js := [0]) rfl (.cons rfl (.cons rfl (.cons rfl (.cons rfl (.cons rfl (.cons rfl .nil)))))))
                   · refine JC.region ?_
                     refine jc (op_move lb (.tmp rfl)) ?_
                     refine jc (op_move lb (.tmp rfl)) ?_
                     replace hx10 := bnd_inv hx10
                     obtain ⟨v_13, hv_v_13, hx10⟩ := hx10
                     refine jc (op_indexStrg lb tu9 (.tmp rfl) (.tmp rfl) hv_v_13) ?_
                     replace hx10 := lt1_inv hx10
                     obtain ⟨v_14, hv_v_14, hx10⟩ := hx10
                     refine jc (op_cmpU lb (.tmp rfl) (HasO.cU (x := (48 : UInt8)) rfl (by decide)) (congrArg some hv_v_14)) ?_
                     refine jc (op_move lb (.tmp rfl)) ?_
                     refine JL.cnd (sv := ov (S rS t_1)) (Guard.isT (ltB rfl) rfl rfl) rfl (ltB rfl) (fun hq_11 => op_move lb (.tmp rfl)) ?_
                     refine JL.cnd (sv := ov (S (rI .i64) x_10)) (Guard.isT (ltB rfl) rfl rfl) rfl (ltB rfl) (fun hq_12 => op_move lb (.tmp rfl)) ?_
                     replace hx10 := bnd_inv hx10
                     obtain ⟨v_15, hv_v_15, hx10⟩ := hx10
                     refine JL.cnd (sv := ov (S (rU UInt8) v_15)) (Guard.isT (ltB rfl) rfl rfl) rfl (ltB rfl) (fun hq_13 => op_indexStrg lb tu9 (HasO.cnd (.tmp rfl) hq_13) (HasO.cnd (.tmp rfl) hq_13) (ifT hv_v_15 hq_13)) ?_
                     refine JL.sub ⟨[(0, ov (S rS t_1)), (4, ov (HDR go_6 0 (List.length x_4) gc_7)), (5, ov (S (rI .i64) x_5)), (6, ov (S (rI .i64) x_9)), (7, ov (S (rI .i64) x_10)), (30, ov (S rB v_14)), (33, bif v_14 then ov (S (rU UInt8) v_15) else .one .und)], [cown go_6 (rU UInt8) x_4 0 gc_7], []⟩ (.cons rfl (.cons rfl (.cons rfl (.cons rfl (.cons rfl (.cons rfl (.cons rfl .nil))))))) rfl rfl ?_
                     replace hx10 := lt1_inv hx10
                     obtain ⟨v_16, hv_v_16, hx10⟩ := hx10
                     refine JL.cnd (sv := ov (S rB v_16)) (Guard.isT (ltB rfl) rfl rfl) rfl (ltB rfl) (fun hq_14 => op_cmpU lb (HasO.cnd (.tmp rfl) hq_14) (HasO.cU (x := (57 : UInt8)) rfl (by decide)) (congrArg some hv_v_16)) ?_
                     replace hx10 := lt1_inv hx10
                     obtain ⟨v_17, hv_v_17, hx10⟩ := hx10
                     refine jc (op_pickCS lb (.tmp rfl) (fun hb15 => (HasO.cnd (.tmp rfl) hb15)) (fun hb15 => .cB) hv_v_17) ?_
                     refine jc (op_assign lb (.tmp rfl)) ?_
                     refine JL.nil ?_
                     replace hx10 := Option.some.inj hx10
                     first | subst hx10 | clear hx10
                     exact JQ.join () (Imp.norm (js := [0]) rfl (.cons rfl (.cons rfl (.cons rfl (.cons rfl (.cons rfl (.cons rfl .nil)))))))
               · refine JC.condF (.tmp rfl) hc8 ?_
                 refine JC.exit ?_
                 refine JQ.outX ?_
                 replace hx := Option.some.inj hx
                 first | subst hx | clear hx
                 have ht := hr _ rfl
                 clear hr
                 first | subst ht | clear ht
                 dsimp only at hq7
                 refine JQ.outX ?_
                 refine JQ.here ?_
                 replace hq7 := Option.some.inj hq7
                 first | subst hq7 | clear hq7
                 exact JQ.joinK x_9 () rfl (Imp.norm (js := [0]) rfl (.cons rfl (.cons rfl (.cons rfl (.cons rfl .nil)))))
       · refine JC.condF (.tmp rfl) hc4 ?_
         refine JC.exit ?_
         refine JQ.outX ?_
         replace hx := Option.some.inj hx
         first | subst hx | clear hx
         have ht := hr _ rfl
         clear hr
         first | subst ht | clear ht
         dsimp only at hq3
         refine JQ.outX ?_
         refine JQ.here ?_
         replace hq3 := Option.some.inj hq3
         first | subst hq3 | clear hq3
         exact JQ.joinK x_4 (go_6, gc_7) rfl (Imp.norm (js := [0]) rfl (.cons rfl .nil))

theorem sim_strings_Builder_copyCheck (k : Nat) (gb_1 : Nat) (r : Unit) (hm : strings_Builder_copyCheck k = some r) : Sim Try.prog 55 [PTR gb_1 0] [cvarT 81 gb_1 (rP (rW (PTO none)) (rP (rW (HDR none 0 0 0)) r0)) ((), ((), ()))] (γ := Unit) (fun q => [cvarT 81 gb_1 (rP (rW (PTR gb_1 0)) (rP (rW (HDR none 0 0 0)) r0)) ((), ((), ()))]) (fun q => .tup []) := by
 unfold strings_Builder_copyCheck at hm
 refine Sim.of Try.func55 rfl rfl (Nat.le_of_ble_eq_true rfl) (fun e0 w0 => ?_)
 refine JC.at ⟨[(0, ov (PTR gb_1 0))], [cvarT 81 gb_1 (rP (rW (PTO none)) (rP (rW (HDR none 0 0 0)) r0)) ((), ((), ()))], []⟩ ?_
 refine JC.seq ?_
 refine JC.region ?_
 refine jc (op_move lb (.tmp rfl)) ?_
 refine jc (op_nilCheck lb (.tmp rfl) (fun e v h => by subst h; rfl)) ?_
 refine jc (op_fieldAddr (off := 0) lb tf81_0 (.tmp rfl)) ?_
 refine jc (op_loadWT (j := 0) lb tS79 (.tmp rfl) rfl (Comp.trans (Comp.self (rP (rW (PTO none)) (rP (rW (HDR none 0 0 0)) r0)) ((), ((), ()))) (Comp.at' (Comp.inF (Comp.self (rW (PTO none)) ()) (Nat.le_of_ble_eq_true rfl)) (by rfl : _ = 0)) (Nat.le_of_ble_eq_true rfl))) ?_
 refine jc (op_nilO (neg := false) (ob := none) lb tu79 (.tmp rfl) (HasO.const (p := PTO none) fun _ => rfl) rfl) ?_
 refine JL.nil ?_
 refine JQ.then ?_
 refine JC.condT (.tmp rfl) rfl ?_
 refine JC.region ?_
 refine jc (op_move lb (.tmp rfl)) ?_
 refine jc (op_move lb (.tmp rfl)) ?_
 refine jc (op_toUnsafe (j := 0) lb tu79 tu88 tz81 rfl (Nat.le_of_ble_eq_true rfl) rfl (.tmp rfl)) ?_
 refine jc (op_noEscape lb ex57 .func (.tmp rfl)) ?_
 refine jc (op_fromUnsafe (j := 0) lb tu88 tu79 tz81 rfl li81 rfl (.tmp rfl)) ?_
 refine jc (op_nilCheck lb (.tmp rfl) (fun e v h => by subst h; rfl)) ?_
 refine jc (op_fieldAddr (off := 0) lb tf81_0 (.tmp rfl)) ?_
 refine JL.sub ⟨[(11, ov (PTR gb_1 0)), (13, ov (PTR gb_1 (0 + 0)))], [cvarT 81 gb_1 (rP (rW (PTO none)) (rP (rW (HDR none 0 0 0)) r0)) ((), ((), ()))], []⟩ (.cons rfl (.cons rfl .nil)) rfl rfl ?_
 refine jc (op_storeWT (j := 0) tS79 (.tmp rfl) (.tmp rfl) rfl ((UpdR.fst (UpdR.self (by rfl))).at (by change 0 = (0 + 0); omega)) rfl) ?_
 refine JL.nil ?_
 exact JQ.done (js := [0]) (ss := []) () (.inr rfl) (.nil rfl) rfl .nil rfl rfl rfl

theorem sim_strings_Builder_WriteByte (k : Nat) (c_1 : UInt8) (gb_2 : Nat) (r : (List UInt8)) (hm : strings_Builder_WriteByte k c_1 = some r) : Sim Try.prog 51 [PTR gb_2 0, S (rU UInt8) c_1] [cvarT 81 gb_2 (rP (rW (PTO none)) (rP (rW (HDR none 0 0 0)) r0)) ((), ((), ()))] (γ := Option Nat × Nat) (fun q => [cvarT 81 gb_2 (rP (rW (PTR gb_2 0)) (rP (rW (HDR q.1 0 (List.length r) q.2)) r0)) ((), ((), ())), cownT 5 q.1 (rU UInt8) r 0 q.2]) (fun q => .one (.val (NILI))) := by
 unfold strings_Builder_WriteByte at hm
 refine Sim.of Try.func51 rfl rfl (Nat.le_of_ble_eq_true rfl) (fun e0 w0 => ?_)
 refine JC.at ⟨[(0, ov (PTR gb_2 0)), (1, ov (S (rU UInt8) c_1))], [cvarT 81 gb_2 (rP (rW (PTO none)) (rP (rW (HDR none 0 0 0)) r0)) ((), ((), ()))], []⟩ ?_
 refine JC.seq ?_
 refine JC.region ?_
 refine jc (op_assign lb (HasO.const (p := NILI) fun _ => rfl)) ?_
 refine JL.nil ?_
 refine JQ.then ?_
 refine JC.seq ?_
 refine JC.region ?_
 refine jc (op_move lb (.tmp rfl)) ?_
 replace hm := bnd_inv hm
 obtain ⟨_, hv_u_3, hm⟩ := hm
 refine jx (op_call (js := [0]) ld cl55 (sim_strings_Builder_copyCheck k gb_2 () hv_u_3) .func (.cons (.tmp rfl) .nil) rfl) (fun _ => ?_)
 refine JL.nil ?_
 refine JQ.then ?_
 refine JC.seq ?_
 refine JC.region ?_
 refine jc (op_move lb (.tmp rfl)) ?_
 refine jc (op_move lb (.tmp rfl)) ?_
 refine jc (op_nilCheck lb (.tmp rfl) (fun e v h => by subst h; rfl)) ?_
 refine jc (op_fieldAddr (off := 1) lb tf81_1 (.tmp rfl)) ?_
 refine jc (op_loadWT (j := 0) lb tS23 (.tmp rfl) rfl (Comp.trans (Comp.self (rP (rW (PTR gb_2 0)) (rP (rW (HDR none 0 0 0)) r0)) ((), ((), ()))) (Comp.at' (Comp.inS (Comp.inF (Comp.self (rW (HDR none 0 0 0)) ()) (Nat.le_of_ble_eq_true rfl))) (by rfl : _ = 1)) (Nat.le_of_ble_eq_true rfl))) ?_
 refine jc (op_move lb (.tmp rfl)) ?_
 refine jc (op_buildF (r := (rU UInt8)) lb tu23 tz5 tZ5 rfl (Nat.le_of_ble_eq_true rfl) (.S rfl (.tmp rfl) .nil) rfl) ?_
 refine JL.sub ⟨[(7, ov (PTR gb_2 0)), (11, ov (HDR none 0 0 0)), (13, ov (S (rL (rU UInt8)) ([c_1] : (List UInt8))))], [cvarT 81 gb_2 (rP (rW (PTR gb_2 0)) (rP (rW (HDR none 0 0 0)) r0)) ((), ((), ()))], []⟩ (.cons rfl (.cons rfl (.cons rfl .nil))) rfl rfl ?_
 replace hm := bnd_inv hm
 obtain ⟨v_4, hv_v_4, hm⟩ := hm
 refine JL.pre (Imp.nilownT 5 (rU UInt8)) ?_
 refine jx (op_appendLT (j := 1) lb tu23 tu23 rfl tB5 rfl (Nat.lt_of_lt_of_le Nat.zero_lt_one (Nat.le_of_ble_eq_true rfl)) (Nat.lt_of_lt_of_le Nat.zero_lt_one (Nat.le_of_ble_eq_true rfl))  rfl (.tmp rfl) (.tmp rfl) hv_v_4) (fun q => ?_)
 obtain ⟨go_5, gc_6⟩ := q
 refine JL.sub ⟨[(7, ov (PTR gb_2 0)), (14, ov (HDR go_5 0 (List.length v_4) gc_6))], [cvarT 81 gb_2 (rP (rW (PTR gb_2 0)) (rP (rW (HDR none 0 0 0)) r0)) ((), ((), ())), cownT 5 go_5 (rU UInt8) v_4 0 gc_6], []⟩ (.cons rfl (.cons rfl .nil)) rfl rfl ?_
 refine jc (op_nilCheck lb (.tmp rfl) (fun e v h => by subst h; rfl)) ?_
 refine jc (op_fieldAddr (off := 1) lb tf81_1 (.tmp rfl)) ?_
 refine jc (op_storeWT (j := 0) tS23 (.tmp rfl) (.tmp rfl) rfl ((UpdR.snd (UpdR.fst (UpdR.self (by rfl)))).at (by change (1 + 0) = (0 + 1); omega)) rfl) ?_
 refine JL.nil ?_
 refine JQ.then ?_
 refine JC.seq ?_
 refine JC.region ?_
 refine jc (op_assign lb (HasO.const (p := NILI) fun _ => rfl)) ?_
 refine JL.nil ?_
 refine JQ.then ?_
 refine JC.ret ?_
 replace hm := Option.some.inj hm
 subst hm
 exact JQ.done (js := [0, 0]) (ss := [.val (NILI)]) (go_5, gc_6) (.inl rfl) (.nil rfl) rfl (.cons (.tmp rfl) .nil) rfl rfl rfl

theorem sim_strings_Builder_copyCheck'2 (k : Nat) (x_2 : (List UInt8)) (gb_1 : Nat) (go_3 : Option Nat) (gc_4 : Nat) (r : Unit) (hm : strings_Builder_copyCheck'2 k x_2 = some r) : Sim Try.prog 55 [PTR gb_1 0] [cvarT 81 gb_1 (rP (rW (PTR gb_1 0)) (rP (rW (HDR go_3 0 (List.length x_2) gc_4)) r0)) ((), ((), ())), cownT 5 go_3 (rU UInt8) x_2 0 gc_4] (γ := Unit) (fun q => [cvarT 81 gb_1 (rP (rW (PTR gb_1 0)) (rP (rW (HDR go_3 0 (List.length x_2) gc_4)) r0)) ((), ((), ())), cownT 5 go_3 (rU UInt8) x_2 0 gc_4]) (fun q => .tup []) := by
 unfold strings_Builder_copyCheck'2 at hm
 refine Sim.of Try.func55 rfl rfl (Nat.le_of_ble_eq_true rfl) (fun e0 w0 => ?_)
 refine JC.at ⟨[(0, ov (PTR gb_1 0))], [cvarT 81 gb_1 (rP (rW (PTR gb_1 0)) (rP (rW (HDR go_3 0 (List.length x_2) gc_4)) r0)) ((), ((), ())), cownT 5 go_3 (rU UInt8) x_2 0 gc_4], []⟩ ?_
 refine JC.seq ?_
 refine JC.region ?_
 refine jc (op_move lb (.tmp rfl)) ?_
 refine jc (op_nilCheck lb (.tmp rfl) (fun e v h => by subst h; rfl)) ?_
 refine jc (op_fieldAddr (off := 0) lb tf81_0 (.tmp rfl)) ?_
 refine jc (op_loadWT (j := 0) lb tS79 (.tmp rfl) rfl (Comp.trans (Comp.self (rP (rW (PTR gb_1 0)) (rP (rW (HDR go_3 0 (List.length x_2) gc_4)) r0)) ((), ((), ()))) (Comp.at' (Comp.inF (Comp.self (rW (PTR gb_1 0)) ()) (Nat.le_of_ble_eq_true rfl)) (by rfl : _ = 0)) (Nat.le_of_ble_eq_true rfl))) ?_
 refine jc (op_nilP (neg := false) lb tu79 (.tmp rfl) (HasO.const (p := PTO none) fun _ => rfl)) ?_
 refine JL.nil ?_
 refine JQ.then ?_
 refine JC.condF (.tmp rfl) rfl ?_
 refine JC.seq ?_
 refine JC.region ?_
 refine jc (op_move lb (.tmp rfl)) ?_
 refine jc (op_nilCheck lb (.tmp rfl) (fun e v h => by subst h; rfl)) ?_
 refine jc (op_fieldAddr (off := 0) lb tf81_0 (.tmp rfl)) ?_
 refine jc (op_loadWT (j := 0) lb tS79 (.tmp rfl) rfl (Comp.trans (Comp.self (rP (rW (PTR gb_1 0)) (rP (rW (HDR go_3 0 (List.length x_2) gc_4)) r0)) ((), ((), ()))) (Comp.at' (Comp.inF (Comp.self (rW (PTR gb_1 0)) ()) (Nat.le_of_ble_eq_true rfl)) (by rfl : _ = 0)) (Nat.le_of_ble_eq_true rfl))) ?_
 refine jc (op_move lb (.tmp rfl)) ?_
 refine jc (op_samePT (neg := true) lb tu79 tz81 (by decide) (.tmp rfl) (.tmp rfl)) ?_
 refine JL.nil ?_
 refine JQ.then ?_
 refine JC.condF (.tmp rfl) rfl ?_
 refine JC.skip ?_
 exact JQ.done (js := [0, 0]) (ss := []) () (.inr rfl) (.nil rfl) rfl .nil rfl rfl rfl

theorem sim_strings_Builder_WriteByte'2 (k : Nat) (c_1 : UInt8) (x_3 : (List UInt8)) (gb_2 : Nat) (go_4 : Option Nat) (gc_5 : Nat) (r : (List UInt8)) (hm : strings_Builder_WriteByte'2 k c_1 x_3 = some r) : Sim Try.prog 51 [PTR gb_2 0, S (rU UInt8) c_1] [cvarT 81 gb_2 (rP (rW (PTR gb_2 0)) (rP (rW (HDR go_4 0 (List.length x_3) gc_5)) r0)) ((), ((), ())), cownT 5 go_4 (rU UInt8) x_3 0 gc_5] (γ := Option Nat × Nat) (fun q => [cvarT 81 gb_2 (rP (rW (PTR gb_2 0)) (rP (rW (HDR q.1 0 (List.length r) q.2)) r0)) ((), ((), ())), cownT 5 q.1 (rU UInt8) r 0 q.2]) (fun q => .one (.val (NILI))) := by
 unfold strings_Builder_WriteByte'2 at hm
 refine Sim.of Try.func51 rfl rfl (Nat.le_of_ble_eq_true rfl) (fun e0 w0 => ?_)
 refine JC.at ⟨[(0, ov (PTR gb_2 0)), (1, ov (S (rU UInt8) c_1))], [cvarT 81 gb_2 (rP (rW (PTR gb_2 0)) (rP (rW (HDR go_4 0 (List.length x_3) gc_5)) r0)) ((), ((), ())), cownT 5 go_4 (rU UInt8) x_3 0 gc_5], []⟩ ?_
 refine JC.seq ?_
 refine JC.region ?_
 refine jc (op_assign lb (HasO.const (p := NILI) fun _ => rfl)) ?_
 refine JL.nil ?_
 refine JQ.then ?_
 refine JC.seq ?_
 refine JC.region ?_
 refine jc (op_move lb (.tmp rfl)) ?_
 replace hm := bnd_inv hm
 obtain ⟨_, hv_u_6, hm⟩ := hm
 refine jx (op_call (js := [0, 0]) ld cl55 (sim_strings_Builder_copyCheck'2 k x_3 gb_2 go_4 gc_5 () hv_u_6) .func (.cons (.tmp rfl) .nil) rfl) (fun _ => ?_)
 refine JL.nil ?_
 refine JQ.then ?_
 refine JC.seq ?_
 refine JC.region ?_
 refine jc (op_move lb (.tmp rfl)) ?_
 refine jc (op_move lb (.tmp rfl)) ?_
 refine jc (op_nilCheck lb (.tmp rfl) (fun e v h => by subst h; rfl)) ?_
 refine jc (op_fieldAddr (off := 1) lb tf81_1 (.tmp rfl)) ?_
 refine jc (op_loadWT (j := 0) lb tS23 (.tmp rfl) rfl (Comp.trans (Comp.self (rP (rW (PTR gb_2 0)) (rP (rW (HDR go_4 0 (List.length x_3) gc_5)) r0)) ((), ((), ()))) (Comp.at' (Comp.inS (Comp.inF (Comp.self (rW (HDR go_4 0 (List.length x_3) gc_5)) ()) (Nat.le_of_ble_eq_true rfl))) (by rfl : _ = 1)) (Nat.le_of_ble_eq_true rfl))) ?_
 refine jc (op_move lb (.tmp rfl)) ?_
 refine jc (op_buildF (r := (rU UInt8)) lb tu23 tz5 tZ5 rfl (Nat.le_of_ble_eq_true rfl) (.S rfl (.tmp rfl) .nil) rfl) ?_
 replace hm := bnd_inv hm
 obtain ⟨x_7, hv_x_7, hm⟩ := hm
 refine jx (op_appendLT (j := 1) lb tu23 tu23 rfl tB5 rfl (Nat.lt_of_lt_of_le Nat.zero_lt_one (Nat.le_of_ble_eq_true rfl)) (Nat.lt_of_lt_of_le Nat.zero_lt_one (Nat.le_of_ble_eq_true rfl))  rfl (.tmp rfl) (.tmp rfl) hv_x_7) (fun q => ?_)
 obtain ⟨go_8, gc_9⟩ := q
 refine JL.sub ⟨[(7, ov (PTR gb_2 0)), (14, ov (HDR go_8 0 (List.length x_7) gc_9))], [cvarT 81 gb_2 (rP (rW (PTR gb_2 0)) (rP (rW (HDR go_4 0 (List.length x_3) gc_5)) r0)) ((), ((), ())), cownT 5 go_8 (rU UInt8) x_7 0 gc_9], []⟩ (.cons rfl (.cons rfl .nil)) rfl rfl ?_
 refine jc (op_nilCheck lb (.tmp rfl) (fun e v h => by subst h; rfl)) ?_
 refine jc (op_fieldAddr (off := 1) lb tf81_1 (.tmp rfl)) ?_
 refine jc (op_storeWT (j := 0) tS23 (.tmp rfl) (.tmp rfl) rfl ((UpdR.snd (UpdR.fst (UpdR.self (by rfl)))).at (by change (1 + 0) = (0 + 1); omega)) rfl) ?_
 refine JL.nil ?_
 refine JQ.then ?_
 refine JC.seq ?_
 refine JC.region ?_
 refine jc (op_assign lb (HasO.const (p := NILI) fun _ => rfl)) ?_
 refine JL.nil ?_
 refine JQ.then ?_
 refine JC.ret ?_
 replace hm := Option.some.inj hm
 subst hm
 exact JQ.done (js := [0, 0]) (ss := [.val (NILI)]) (go_8, gc_9) (.inl rfl) (.nil rfl) rfl (.cons (.tmp rfl) .nil) rfl rfl rfl

theorem sim_strings_Builder_copyCheck'3 (k : Nat) (x_2 : (List UInt8)) (gb_1 : Nat) (go_3 : Option Nat) (gc_4 : Nat) (r : Unit) (hm : strings_Builder_copyCheck'3 k x_2 = some r) : Sim Try.prog 55 [PTR gb_1 0] [cvarT 81 gb_1 (rP (rW (PN gb_1)) (rP (rW (HDR go_3 0 (List.length x_2) gc_4)) r0)) ((), ((), ())), cownT 5 go_3 (rU UInt8) x_2 0 gc_4] (γ := Unit) (fun q => [cvarT 81 gb_1 (rP (rW (PTR gb_1 0)) (rP (rW (HDR go_3 0 (List.length x_2) gc_4)) r0)) ((), ((), ())), cownT 5 go_3 (rU UInt8) x_2 0 gc_4]) (fun q => .tup []) := by
 unfold strings_Builder_copyCheck'3 at hm
 refine Sim.of Try.func55 rfl rfl (Nat.le_of_ble_eq_true rfl) (fun e0 w0 => ?_)
 refine JC.at ⟨[(0, ov (PTR gb_1 0))], [cvarT 81 gb_1 (rP (rW (PN gb_1)) (rP (rW (HDR go_3 0 (List.length x_2) gc_4)) r0)) ((), ((), ())), cownT 5 go_3 (rU UInt8) x_2 0 gc_4], []⟩ ?_
 refine JC.seq ?_
 refine JC.region ?_
 refine jc (op_move lb (.tmp rfl)) ?_
 refine jc (op_nilCheck lb (.tmp rfl) (fun e v h => by subst h; rfl)) ?_
 refine jc (op_fieldAddr (off := 0) lb tf81_0 (.tmp rfl)) ?_
 refine JL.self (j := 0) rfl ?_ ?_
 · refine jc (op_loadWT (j := 0) lb tS79 (.tmp rfl) rfl (Comp.trans (Comp.self (rP (rW (PTO none)) (rP (rW (HDR go_3 0 (List.length x_2) gc_4)) r0)) ((), ((), ()))) (Comp.at' (Comp.inF (Comp.self (rW (PTO none)) ()) (Nat.le_of_ble_eq_true rfl)) (by rfl : _ = 0)) (Nat.le_of_ble_eq_true rfl))) ?_
   refine jc (op_nilO (neg := false) (ob := none) lb tu79 (.tmp rfl) (HasO.const (p := PTO none) fun _ => rfl) rfl) ?_
   refine JL.nil ?_
   refine JQ.then ?_
   refine JC.condT (.tmp rfl) rfl ?_
   refine JC.region ?_
   refine jc (op_move lb (.tmp rfl)) ?_
   refine jc (op_move lb (.tmp rfl)) ?_
   refine jc (op_toUnsafe (j := 0) lb tu79 tu88 tz81 rfl (Nat.le_of_ble_eq_true rfl) rfl (.tmp rfl)) ?_
   refine jc (op_noEscape lb ex57 .func (.tmp rfl)) ?_
   refine jc (op_fromUnsafe (j := 0) lb tu88 tu79 tz81 rfl li81 rfl (.tmp rfl)) ?_
   refine jc (op_nilCheck lb (.tmp rfl) (fun e v h => by subst h; rfl)) ?_
   refine jc (op_fieldAddr (off := 0) lb tf81_0 (.tmp rfl)) ?_
   refine JL.sub ⟨[(11, ov (PTR gb_1 0)), (13, ov (PTR gb_1 (0 + 0)))], [cvarT 81 gb_1 (rP (rW (PTO none)) (rP (rW (HDR go_3 0 (List.length x_2) gc_4)) r0)) ((), ((), ())), cownT 5 go_3 (rU UInt8) x_2 0 gc_4], []⟩ (.cons rfl (.cons rfl .nil)) rfl rfl ?_
   refine jc (op_storeWT (j := 0) tS79 (.tmp rfl) (.tmp rfl) rfl ((UpdR.fst (UpdR.self (by rfl))).at (by change 0 = (0 + 0); omega)) rfl) ?_
   refine JL.nil ?_
   exact JQ.done (js := [0, 0]) (ss := []) () (.inr rfl) (.nil rfl) rfl .nil rfl rfl rfl
 · refine jc (op_loadWT (j := 0) lb tS79 (.tmp rfl) rfl (Comp.trans (Comp.self (rP (rW (PTR gb_1 0)) (rP (rW (HDR go_3 0 (List.length x_2) gc_4)) r0)) ((), ((), ()))) (Comp.at' (Comp.inF (Comp.self (rW (PTR gb_1 0)) ()) (Nat.le_of_ble_eq_true rfl)) (by rfl : _ = 0)) (Nat.le_of_ble_eq_true rfl))) ?_
   refine jc (op_nilP (neg := false) lb tu79 (.tmp rfl) (HasO.const (p := PTO none) fun _ => rfl)) ?_
   refine JL.nil ?_
   refine JQ.then ?_
   refine JC.condF (.tmp rfl) rfl ?_
   refine JC.seq ?_
   refine JC.region ?_
   refine jc (op_move lb (.tmp rfl)) ?_
   refine jc (op_nilCheck lb (.tmp rfl) (fun e v h => by subst h; rfl)) ?_
   refine jc (op_fieldAddr (off := 0) lb tf81_0 (.tmp rfl)) ?_
   refine jc (op_loadWT (j := 0) lb tS79 (.tmp rfl) rfl (Comp.trans (Comp.self (rP (rW (PTR gb_1 0)) (rP (rW (HDR go_3 0 (List.length x_2) gc_4)) r0)) ((), ((), ()))) (Comp.at' (Comp.inF (Comp.self (rW (PTR gb_1 0)) ()) (Nat.le_of_ble_eq_true rfl)) (by rfl : _ = 0)) (Nat.le_of_ble_eq_true rfl))) ?_
   refine jc (op_move lb (.tmp rfl)) ?_
   refine jc (op_samePT (neg := true) lb tu79 tz81 (by decide) (.tmp rfl) (.tmp rfl)) ?_
   refine JL.nil ?_
   refine JQ.then ?_
   refine JC.condF (.tmp rfl) rfl ?_
   refine JC.skip ?_
   exact JQ.done (js := [0, 0]) (ss := []) () (.inr rfl) (.nil rfl) rfl .nil rfl rfl rfl

end Go.Proofs.Ytkbkdfcakpbojaa
