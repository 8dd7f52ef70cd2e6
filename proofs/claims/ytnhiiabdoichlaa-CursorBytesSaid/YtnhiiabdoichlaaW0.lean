/- Walks. -/
import Derived.Test.YtnhiiabdoichlaaT
namespace Go.Proofs.Ytnhiiabdoichlaa
open Go Fw
set_option linter.unusedVariables false
set_option maxRecDepth 100000
set_option maxHeartbeats 4000000

theorem sim_cursor_mayDevice (k : Nat) (s_1 : (List UInt8)) (r : Bool) (hm : cursor_mayDevice k s_1 = some r) : Sim Try.prog 19 [S rS s_1] [] (γ := Unit) (fun q => []) (fun q => .one (.val (S rB r))) := by
 unfold cursor_mayDevice at hm
 refine Sim.of Try.func19 rfl rfl (Nat.le_of_ble_eq_true rfl) (fun e0 w0 => ?_)
 refine JC.at ⟨[(0, ov (S rS s_1))], [], []⟩ ?_
 refine JC.seq ?_
 refine JC.region ?_
 refine jc (op_assign lb .cB) ?_
 refine JL.nil ?_
 refine JQ.then ?_
 replace hm := bnd_inv hm
 obtain ⟨x_5, hx1, hq1⟩ := hm
 refine JC.seqJ (γ := Unit) (stj := fun q => ⟨[(2, ov (S rB x_5))], [], []⟩) (fun q => ?_) ?_
 · obtain _ := q
   refine JC.at ⟨[(2, ov (S rB x_5))], [], []⟩ ?_
   refine JC.ret ?_
   replace hq1 := Option.some.inj hq1
   subst hq1
   exact JQ.done (js := []) (ss := [.val (S rB x_5)]) () (.inl rfl) (.nil rfl) rfl (.cons (.tmp rfl) .nil) rfl rfl rfl
 · refine JC.region ?_
   refine jc (op_move lb (.tmp rfl)) ?_
   refine jc (op_lenS lb tu9 (.tmp rfl)) ?_
   replace hx1 := lt1_inv hx1
   obtain ⟨v_2, hv_v_2, hx1⟩ := hx1
   refine jc (op_cmpI lb (.tmp rfl) .cI (congrArg some hv_v_2)) ?_
   refine jc (op_move lb (.tmp rfl)) ?_
   refine JL.cnd (sv := ov (S rS s_1)) (Guard.isT (ltB rfl) rfl rfl) rfl (ltB rfl) (fun hq_2 => op_move lb (.tmp rfl)) ?_
   refine JL.cnd (sv := ov (S (rI .i64) (List.length s_1 : Int))) (Guard.isT (ltB rfl) rfl rfl) rfl (ltB rfl) (fun hq_3 => op_lenS lb tu9 (HasO.cnd (.tmp rfl) hq_3)) ?_
   replace hx1 := lt1_inv hx1
   obtain ⟨v_3, hv_v_3, hx1⟩ := hx1
   refine JL.cnd (sv := ov (S rB v_3)) (Guard.isT (ltB rfl) rfl rfl) rfl (ltB rfl) (fun hq_4 => op_cmpI lb (HasO.cnd (.tmp rfl) hq_4) .cI (congrArg some hv_v_3)) ?_
   replace hx1 := lt1_inv hx1
   obtain ⟨v_4, hv_v_4, hx1⟩ := hx1
   refine jc (op_pickCS lb (.tmp rfl) (fun hb5 => (HasO.cnd (.tmp rfl) hb5)) (fun hb5 => .cB) hv_v_4) ?_
   refine jc (op_assign lb (.tmp rfl)) ?_
   refine JL.nil ?_
   replace hx1 := Option.some.inj hx1
   first | subst hx1 | clear hx1
   exact JQ.join () (Imp.norm (js := []) rfl (.cons rfl .nil))

theorem sim_cursor_May (k : Nat) (v_1 : (Vector UInt64 16)) (r : Bool) (hm : cursor_May k v_1 = some r) : Sim Try.prog 14 [A (rV 16 (rU UInt64)) v_1] [] (γ := Unit) (fun q => []) (fun q => .one (.val (S rB r))) := by
 unfold cursor_May at hm
 refine Sim.of Try.func14 rfl rfl (Nat.le_of_ble_eq_true rfl) (fun e0 w0 => ?_)
 refine JC.at ⟨[(0, ov (A (rV 16 (rU UInt64)) v_1))], [], []⟩ ?_
 refine JC.seq ?_
 refine JC.region ?_
 refine jx (op_boxA lb (.tmp rfl)) (fun q => ?_)
 obtain ⟨gb_2, hqq⟩ : ∃ z, z = q := ⟨_, rfl⟩
 subst hqq
 refine jc (op_assign lb .cB) ?_
 refine JL.nil ?_
 refine JQ.then ?_
 refine JC.scope ?_
 refine JC.seq ?_
 refine JC.region ?_
 refine jc (op_assign lb .cB) ?_
 refine JL.nil ?_
 refine JQ.then ?_
 refine JC.seq ?_
 refine JC.label ?_
 refine JQ.then ?_
 replace hm := bnd_inv hm
 obtain ⟨good_10, hx1, hq1⟩ := hm
 refine JC.seqJ (γ := Unit) (stj := fun q => ⟨[(3, ov (S rB good_10))], [], []⟩) (fun q => ?_) ?_
 · obtain _ := q
   refine JC.at ⟨[(3, ov (S rB good_10))], [], []⟩ ?_
   refine JC.seq ?_
   refine JC.region ?_
   refine jc (op_move lb (.tmp rfl)) ?_
   refine jc (op_assign lb (.tmp rfl)) ?_
   refine JL.nil ?_
   refine JQ.then ?_
   refine JC.ret ?_
   refine JQ.scR ?_
   replace hq1 := Option.some.inj hq1
   subst hq1
   exact JQ.done (js := []) (ss := [.val (S rB good_10)]) () (.inl rfl) (.nil rfl) rfl (.cons (.tmp rfl) .nil) rfl rfl rfl
 · refine JC.seq ?_
   refine JC.region ?_
   refine jc (op_loadA (j := 0) lb tA25 (.tmp rfl) rfl (Comp.self (rV 16 (rU UInt64)) v_1) rfl) ?_
   refine jc (op_move lb .cI) ?_
   refine JL.nil ?_
   refine JQ.then ?_
   refine JC.block ?_
   refine JC.pre ?_ (JC.loop (γ := Unit) (stf := fun s q => ⟨[(3, ov (S rB s.1)), (6, ov (A (rV 16 (rU UInt64)) v_1)), (7, ov (S (rI .i64) s.2))], [], []⟩) (q := ()) hx1 ?_)
   · exact (Imp.norm (js := []) rfl (.cons rfl (.cons rfl (.cons rfl .nil))))
   · intro s q x hx hr
     obtain ⟨good_3, x_4⟩ := s
     obtain _ := q
     change cursor_May.b1 k v_1 good_3 x_4 = some x at hx
     unfold cursor_May.b1 at hx
     refine JC.at ⟨[(3, ov (S rB good_3)), (6, ov (A (rV 16 (rU UInt64)) v_1)), (7, ov (S (rI .i64) x_4))], [], []⟩ ?_
     refine JC.seq ?_
     refine JC.region ?_
     replace hx := lt1_inv hx
     obtain ⟨v_5, hv_v_5, hx⟩ := hx
     refine jc (op_cmpI lb (.tmp rfl) .cI (congrArg some hv_v_5)) ?_
     refine JL.nil ?_
     refine JQ.then ?_
     refine JC.seq ?_
     replace hx := iteB_inv hx
     rcases hx with ⟨hc3, hx⟩ | ⟨hc3, hx⟩
     · refine JC.condT (.tmp rfl) hc3 ?_
       refine JC.skip ?_
       refine JQ.then ?_
       refine JC.seq ?_
       refine JC.block ?_
       refine JC.seq ?_
       refine JC.region ?_
       replace hx := bnd_inv hx
       obtain ⟨v_6, hv_v_6, hx⟩ := hx
       refine jc (op_indexSg lb tu25 tS23 rfl (.tmp rfl) (.tmp rfl) hv_v_6) ?_
       refine jc (op_assign lb (.tmp rfl)) ?_
       refine JL.nil ?_
       refine JQ.then ?_
       refine JC.seq ?_
       refine JC.region ?_
       refine jc (op_move lb (.tmp rfl)) ?_
       replace hx := lt1_inv hx
       obtain ⟨v_7, hv_v_7, hx⟩ := hx
       refine jc (op_cmpU lb (.tmp rfl) (HasO.cU (x := (4611686018427387904 : UInt64)) rfl (by decide)) (congrArg some hv_v_7)) ?_
       refine jc (op_assign lb (.tmp rfl)) ?_
       refine JL.nil ?_
       refine JQ.then ?_
       refine JC.seq ?_
       refine JC.region ?_
       refine jc (op_move lb (.tmp rfl)) ?_
       replace hx := lt1_inv hx
       obtain ⟨v_8, hv_v_8, hx⟩ := hx
       refine jc (op_not lb (.tmp rfl) hv_v_8) ?_
       refine JL.nil ?_
       refine JQ.then ?_
       replace hx := iteB_inv hx
       rcases hx with ⟨hc4, hx⟩ | ⟨hc4, hx⟩
       · refine JC.condT (.tmp rfl) hc4 ?_
         refine JC.exit ?_
         refine JQ.outE (by decide) ?_
         refine JQ.outX ?_
         replace hx := Option.some.inj hx
         first | subst hx | clear hx
         have ht := hr _ rfl
         have hq2 := congrArg some ht
         clear hr ht
         refine JQ.outX ?_
         refine JQ.here ?_
         replace hq2 := Option.some.inj hq2
         first | subst hq2 | clear hq2
         exact JQ.join () (Imp.norm (js := []) rfl (.cons rfl .nil))
       · refine JC.condF (.tmp rfl) hc4 ?_
         refine JC.skip ?_
         refine JQ.outNB ?_
         refine JQ.then ?_
         refine JC.region ?_
         replace hx := lt1_inv hx
         obtain ⟨v_9, hv_v_9, hx⟩ := hx
         refine jc (op_arI lb (.tmp rfl) .cI (congrArg some hv_v_9)) ?_
         refine jc (op_move lb (.tmp rfl)) ?_
         refine JL.nil ?_
         replace hx := Option.some.inj hx
         first | subst hx | clear hx
         exact JQ.next () rfl (Imp.norm (js := []) rfl (.cons rfl (.cons rfl (.cons rfl .nil))))
     · refine JC.condF (.tmp rfl) hc3 ?_
       refine JC.exit ?_
       refine JQ.outX ?_
       replace hx := Option.some.inj hx
       first | subst hx | clear hx
       have ht := hr _ rfl
       have hq2 := congrArg some ht
       clear hr ht
       refine JQ.outX ?_
       refine JQ.here ?_
       replace hq2 := Option.some.inj hq2
       first | subst hq2 | clear hq2
       exact JQ.join () (Imp.norm (js := []) rfl (.cons rfl .nil))

theorem sim_wire_Put (k : Nat) (n_1 : UInt64) (size_2 : Int) (r : (List UInt8) × Int) (hm : wire_Put k n_1 size_2 = some r) : Sim Try.prog 30 [S (rU UInt64) n_1, S (rI .i64) size_2] [] (γ := Option Nat × Nat) (fun q => [cown q.1 (rU UInt8) r.1 0 q.2]) (fun q => .tup [.val (HDR q.1 0 (List.length r.1) q.2), .val (S (rI .i64) r.2)]) := by
 unfold wire_Put at hm
 refine Sim.of Try.func30 rfl rfl (Nat.le_of_ble_eq_true rfl) (fun e0 w0 => ?_)
 refine JC.at ⟨[(0, ov (S (rU UInt64) n_1)), (1, ov (S (rI .i64) size_2))], [], []⟩ ?_
 refine JC.seq ?_
 refine JC.region ?_
 refine jc (op_assign lb HasO.nilH) ?_
 refine jc (op_assign lb .cI) ?_
 refine JL.nil ?_
 refine JQ.then ?_
 refine JC.seq ?_
 replace hm := bnd_inv hm
 obtain ⟨x_12, hx1, hq1⟩ := hm
 refine JC.seqJ (γ := Unit) (stj := fun q => ⟨[(0, ov (S (rU UInt64) n_1)), (1, ov (S (rI .i64) size_2)), (24, ov (S rB x_12))], [], []⟩) (fun q => ?_) ?_
 · obtain _ := q
   refine JC.at ⟨[(0, ov (S (rU UInt64) n_1)), (1, ov (S (rI .i64) size_2)), (24, ov (S rB x_12))], [], []⟩ ?_
   replace hq1 := iteB_inv hq1
   rcases hq1 with ⟨hc16, hq1⟩ | ⟨hc16, hq1⟩
   · refine JC.condT (.tmp rfl) hc16 ?_
     refine JC.seq ?_
     refine JC.region ?_
     refine jc (op_assign lb HasO.nilH) ?_
     refine jc (op_assign lb .cI) ?_
     refine JL.nil ?_
     refine JQ.then ?_
     refine JC.ret ?_
     refine JQ.outR ?_
     replace hq1 := Option.some.inj hq1
     subst hq1
     refine JQ.pre (Imp.nilown (rU UInt8)) ?_
     exact JQ.done (js := [0]) (ss := [.val (HDR none 0 (List.length ([] : (List UInt8))) (0)), .val (S (rI .i64) (2 : Int))]) (none, 0) (.inl rfl) (.nil rfl) rfl (.cons (.tmp rfl) (.cons (.tmp rfl) .nil)) rfl rfl rfl
   · refine JC.condF (.tmp rfl) hc16 ?_
     refine JC.skip ?_
     refine JQ.then ?_
     refine JC.seq ?_
     refine JC.region ?_
     refine jc (op_assign lb HasO.nilH) ?_
     refine JL.nil ?_
     refine JQ.then ?_
     replace hq1 := bnd_inv hq1
     obtain ⟨b_27, hx17, hq17⟩ := hq1
     refine JC.seqJ (γ := Option Nat × Nat) (stj := fun q => ⟨[(6, ov (HDR q.1 0 (List.length b_27) q.2))], [cown q.1 (rU UInt8) b_27 0 q.2], []⟩) (fun q => ?_) ?_
     · obtain ⟨go_28, gc_29⟩ := q
       refine JC.at ⟨[(6, ov (HDR go_28 0 (List.length b_27) gc_29))], [cown go_28 (rU UInt8) b_27 0 gc_29], []⟩ ?_
       refine JC.seq ?_
       refine JC.region ?_
       refine jc (op_move lb (.tmp rfl)) ?_
       refine jc (op_assign lb (.tmp rfl)) ?_
       refine jc (op_assign lb .cI) ?_
       refine JL.nil ?_
       refine JQ.then ?_
       refine JC.ret ?_
       replace hq17 := Option.some.inj hq17
       subst hq17
       exact JQ.done (js := [0]) (ss := [.val (HDR go_28 0 (List.length b_27) gc_29), .val (S (rI .i64) (0 : Int))]) (go_28, gc_29) (.inl rfl) (.nil rfl) rfl (.cons (.tmp rfl) (.cons (.tmp rfl) .nil)) rfl rfl rfl
     · refine JC.seq ?_
       refine JC.region ?_
       refine jc (op_move lb (.tmp rfl)) ?_
       refine jc (op_move lb .cI) ?_
       refine JL.nil ?_
       refine JQ.then ?_
       refine JC.block ?_
       refine JC.pre (Imp.nilown (rU UInt8)) ?_
       refine JC.pre ?_ (JC.loop (γ := Option Nat × Nat) (stf := fun s q => ⟨[(0, ov (S (rU UInt64) n_1)), (1, ov (S (rI .i64) size_2)), (6, ov (HDR q.1 0 (List.length s.1) q.2)), (25, ov (S (rI .i64) size_2)), (26, ov (S (rI .i64) s.2))], [cown q.1 (rU UInt8) s.1 0 q.2], []⟩) (q := (none, 0)) hx17 ?_)
       · exact (Imp.norm (js := [0]) rfl (.cons rfl (.cons rfl (.cons rfl (.cons rfl (.cons rfl .nil))))))
       · intro s q x hx hr
         obtain ⟨b_13, x_14⟩ := s
         obtain ⟨go_15, gc_16⟩ := q
         change wire_Put.b1 k size_2 n_1 b_13 x_14 = some x at hx
         unfold wire_Put.b1 at hx
         refine JC.at ⟨[(0, ov (S (rU UInt64) n_1)), (1, ov (S (rI .i64) size_2)), (6, ov (HDR go_15 0 (List.length b_13) gc_16)), (25, ov (S (rI .i64) size_2)), (26, ov (S (rI .i64) x_14))], [cown go_15 (rU UInt8) b_13 0 gc_16], []⟩ ?_
         refine JC.seq ?_
         refine JC.region ?_
         replace hx := lt1_inv hx
         obtain ⟨v_17, hv_v_17, hx⟩ := hx
         refine jc (op_cmpI lb (.tmp rfl) (.tmp rfl) (congrArg some hv_v_17)) ?_
         refine JL.nil ?_
         refine JQ.then ?_
         refine JC.seq ?_
         replace hx := iteB_inv hx
         rcases hx with ⟨hc19, hx⟩ | ⟨hc19, hx⟩
         · refine JC.condT (.tmp rfl) hc19 ?_
           refine JC.skip ?_
           refine JQ.then ?_
           refine JC.seq ?_
           refine JC.block ?_
           refine JC.seq ?_
           refine JC.region ?_
           refine jc (op_move lb (.tmp rfl)) ?_
           refine jc (op_assign lb (.tmp rfl)) ?_
           refine JL.nil ?_
           refine JQ.then ?_
           refine JC.region ?_
           refine jc (op_move lb (.tmp rfl)) ?_
           refine jc (op_move lb (.tmp rfl)) ?_
           refine jc (op_move lb (.tmp rfl)) ?_
           replace hx := lt1_inv hx
           obtain ⟨v_18, hv_v_18, hx⟩ := hx
           refine jc (op_arI lb (.tmp rfl) .cI (congrArg some hv_v_18)) ?_
           refine jc (op_move lb (.tmp rfl)) ?_
           replace hx := lt1_inv hx
           obtain ⟨v_19, hv_v_19, hx⟩ := hx
           refine jc (op_arI lb (.tmp rfl) (.tmp rfl) (congrArg some hv_v_19)) ?_
           replace hx := lt1_inv hx
           obtain ⟨v_20, hv_v_20, hx⟩ := hx
           refine jc (op_arI lb .cI (.tmp rfl) (congrArg some hv_v_20)) ?_
           replace hx := bnd_inv hx
           obtain ⟨v_21, hv_v_21, hx⟩ := hx
           refine jc (op_shrUI lb (.tmp rfl) (.tmp rfl) hv_v_21) ?_
           replace hx := lt1_inv hx
           obtain ⟨v_22, hv_v_22, hx⟩ := hx
           refine jc (op_convUU lb tu23 tu5 (.tmp rfl) hv_v_22) ?_
           refine JL.sub ⟨[(0, ov (S (rU UInt64) n_1)), (1, ov (S (rI .i64) size_2)), (6, ov (HDR go_15 0 (List.length b_13) gc_16)), (25, ov (S (rI .i64) size_2)), (26, ov (S (rI .i64) x_14)), (29, ov (HDR go_15 0 (List.length b_13) gc_16)), (37, ov (S (rU UInt8) v_22))], [cown go_15 (rU UInt8) b_13 0 gc_16], []⟩ rfl rfl rfl ?_
           refine jc (op_buildF (r := (rU UInt8)) lb tu22 tz5 tZ5 rfl (Nat.le_of_ble_eq_true rfl) (.S rfl (.tmp rfl) .nil) rfl) ?_
           replace hx := bnd_inv hx
           obtain ⟨b_23, hv_b_23, hx⟩ := hx
           refine jx (op_appendL (j := 0) lb tu22 tu22 rfl tB5 rfl (Nat.lt_of_lt_of_le Nat.zero_lt_one (Nat.le_of_ble_eq_true rfl)) (Nat.lt_of_lt_of_le Nat.zero_lt_one (Nat.le_of_ble_eq_true rfl))  rfl (.tmp rfl) (.tmp rfl) hv_b_23) (fun q => ?_)
           obtain ⟨go_24, gc_25⟩ := q
           refine jc (op_assign lb (.tmp rfl)) ?_
           refine JL.nil ?_
           refine JQ.outNB ?_
           refine JQ.then ?_
           refine JC.region ?_
           replace hx := lt1_inv hx
           obtain ⟨v_26, hv_v_26, hx⟩ := hx
           refine jc (op_arI lb (.tmp rfl) .cI (congrArg some hv_v_26)) ?_
           refine jc (op_move lb (.tmp rfl)) ?_
           refine JL.nil ?_
           replace hx := Option.some.inj hx
           first | subst hx | clear hx
           exact JQ.next (go_24, gc_25) rfl (Imp.norm (js := [0]) rfl (.cons rfl (.cons rfl (.cons rfl (.cons rfl (.cons rfl .nil))))))
         · refine JC.condF (.tmp rfl) hc19 ?_
           refine JC.exit ?_
           refine JQ.outX ?_
           replace hx := Option.some.inj hx
           first | subst hx | clear hx
           have ht := hr _ rfl
           have hq18 := congrArg some ht
           clear hr ht
           refine JQ.outX ?_
           refine JQ.here ?_
           replace hq18 := Option.some.inj hq18
           first | subst hq18 | clear hq18
           exact JQ.join (go_15, gc_16) (Imp.norm (js := [0]) rfl (.cons rfl .nil))
 · refine JC.region ?_
   refine jc (op_move lb (.tmp rfl)) ?_
   replace hx1 := lt1_inv hx1
   obtain ⟨v_3, hv_v_3, hx1⟩ := hx1
   refine jc (op_cmpI lb (.tmp rfl) .cI (congrArg some hv_v_3)) ?_
   refine jc (op_move lb (.tmp rfl)) ?_
   refine JL.cnd (sv := ov (S (rI .i64) size_2)) (Guard.isF (ltB rfl) rfl rfl) rfl (ltB rfl) (fun hq_2 => op_move lb (.tmp rfl)) ?_
   replace hx1 := lt1_inv hx1
   obtain ⟨v_4, hv_v_4, hx1⟩ := hx1
   refine JL.cnd (sv := ov (S rB v_4)) (Guard.isF (ltB rfl) rfl rfl) rfl (ltB rfl) (fun hq_3 => op_cmpI lb (HasO.cnd (.tmp rfl) (notT (notF hq_3))) .cI (congrArg some hv_v_4)) ?_
   replace hx1 := lt1_inv hx1
   obtain ⟨v_5, hv_v_5, hx1⟩ := hx1
   refine jc (op_pickCS lb (.tmp rfl) (fun hb4 => .cB) (fun hb4 => (HasO.cnd (.tmp rfl) (notT hb4))) hv_v_5) ?_
   refine jc (op_move lb (.tmp rfl)) ?_
   refine JL.cnd (sv := ov (S (rI .i64) size_2)) (Guard.isF (ltB rfl) rfl rfl) rfl (ltB rfl) (fun hq_5 => op_move lb (.tmp rfl)) ?_
   replace hx1 := lt1_inv hx1
   obtain ⟨v_6, hv_v_6, hx1⟩ := hx1
   refine JL.cnd (sv := ov (S rB v_6)) (Guard.isF (ltB rfl) rfl rfl) rfl (ltB rfl) (fun hq_6 => op_cmpI lb (HasO.cnd (.tmp rfl) (notT (notF hq_6))) .cI (congrArg some hv_v_6)) ?_
   refine JL.cnd (sv := ov (S rB v_6)) (Guard.isF (ltB rfl) rfl rfl) rfl (ltB rfl) (fun hq_7 => op_move lb (HasO.cnd (.tmp rfl) (notT (notF hq_7)))) ?_
   refine JL.sub ⟨[(0, ov (S (rU UInt64) n_1)), (1, ov (S (rI .i64) size_2)), (14, ov (S rB v_5)), (17, bif (!v_5) then ov (S rB v_6) else .one .und)], [], []⟩ rfl rfl rfl ?_
   refine JL.cnd (sv := ov (S (rU UInt64) n_1)) (Guard.cT (q := (!v_5)) (ltB rfl) rfl rfl) rfl (ltB rfl) (fun hq_8 => op_move lb (.tmp rfl)) ?_
   refine JL.cnd (sv := ov (S (rI .i64) size_2)) (Guard.cT (q := (!v_5)) (ltB rfl) rfl rfl) rfl (ltB rfl) (fun hq_9 => op_move lb (.tmp rfl)) ?_
   replace hx1 := lt1_inv hx1
   obtain ⟨v_7, hv_v_7, hx1⟩ := hx1
   refine JL.cnd (sv := ov (S (rI .i64) v_7)) (Guard.cT (q := (!v_5)) (ltB rfl) rfl rfl) rfl (ltB rfl) (fun hq_10 => op_arI lb .cI (HasO.cnd (.tmp rfl) (andI (notT (notF (andL hq_10))) (andR hq_10))) (congrArg some hv_v_7)) ?_
   replace hx1 := bnd_inv hx1
   obtain ⟨v_8, hv_v_8, hx1⟩ := hx1
   refine JL.cnd (sv := ov (S (rU UInt64) v_8)) (Guard.cT (q := (!v_5)) (ltB rfl) rfl rfl) rfl (ltB rfl) (fun hq_11 => op_shrUI lb (HasO.cnd (.tmp rfl) (andI (notT (notF (andL hq_11))) (andR hq_11))) (HasO.cnd (.tmp rfl) (andI (notT (notF (andL hq_11))) (andR hq_11))) (ifT hv_v_8 hq_11)) ?_
   replace hx1 := lt1_inv hx1
   obtain ⟨v_9, hv_v_9, hx1⟩ := hx1
   refine JL.cnd (sv := ov (S rB v_9)) (Guard.cT (q := (!v_5)) (ltB rfl) rfl rfl) rfl (ltB rfl) (fun hq_12 => op_cmpU lb (HasO.cnd (.tmp rfl) (andI (notT (notF (andL hq_12))) (andR hq_12))) (HasO.cU (x := (0 : UInt64)) rfl (by decide)) (congrArg some hv_v_9)) ?_
   replace hx1 := lt1_inv hx1
   obtain ⟨v_10, hv_v_10, hx1⟩ := hx1
   refine JL.cnd (sv := ov (S rB v_10)) (Guard.isF (ltB rfl) rfl rfl) rfl (ltB rfl) (fun hq_13 => op_pickCS lb (HasO.cnd (.tmp rfl) (notT (notF hq_13))) (fun hb14 => (HasO.cnd (.tmp rfl) (andI (notT (notF hq_13)) hb14))) (fun hb14 => .cB) hv_v_10) ?_
   replace hx1 := lt1_inv hx1
   obtain ⟨v_11, hv_v_11, hx1⟩ := hx1
   refine jc (op_pickCS lb (.tmp rfl) (fun hb15 => .cB) (fun hb15 => (HasO.cnd (.tmp rfl) (notT hb15))) hv_v_11) ?_
   refine JL.nil ?_
   replace hx1 := Option.some.inj hx1
   first | subst hx1 | clear hx1
   exact JQ.join () (Imp.norm (js := []) rfl (.cons rfl (.cons rfl (.cons rfl .nil))))

theorem sim_wire_Vector (k : Nat) (v_1 : (Vector UInt64 16)) (r : (List UInt8)) (hm : wire_Vector k v_1 = some r) : Sim Try.prog 20 [A (rV 16 (rU UInt64)) v_1] [] (γ := Option Nat × Nat) (fun q => [cown q.1 (rU UInt8) r 0 q.2]) (fun q => .one (.val (HDR q.1 0 (List.length r) q.2))) := by
 unfold wire_Vector at hm
 refine Sim.of Try.func20 rfl rfl (Nat.le_of_ble_eq_true rfl) (fun e0 w0 => ?_)
 refine JC.at ⟨[(0, ov (A (rV 16 (rU UInt64)) v_1))], [], []⟩ ?_
 refine JC.seq ?_
 refine JC.region ?_
 refine jx (op_boxA lb (.tmp rfl)) (fun q => ?_)
 obtain ⟨gb_2, hqq⟩ : ∃ z, z = q := ⟨_, rfl⟩
 subst hqq
 refine jc (op_assign lb HasO.nilH) ?_
 refine JL.nil ?_
 refine JQ.then ?_
 refine JC.seq ?_
 refine JC.region ?_
 refine jc (op_assign lb HasO.nilH) ?_
 refine JL.nil ?_
 refine JQ.then ?_
 replace hm := bnd_inv hm
 obtain ⟨b_17, hx1, hq1⟩ := hm
 refine JC.seqJ (γ := Option Nat × Nat) (stj := fun q => ⟨[(3, ov (HDR q.1 0 (List.length b_17) q.2))], [cown q.1 (rU UInt8) b_17 0 q.2], []⟩) (fun q => ?_) ?_
 · obtain ⟨go_18, gc_19⟩ := q
   refine JC.at ⟨[(3, ov (HDR go_18 0 (List.length b_17) gc_19))], [cown go_18 (rU UInt8) b_17 0 gc_19], []⟩ ?_
   refine JC.seq ?_
   refine JC.region ?_
   refine jc (op_move lb (.tmp rfl)) ?_
   refine jc (op_assign lb (.tmp rfl)) ?_
   refine JL.nil ?_
   refine JQ.then ?_
   refine JC.ret ?_
   replace hq1 := Option.some.inj hq1
   subst hq1
   exact JQ.done (js := [0]) (ss := [.val (HDR go_18 0 (List.length b_17) gc_19)]) (go_18, gc_19) (.inl rfl) (.nil rfl) rfl (.cons (.tmp rfl) .nil) rfl rfl rfl
 · refine JC.seq ?_
   refine JC.region ?_
   refine jc (op_loadA (j := 0) lb tA25 (.tmp rfl) rfl (Comp.self (rV 16 (rU UInt64)) v_1) rfl) ?_
   refine jc (op_move lb .cI) ?_
   refine JL.nil ?_
   refine JQ.then ?_
   refine JC.block ?_
   refine JC.pre (Imp.nilown (rU UInt8)) ?_
   refine JC.pre ?_ (JC.loop (γ := Option Nat × Nat) (stf := fun s q => ⟨[(3, ov (HDR q.1 0 (List.length s.1) q.2)), (8, ov (A (rV 16 (rU UInt64)) v_1)), (9, ov (S (rI .i64) s.2))], [cown q.1 (rU UInt8) s.1 0 q.2], []⟩) (q := (none, 0)) hx1 ?_)
   · exact (Imp.norm (js := [1]) rfl (.cons rfl (.cons rfl (.cons rfl .nil))))
   · intro s q x hx hr
     obtain ⟨b_3, x_4⟩ := s
     obtain ⟨go_5, gc_6⟩ := q
     change wire_Vector.b1 k v_1 b_3 x_4 = some x at hx
     unfold wire_Vector.b1 at hx
     refine JC.at ⟨[(3, ov (HDR go_5 0 (List.length b_3) gc_6)), (8, ov (A (rV 16 (rU UInt64)) v_1)), (9, ov (S (rI .i64) x_4))], [cown go_5 (rU UInt8) b_3 0 gc_6], []⟩ ?_
     refine JC.seq ?_
     refine JC.region ?_
     replace hx := lt1_inv hx
     obtain ⟨v_7, hv_v_7, hx⟩ := hx
     refine jc (op_cmpI lb (.tmp rfl) .cI (congrArg some hv_v_7)) ?_
     refine JL.nil ?_
     refine JQ.then ?_
     refine JC.seq ?_
     replace hx := iteB_inv hx
     rcases hx with ⟨hc3, hx⟩ | ⟨hc3, hx⟩
     · refine JC.condT (.tmp rfl) hc3 ?_
       refine JC.skip ?_
       refine JQ.then ?_
       refine JC.seq ?_
       refine JC.block ?_
       refine JC.seq ?_
       refine JC.region ?_
       replace hx := bnd_inv hx
       obtain ⟨v_8, hv_v_8, hx⟩ := hx
       refine jc (op_indexSg lb tu25 tS23 rfl (.tmp rfl) (.tmp rfl) hv_v_8) ?_
       refine jc (op_assign lb (.tmp rfl)) ?_
       refine JL.nil ?_
       refine JQ.then ?_
       refine JC.seq ?_
       refine JC.region ?_
       refine jc (op_move lb (.tmp rfl)) ?_
       replace hx := bnd_inv hx
       obtain ⟨⟨v_9, v_10⟩, hv_v_9, hx⟩ := hx
       refine jx (op_call (js := []) ld cl30 (sim_wire_Put k v_8 (8 : Int) (v_9, v_10) hv_v_9) .func (.cons (.tmp rfl) (.cons .cI .nil)) rfl) (fun q => ?_)
       obtain ⟨go_11, gc_12⟩ := q
       refine jc (op_move lb (.tmp rfl)) ?_
       refine jc (op_extract (i := 0) lb (.tmp rfl) rfl) ?_
       refine jc (op_extract (i := 1) lb (.tmp rfl) rfl) ?_
       refine jc (op_assign lb (.tmp rfl)) ?_
       refine jc (op_assign lb (.tmp rfl)) ?_
       refine JL.sub ⟨[(3, ov (HDR go_5 0 (List.length b_3) gc_6)), (6, ov (HDR go_11 0 (List.length v_9) gc_12)), (8, ov (A (rV 16 (rU UInt64)) v_1)), (9, ov (S (rI .i64) x_4))], [cown go_11 (rU UInt8) v_9 0 gc_12, cown go_5 (rU UInt8) b_3 0 gc_6], []⟩ rfl rfl rfl ?_
       refine JL.nil ?_
       refine JQ.then ?_
       refine JC.region ?_
       refine jc (op_move lb (.tmp rfl)) ?_
       refine jc (op_move lb (.tmp rfl)) ?_
       replace hx := bnd_inv hx
       obtain ⟨b_13, hv_b_13, hx⟩ := hx
       refine jx (op_appendO (j := 1) (j' := 0) lb tu22 tu22 rfl tB5 rfl (Nat.lt_of_lt_of_le Nat.zero_lt_one (Nat.le_of_ble_eq_true rfl)) (Nat.lt_of_lt_of_le Nat.zero_lt_one (Nat.le_of_ble_eq_true rfl))  rfl (.tmp rfl) rfl (.tmp rfl) hv_b_13) (fun q => ?_)
       obtain ⟨go_14, gc_15⟩ := q
       refine jc (op_assign lb (.tmp rfl)) ?_
       refine JL.nil ?_
       refine JQ.outNB ?_
       refine JQ.then ?_
       refine JC.region ?_
       replace hx := lt1_inv hx
       obtain ⟨v_16, hv_v_16, hx⟩ := hx
       refine jc (op_arI lb (.tmp rfl) .cI (congrArg some hv_v_16)) ?_
       refine jc (op_move lb (.tmp rfl)) ?_
       refine JL.nil ?_
       replace hx := Option.some.inj hx
       first | subst hx | clear hx
       exact JQ.next (go_14, gc_15) rfl (Imp.norm (js := [1]) rfl (.cons rfl (.cons rfl (.cons rfl .nil))))
     · refine JC.condF (.tmp rfl) hc3 ?_
       refine JC.exit ?_
       refine JQ.outX ?_
       replace hx := Option.some.inj hx
       first | subst hx | clear hx
       have ht := hr _ rfl
       have hq2 := congrArg some ht
       clear hr ht
       refine JQ.outX ?_
       refine JQ.here ?_
       replace hq2 := Option.some.inj hq2
       first | subst hq2 | clear hq2
       exact JQ.join (go_5, gc_6) (Imp.norm (js := [0]) rfl (.cons rfl .nil))

theorem sim_wire_Blob (k : Nat) (b_1 : (List UInt8)) (r : (List UInt8) × Int) (hm : wire_Blob k b_1 = some r) : Sim Try.prog 31 [S (rL (rU UInt8)) b_1] [] (γ := Option Nat × Nat) (fun q => [cown q.1 (rU UInt8) r.1 0 q.2]) (fun q => .tup [.val (HDR q.1 0 (List.length r.1) q.2), .val (S (rI .i64) r.2)]) := by
 unfold wire_Blob at hm
 refine Sim.of Try.func31 rfl rfl (Nat.le_of_ble_eq_true rfl) (fun e0 w0 => ?_)
 refine JC.at ⟨[(0, ov (S (rL (rU UInt8)) b_1))], [], []⟩ ?_
 refine JC.seq ?_
 refine JC.region ?_
 refine jc (op_assign lb HasO.nilH) ?_
 refine jc (op_assign lb .cI) ?_
 refine JL.nil ?_
 refine JQ.then ?_
 refine JC.seq ?_
 refine JC.seq ?_
 refine JC.region ?_
 refine jc (op_move lb (.tmp rfl)) ?_
 refine jc (op_lenL lb tu22 (.tmp rfl)) ?_
 replace hm := lt1_inv hm
 obtain ⟨v_2, hv_v_2, hm⟩ := hm
 refine jc (op_cmpI lb (.tmp rfl) .cI (congrArg some hv_v_2)) ?_
 refine JL.nil ?_
 refine JQ.then ?_
 replace hm := iteB_inv hm
 rcases hm with ⟨hc1, hm⟩ | ⟨hc1, hm⟩
 · refine JC.condT (.tmp rfl) hc1 ?_
   refine JC.seq ?_
   refine JC.region ?_
   refine jc (op_assign lb HasO.nilH) ?_
   refine jc (op_assign lb .cI) ?_
   refine JL.nil ?_
   refine JQ.then ?_
   refine JC.ret ?_
   refine JQ.outR ?_
   replace hm := Option.some.inj hm
   subst hm
   refine JQ.pre (Imp.nilown (rU UInt8)) ?_
   exact JQ.done (js := [0]) (ss := [.val (HDR none 0 (List.length ([] : (List UInt8))) (0)), .val (S (rI .i64) (3 : Int))]) (none, 0) (.inl rfl) (.nil rfl) rfl (.cons (.tmp rfl) (.cons (.tmp rfl) .nil)) rfl rfl rfl
 · refine JC.condF (.tmp rfl) hc1 ?_
   refine JC.skip ?_
   refine JQ.then ?_
   refine JC.seq ?_
   refine JC.region ?_
   refine jc (op_move lb (.tmp rfl)) ?_
   refine jc (op_lenL lb tu22 (.tmp rfl)) ?_
   replace hm := lt1_inv hm
   obtain ⟨v_3, hv_v_3, hm⟩ := hm
   refine jc (op_convIU lb tu3 tu23 (.tmp rfl) hv_v_3) ?_
   replace hm := bnd_inv hm
   obtain ⟨⟨v_4, v_5⟩, hv_v_4, hm⟩ := hm
   refine jx (op_call (js := []) ld cl30 (sim_wire_Put k v_3 (2 : Int) (v_4, v_5) hv_v_4) .func (.cons (.tmp rfl) (.cons .cI .nil)) rfl) (fun q => ?_)
   obtain ⟨go_6, gc_7⟩ := q
   refine jc (op_move lb (.tmp rfl)) ?_
   refine JL.sub ⟨[(0, ov (S (rL (rU UInt8)) b_1)), (9, .tup [.val (HDR go_6 0 (List.length v_4) gc_7), .val (S (rI .i64) v_5)])], [cown go_6 (rU UInt8) v_4 0 gc_7], []⟩ rfl rfl rfl ?_
   refine jc (op_extract (i := 0) lb (.tmp rfl) rfl) ?_
   refine jc (op_extract (i := 1) lb (.tmp rfl) rfl) ?_
   refine jc (op_assign lb (.tmp rfl)) ?_
   refine jc (op_assign lb (.tmp rfl)) ?_
   refine JL.nil ?_
   refine JQ.then ?_
   refine JC.seq ?_
   refine JC.region ?_
   refine jc (op_move lb (.tmp rfl)) ?_
   refine jc (op_move lb (.tmp rfl)) ?_
   replace hm := bnd_inv hm
   obtain ⟨n_8, hv_n_8, hm⟩ := hm
   refine jx (op_appendL (j := 0) lb tu22 tu22 rfl tB5 rfl (Nat.lt_of_lt_of_le Nat.zero_lt_one (Nat.le_of_ble_eq_true rfl)) (Nat.lt_of_lt_of_le Nat.zero_lt_one (Nat.le_of_ble_eq_true rfl))  rfl (.tmp rfl) (.tmp rfl) hv_n_8) (fun q => ?_)
   obtain ⟨go_9, gc_10⟩ := q
   refine jc (op_assign lb (.tmp rfl)) ?_
   refine jc (op_assign lb .cI) ?_
   refine JL.nil ?_
   refine JQ.then ?_
   refine JC.ret ?_
   replace hm := Option.some.inj hm
   subst hm
   exact JQ.done (js := [0]) (ss := [.val (HDR go_9 0 (List.length n_8) gc_10), .val (S (rI .i64) (0 : Int))]) (go_9, gc_10) (.inl rfl) (.nil rfl) rfl (.cons (.tmp rfl) (.cons (.tmp rfl) .nil)) rfl rfl rfl

theorem sim_sha_primes_1 (k : Nat) (p_1 : UInt64) (x_2 : UInt64) (gb_3 : Nat) (r : Bool) (hm : sha_primes_1 k p_1 x_2 = some r) : Sim Try.prog 54 [S (rU UInt64) p_1, PTR gb_3 0] [cvar gb_3 (rU UInt64) x_2] (γ := Unit) (fun q => [cvar gb_3 (rU UInt64) x_2]) (fun q => .one (.val (S rB r))) := by
 unfold sha_primes_1 at hm
 refine Sim.of Try.func54 rfl rfl (Nat.le_of_ble_eq_true rfl) (fun e0 w0 => ?_)
 refine JC.at ⟨[(0, ov (S (rU UInt64) p_1)), (1, ov (PTR gb_3 0))], [cvar gb_3 (rU UInt64) x_2], []⟩ ?_
 refine JC.seq ?_
 refine JC.region ?_
 refine jc (op_assign lb .cB) ?_
 refine JL.nil ?_
 refine JQ.then ?_
 refine JC.seq ?_
 refine JC.region ?_
 refine jc (op_loadS (j := 0) lb tS23 (.tmp rfl) rfl (Comp.self (rU UInt64) x_2) rfl rfl) ?_
 refine jc (op_move lb (.tmp rfl)) ?_
 replace hm := bnd_inv hm
 obtain ⟨v_4, hv_v_4, hm⟩ := hm
 refine jc (op_arU lb (.tmp rfl) (.tmp rfl) hv_v_4) ?_
 replace hm := lt1_inv hm
 obtain ⟨v_5, hv_v_5, hm⟩ := hm
 refine jc (op_cmpU lb (.tmp rfl) (HasO.cU (x := (0 : UInt64)) rfl (by decide)) (congrArg some hv_v_5)) ?_
 refine jc (op_assign lb (.tmp rfl)) ?_
 refine JL.nil ?_
 refine JQ.then ?_
 refine JC.ret ?_
 replace hm := Option.some.inj hm
 subst hm
 exact JQ.done (js := [0]) (ss := [.val (S rB v_5)]) () (.inl rfl) (.nil rfl) rfl (.cons (.tmp rfl) .nil) rfl rfl rfl

theorem sim_slices_IndexFuncuint64_uint64 (k : Nat) (s_1 : (List UInt64)) (x_2 : UInt64) (gb_3 : Nat) (r : Int) (hm : slices_IndexFuncuint64_uint64 k s_1 x_2 = some r) : Sim Try.prog 65 [S (rL (rU UInt64)) s_1, CLO 54 [PTR gb_3 0]] [cvar gb_3 (rU UInt64) x_2] (γ := Unit) (fun q => [cvar gb_3 (rU UInt64) x_2]) (fun q => .one (.val (S (rI .i64) r))) := by
 unfold slices_IndexFuncuint64_uint64 at hm
 refine Sim.of Try.func65 rfl rfl (Nat.le_of_ble_eq_true rfl) (fun e0 w0 => ?_)
 refine JC.at ⟨[(0, ov (S (rL (rU UInt64)) s_1)), (1, ov (CLO 54 [PTR gb_3 0]))], [cvar gb_3 (rU UInt64) x_2], []⟩ ?_
 refine JC.seq ?_
 refine JC.region ?_
 refine jc (op_assign lb .cI) ?_
 refine JL.nil ?_
 refine JQ.then ?_
 replace hm := bnd_inv hm
 obtain ⟨tv1, hx1, hq1⟩ := hm
 refine JC.seqK (α := Unit) (γ := Unit) (stj := fun v q => ⟨[], [cvar gb_3 (rU UInt64) x_2], []⟩) (p := fun v => tv1 = (.inl v)) (fun v q hv => ?_) ?_
 · subst hv
   skip
   obtain _ := q
   dsimp only at hq1
   refine JC.at ⟨[], [cvar gb_3 (rU UInt64) x_2], []⟩ ?_
   refine JC.seq ?_
   refine JC.region ?_
   refine jc (op_assign lb .cI) ?_
   refine JL.nil ?_
   refine JQ.then ?_
   refine JC.ret ?_
   replace hq1 := Option.some.inj hq1
   subst hq1
   exact JQ.done (js := [0]) (ss := [.val (S (rI .i64) (-1 : Int))]) () (.inl rfl) (.nil rfl) rfl (.cons (.tmp rfl) .nil) rfl rfl rfl
 · refine JC.seq ?_
   refine JC.region ?_
   refine jc (op_move lb (.tmp rfl)) ?_
   refine jc (op_lenL lb tu81 (.tmp rfl)) ?_
   refine jc (op_move lb .cI) ?_
   refine JL.nil ?_
   refine JQ.then ?_
   refine JC.block ?_
   replace hx1 := bnd_inv hx1
   obtain ⟨tv2, hL2, hq2⟩ := hx1
   refine JC.pre ?_ (JC.loop (γ := Unit) (stf := fun s q => ⟨[(0, ov (S (rL (rU UInt64)) s_1)), (1, ov (CLO 54 [PTR gb_3 0])), (7, ov (S (rI .i64) (List.length s_1 : Int))), (8, ov (S (rI .i64) s))], [cvar gb_3 (rU UInt64) x_2], []⟩) (q := ()) hL2 ?_)
   · exact (Imp.norm (js := [0]) rfl (.cons rfl (.cons rfl (.cons rfl (.cons rfl .nil)))))
   · intro x_4 q x hx hr
     obtain _ := q
     change slices_IndexFuncuint64_uint64.b1 k s_1 x_2 x_4 = some x at hx
     unfold slices_IndexFuncuint64_uint64.b1 at hx
     refine JC.at ⟨[(0, ov (S (rL (rU UInt64)) s_1)), (1, ov (CLO 54 [PTR gb_3 0])), (7, ov (S (rI .i64) (List.length s_1 : Int))), (8, ov (S (rI .i64) x_4))], [cvar gb_3 (rU UInt64) x_2], []⟩ ?_
     refine JC.seq ?_
     refine JC.region ?_
     replace hx := lt1_inv hx
     obtain ⟨v_5, hv_v_5, hx⟩ := hx
     refine jc (op_cmpI lb (.tmp rfl) (.tmp rfl) (congrArg some hv_v_5)) ?_
     refine JL.nil ?_
     refine JQ.then ?_
     refine JC.seq ?_
     replace hx := iteB_inv hx
     rcases hx with ⟨hc3, hx⟩ | ⟨hc3, hx⟩
     · refine JC.condT (.tmp rfl) hc3 ?_
       refine JC.skip ?_
       refine JQ.then ?_
       refine JC.seq ?_
       refine JC.block ?_
       refine JC.seq ?_
       refine JC.region ?_
       refine jc (op_move lb (.tmp rfl)) ?_
       refine jc (op_assign lb (.tmp rfl)) ?_
       refine JL.nil ?_
       refine JQ.then ?_
       refine JC.seq ?_
       refine JC.region ?_
       refine jc (op_move lb (.tmp rfl)) ?_
       refine jc (op_move lb (.tmp rfl)) ?_
       refine jc (op_move lb (.tmp rfl)) ?_
       replace hx := bnd_inv hx
       obtain ⟨v_6, hv_v_6, hx⟩ := hx
       refine jc (op_indexAddrLg lb tu81 tz23 (.tmp rfl) (.tmp rfl) hv_v_6) ?_
       refine jc (op_loadPSg lb tS23 rfl (.tmp rfl) rfl) ?_
       replace hx := bnd_inv hx
       obtain ⟨v_7, hv_v_7, hx⟩ := hx
       refine jx (op_call (js := [0]) ld cl54 (sim_sha_primes_1 k v_6 x_2 gb_3 v_7 hv_v_7) (.tmp rfl) (.cons (.tmp rfl) .nil) rfl) (fun _ => ?_)
       refine JL.nil ?_
       refine JQ.then ?_
       replace hx := iteB_inv hx
       rcases hx with ⟨hc4, hx⟩ | ⟨hc4, hx⟩
       · refine JC.condT (.tmp rfl) hc4 ?_
         refine JC.seq ?_
         refine JC.region ?_
         refine jc (op_move lb (.tmp rfl)) ?_
         refine jc (op_assign lb (.tmp rfl)) ?_
         refine JL.nil ?_
         refine JQ.then ?_
         refine JC.ret ?_
         refine JQ.outRB ?_
         refine JQ.outR ?_
         replace hx := Option.some.inj hx
         first | subst hx | clear hx
         have ht := hr _ rfl
         clear hr
         first | subst ht | clear ht
         dsimp only at hq2
         refine JQ.outR ?_
         refine JQ.outRB ?_
         replace hq2 := Option.some.inj hq2
         first | subst hq2 | clear hq2
         dsimp only at hq1
         refine JQ.outR ?_
         replace hq1 := Option.some.inj hq1
         subst hq1
         exact JQ.done (js := [0]) (ss := [.val (S (rI .i64) x_4)]) () (.inl rfl) (.nil rfl) rfl (.cons (.tmp rfl) .nil) rfl rfl rfl
       · refine JC.condF (.tmp rfl) hc4 ?_
         refine JC.skip ?_
         refine JQ.outNB ?_
         refine JQ.then ?_
         refine JC.region ?_
         replace hx := lt1_inv hx
         obtain ⟨v_8, hv_v_8, hx⟩ := hx
         refine jc (op_arI lb (.tmp rfl) .cI (congrArg some hv_v_8)) ?_
         refine jc (op_move lb (.tmp rfl)) ?_
         refine JL.nil ?_
         replace hx := Option.some.inj hx
         first | subst hx | clear hx
         exact JQ.next () rfl (Imp.norm (js := [0]) rfl (.cons rfl (.cons rfl (.cons rfl (.cons rfl .nil)))))
     · refine JC.condF (.tmp rfl) hc3 ?_
       refine JC.exit ?_
       refine JQ.outX ?_
       replace hx := Option.some.inj hx
       first | subst hx | clear hx
       have ht := hr _ rfl
       clear hr
       first | subst ht | clear ht
       dsimp only at hq2
       refine JQ.outX ?_
       refine JQ.here ?_
       replace hq2 := Option.some.inj hq2
       first | subst hq2 | clear hq2
       exact JQ.joinK () () rfl (Imp.norm (js := [0]) rfl .nil)

theorem sim_slices_ContainsFuncuint64_uint64 (k : Nat) (s_1 : (List UInt64)) (x_2 : UInt64) (gb_3 : Nat) (r : Bool) (hm : slices_ContainsFuncuint64_uint64 k s_1 x_2 = some r) : Sim Try.prog 53 [S (rL (rU UInt64)) s_1, CLO 54 [PTR gb_3 0]] [cvar gb_3 (rU UInt64) x_2] (γ := Unit) (fun q => [cvar gb_3 (rU UInt64) x_2]) (fun q => .one (.val (S rB r))) := by
 unfold slices_ContainsFuncuint64_uint64 at hm
 refine Sim.of Try.func53 rfl rfl (Nat.le_of_ble_eq_true rfl) (fun e0 w0 => ?_)
 refine JC.at ⟨[(0, ov (S (rL (rU UInt64)) s_1)), (1, ov (CLO 54 [PTR gb_3 0]))], [cvar gb_3 (rU UInt64) x_2], []⟩ ?_
 refine JC.seq ?_
 refine JC.region ?_
 refine jc (op_assign lb .cB) ?_
 refine JL.nil ?_
 refine JQ.then ?_
 refine JC.seq ?_
 refine JC.region ?_
 refine jc (op_move lb (.tmp rfl)) ?_
 refine jc (op_move lb (.tmp rfl)) ?_
 replace hm := bnd_inv hm
 obtain ⟨v_4, hv_v_4, hm⟩ := hm
 refine jx (op_call (js := [0]) ld cl65 (sim_slices_IndexFuncuint64_uint64 k s_1 x_2 gb_3 v_4 hv_v_4) .func (.cons (.tmp rfl) (.cons (.tmp rfl) .nil)) rfl) (fun _ => ?_)
 replace hm := lt1_inv hm
 obtain ⟨v_5, hv_v_5, hm⟩ := hm
 refine jc (op_cmpI lb (.tmp rfl) .cI (congrArg some hv_v_5)) ?_
 refine jc (op_assign lb (.tmp rfl)) ?_
 refine JL.nil ?_
 refine JQ.then ?_
 refine JC.ret ?_
 replace hm := Option.some.inj hm
 subst hm
 exact JQ.done (js := [0]) (ss := [.val (S rB v_5)]) () (.inl rfl) (.nil rfl) rfl (.cons (.tmp rfl) .nil) rfl rfl rfl

end Go.Proofs.Ytnhiiabdoichlaa
