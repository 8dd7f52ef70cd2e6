/- Walks. -/
import Derived.Test.YtkbkdfcakpbojaaT
import Derived.Test.YtkbkdfcakpbojaaW0
namespace Go.Proofs.Ytkbkdfcakpbojaa
open Go Fw
set_option linter.unusedVariables false
set_option maxRecDepth 100000
set_option maxHeartbeats 4000000

theorem sim_ref01_Much (k : Nat) (l_1 : (List (List UInt8))) (most_2 : Int) (r : Bool) (hm : ref01_Much k l_1 most_2 = some r) : Sim Try.prog 29 [S (rL (rL (rU UInt8))) l_1, S (rI .i64) most_2] [] (γ := Unit) (fun q => []) (fun q => .one (.val (S rB r))) := by
 unfold ref01_Much at hm
 refine Sim.of Try.func29 rfl rfl (Nat.le_of_ble_eq_true rfl) (fun e0 w0 => ?_)
 refine JC.at ⟨[(0, ov (S (rL (rL (rU UInt8))) l_1)), (1, ov (S (rI .i64) most_2))], [], []⟩ ?_
 refine JC.seq ?_
 refine JC.region ?_
 refine jc (op_assign lb .cB) ?_
 refine JL.nil ?_
 refine JQ.then ?_
 refine JC.seq ?_
 refine JC.region ?_
 refine jc (op_move lb (.tmp rfl)) ?_
 refine jc (op_lenL lb tu58 (.tmp rfl)) ?_
 refine jc (op_assign lb (.tmp rfl)) ?_
 refine JL.nil ?_
 refine JQ.then ?_
 replace hm := bnd_inv hm
 obtain ⟨n_14, hx1, hq1⟩ := hm
 refine JC.seqJ (γ := Unit) (stj := fun q => ⟨[(1, ov (S (rI .i64) most_2)), (5, ov (S (rI .i64) n_14))], [], []⟩) (fun q => ?_) ?_
 · obtain _ := q
   refine JC.at ⟨[(1, ov (S (rI .i64) most_2)), (5, ov (S (rI .i64) n_14))], [], []⟩ ?_
   refine JC.seq ?_
   refine JC.region ?_
   refine jc (op_move lb (.tmp rfl)) ?_
   refine jc (op_move lb (.tmp rfl)) ?_
   replace hq1 := lt1_inv hq1
   obtain ⟨v_15, hv_v_15, hq1⟩ := hq1
   refine jc (op_cmpI lb (.tmp rfl) (.tmp rfl) (congrArg some hv_v_15)) ?_
   refine jc (op_assign lb (.tmp rfl)) ?_
   refine JL.nil ?_
   refine JQ.then ?_
   refine JC.ret ?_
   replace hq1 := Option.some.inj hq1
   subst hq1
   exact JQ.done (js := []) (ss := [.val (S rB v_15)]) () (.inl rfl) (.nil rfl) rfl (.cons (.tmp rfl) .nil) rfl rfl rfl
 · refine JC.seq ?_
   refine JC.region ?_
   refine jc (op_assign lb .cI) ?_
   refine JL.nil ?_
   refine JQ.then ?_
   refine JC.block ?_
   refine JC.pre ?_ (JC.loop (γ := Unit) (stf := fun s q => ⟨[(0, ov (S (rL (rL (rU UInt8))) l_1)), (1, ov (S (rI .i64) most_2)), (5, ov (S (rI .i64) s.1)), (6, ov (S (rI .i64) s.2))], [], []⟩) (q := ()) hx1 ?_)
   · exact (Imp.norm (js := []) rfl (.cons rfl (.cons rfl (.cons rfl (.cons rfl .nil)))))
   · intro s q x hx hr
     obtain ⟨n_3, i_4⟩ := s
     obtain _ := q
     change ref01_Much.b1 k l_1 most_2 n_3 i_4 = some x at hx
     unfold ref01_Much.b1 at hx
     refine JC.at ⟨[(0, ov (S (rL (rL (rU UInt8))) l_1)), (1, ov (S (rI .i64) most_2)), (5, ov (S (rI .i64) n_3)), (6, ov (S (rI .i64) i_4))], [], []⟩ ?_
     refine JC.seq ?_
     replace hx := bnd_inv hx
     obtain ⟨x_8, hx3, hq3⟩ := hx
     refine JC.seqJ (γ := Unit) (stj := fun q => ⟨[(0, ov (S (rL (rL (rU UInt8))) l_1)), (1, ov (S (rI .i64) most_2)), (5, ov (S (rI .i64) n_3)), (6, ov (S (rI .i64) i_4)), (17, ov (S rB x_8))], [], []⟩) (fun q => ?_) ?_
     · obtain _ := q
       refine JC.at ⟨[(0, ov (S (rL (rL (rU UInt8))) l_1)), (1, ov (S (rI .i64) most_2)), (5, ov (S (rI .i64) n_3)), (6, ov (S (rI .i64) i_4)), (17, ov (S rB x_8))], [], []⟩ ?_
       replace hq3 := iteB_inv hq3
       rcases hq3 with ⟨hc8, hq3⟩ | ⟨hc8, hq3⟩
       · refine JC.condT (.tmp rfl) hc8 ?_
         refine JC.skip ?_
         refine JQ.then ?_
         refine JC.seq ?_
         refine JC.block ?_
         refine JC.region ?_
         refine jc (op_move lb (.tmp rfl)) ?_
         refine jc (op_move lb (.tmp rfl)) ?_
         refine jc (op_move lb (.tmp rfl)) ?_
         replace hq3 := bnd_inv hq3
         obtain ⟨v_9, hv_v_9, hq3⟩ := hq3
         refine jc (op_indexAddrLg lb tu58 tz23 (.tmp rfl) (.tmp rfl) hv_v_9) ?_
         refine jc (op_loadPSg lb tS23 rfl (.tmp rfl) rfl) ?_
         refine jc (op_lenL lb tu23 (.tmp rfl)) ?_
         refine jc (op_move lb (.tmp rfl)) ?_
         replace hq3 := lt1_inv hq3
         obtain ⟨v_10, hv_v_10, hq3⟩ := hq3
         refine jc (op_arI lb (.tmp rfl) .cI (congrArg some hv_v_10)) ?_
         replace hq3 := lt1_inv hq3
         obtain ⟨v_11, hv_v_11, hq3⟩ := hq3
         refine jc (op_minI lb (.tmp rfl) (.tmp rfl) hv_v_11) ?_
         replace hq3 := lt1_inv hq3
         obtain ⟨v_12, hv_v_12, hq3⟩ := hq3
         refine jc (op_arI lb (.tmp rfl) (.tmp rfl) (congrArg some hv_v_12)) ?_
         refine jc (op_assign lb (.tmp rfl)) ?_
         refine JL.nil ?_
         refine JQ.outNB ?_
         refine JQ.then ?_
         refine JC.region ?_
         refine jc (op_move lb (.tmp rfl)) ?_
         refine JL.sub ⟨[(0, ov (S (rL (rL (rU UInt8))) l_1)), (1, ov (S (rI .i64) most_2)), (5, ov (S (rI .i64) v_12)), (6, ov (S (rI .i64) i_4)), (18, ov (S (rI .i64) i_4))], [], []⟩ (.cons rfl (.cons rfl (.cons rfl (.cons rfl (.cons rfl .nil))))) rfl rfl ?_
         replace hq3 := lt1_inv hq3
         obtain ⟨v_13, hv_v_13, hq3⟩ := hq3
         refine jc (op_arI lb (.tmp rfl) .cI (congrArg some hv_v_13)) ?_
         refine jc (op_assign lb (.tmp rfl)) ?_
         refine JL.nil ?_
         replace hq3 := Option.some.inj hq3
         first | subst hq3 | clear hq3
         exact JQ.next () rfl (Imp.norm (js := []) rfl (.cons rfl (.cons rfl (.cons rfl (.cons rfl .nil)))))
       · refine JC.condF (.tmp rfl) hc8 ?_
         refine JC.exit ?_
         refine JQ.outX ?_
         replace hq3 := Option.some.inj hq3
         first | subst hq3 | clear hq3
         have ht := hr _ rfl
         have hq2 := congrArg some ht
         clear hr ht
         refine JQ.outX ?_
         refine JQ.here ?_
         replace hq2 := Option.some.inj hq2
         first | subst hq2 | clear hq2
         exact JQ.join () (Imp.norm (js := []) rfl (.cons rfl (.cons rfl .nil)))
     · refine JC.region ?_
       refine jc (op_move lb (.tmp rfl)) ?_
       refine jc (op_move lb (.tmp rfl)) ?_
       refine jc (op_lenL lb tu58 (.tmp rfl)) ?_
       replace hx3 := lt1_inv hx3
       obtain ⟨v_5, hv_v_5, hx3⟩ := hx3
       refine jc (op_cmpI lb (.tmp rfl) (.tmp rfl) (congrArg some hv_v_5)) ?_
       refine jc (op_move lb (.tmp rfl)) ?_
       refine JL.cnd (sv := ov (S (rI .i64) n_3)) (Guard.isT (ltB rfl) rfl rfl) rfl (ltB rfl) (fun hq_4 => op_move lb (.tmp rfl)) ?_
       refine JL.cnd (sv := ov (S (rI .i64) most_2)) (Guard.isT (ltB rfl) rfl rfl) rfl (ltB rfl) (fun hq_5 => op_move lb (.tmp rfl)) ?_
       replace hx3 := lt1_inv hx3
       obtain ⟨v_6, hv_v_6, hx3⟩ := hx3
       refine JL.cnd (sv := ov (S rB v_6)) (Guard.isT (ltB rfl) rfl rfl) rfl (ltB rfl) (fun hq_6 => op_cmpI lb (HasO.cnd (.tmp rfl) hq_6) (HasO.cnd (.tmp rfl) hq_6) (congrArg some hv_v_6)) ?_
       replace hx3 := lt1_inv hx3
       obtain ⟨v_7, hv_v_7, hx3⟩ := hx3
       refine jc (op_pickCS lb (.tmp rfl) (fun hb7 => (HasO.cnd (.tmp rfl) hb7)) (fun hb7 => .cB) hv_v_7) ?_
       refine JL.nil ?_
       replace hx3 := Option.some.inj hx3
       first | subst hx3 | clear hx3
       exact JQ.join () (Imp.norm (js := []) rfl (.cons rfl (.cons rfl (.cons rfl (.cons rfl (.cons rfl .nil))))))

theorem sim_wire_Vector (k : Nat) (v_1 : (Vector UInt64 16)) (r : (List UInt8)) (hm : wire_Vector k v_1 = some r) : Sim Try.prog 32 [A (rV 16 (rU UInt64)) v_1] [] (γ := Option Nat × Nat) (fun q => [cown q.1 (rU UInt8) r 0 q.2]) (fun q => .one (.val (HDR q.1 0 (List.length r) q.2))) := by
 unfold wire_Vector at hm
 refine Sim.of Try.func32 rfl rfl (Nat.le_of_ble_eq_true rfl) (fun e0 w0 => ?_)
 refine JC.at ⟨[(0, ov (A (rV 16 (rU UInt64)) v_1))], [], []⟩ ?_
 refine JC.seq ?_
 refine JC.region ?_
 refine jx (op_boxA lb (.tmp rfl)) (fun q => ?_)
 obtain ⟨gb_2, hqq⟩ : ∃ z, z = q := ⟨_, rfl⟩
 subst hqq
 refine jc (op_assign lb HasO.nilH) ?_
 refine JL.nil ?_
 refine JQ.then ?_
 refine JC.seq ?_
 refine JC.region ?_
 refine jc (op_assign lb HasO.nilH) ?_
 refine JL.nil ?_
 refine JQ.then ?_
 replace hm := bnd_inv hm
 obtain ⟨b_17, hx1, hq1⟩ := hm
 refine JC.seqJ (γ := Option Nat × Nat) (stj := fun q => ⟨[(3, ov (HDR q.1 0 (List.length b_17) q.2))], [cown q.1 (rU UInt8) b_17 0 q.2], []⟩) (fun q => ?_) ?_
 · obtain ⟨go_18, gc_19⟩ := q
   refine JC.at ⟨[(3, ov (HDR go_18 0 (List.length b_17) gc_19))], [cown go_18 (rU UInt8) b_17 0 gc_19], []⟩ ?_
   refine JC.seq ?_
   refine JC.region ?_
   refine jc (op_move lb (.tmp rfl)) ?_
   refine jc (op_assign lb (.tmp rfl)) ?_
   refine JL.nil ?_
   refine JQ.then ?_
   refine JC.ret ?_
   replace hq1 := Option.some.inj hq1
   subst hq1
   exact JQ.done (js := [0]) (ss := [.val (HDR go_18 0 (List.length b_17) gc_19)]) (go_18, gc_19) (.inl rfl) (.nil rfl) rfl (.cons (.tmp rfl) .nil) rfl rfl rfl
 · refine JC.seq ?_
   refine JC.region ?_
   refine jc (op_loadA (j := 0) lb tA50 (.tmp rfl) rfl (Comp.self (rV 16 (rU UInt64)) v_1) rfl) ?_
   refine jc (op_move lb .cI) ?_
   refine JL.nil ?_
   refine JQ.then ?_
   refine JC.block ?_
   refine JC.pre (Imp.nilown (rU UInt8)) ?_
   refine JC.pre ?_ (JC.loop (γ := Option Nat × Nat) (stf := fun s q => ⟨[(3, ov (HDR q.1 0 (List.length s.1) q.2)), (8, ov (A (rV 16 (rU UInt64)) v_1)), (9, ov (S (rI .i64) s.2))], [cown q.1 (rU UInt8) s.1 0 q.2], []⟩) (q := (none, 0)) hx1 ?_)
   · exact (Imp.norm (js := [1]) rfl (.cons rfl (.cons rfl (.cons rfl .nil))))
   · intro s q x hx hr
     obtain ⟨b_3, x_4⟩ := s
     obtain ⟨go_5, gc_6⟩ := q
     change wire_Vector.b1 k v_1 b_3 x_4 = some x at hx
     unfold wire_Vector.b1 at hx
     refine JC.at ⟨[(3, ov (HDR go_5 0 (List.length b_3) gc_6)), (8, ov (A (rV 16 (rU UInt64)) v_1)), (9, ov (S (rI .i64) x_4))], [cown go_5 (rU UInt8) b_3 0 gc_6], []⟩ ?_
     refine JC.seq ?_
     refine JC.region ?_
     replace hx := lt1_inv hx
     obtain ⟨v_7, hv_v_7, hx⟩ := hx
     refine jc (op_cmpI lb (.tmp rfl) .cI (congrArg some hv_v_7)) ?_
     refine JL.nil ?_
     refine JQ.then ?_
     refine JC.seq ?_
     replace hx := iteB_inv hx
     rcases hx with ⟨hc3, hx⟩ | ⟨hc3, hx⟩
     · refine JC.condT (.tmp rfl) hc3 ?_
       refine JC.skip ?_
       refine JQ.then ?_
       refine JC.seq ?_
       refine JC.block ?_
       refine JC.seq ?_
       refine JC.region ?_
       replace hx := bnd_inv hx
       obtain ⟨v_8, hv_v_8, hx⟩ := hx
       refine jc (op_indexSg lb tu50 tS22 rfl (.tmp rfl) (.tmp rfl) hv_v_8) ?_
       refine jc (op_assign lb (.tmp rfl)) ?_
       refine JL.nil ?_
       refine JQ.then ?_
       refine JC.seq ?_
       refine JC.region ?_
       refine jc (op_move lb (.tmp rfl)) ?_
       replace hx := bnd_inv hx
       obtain ⟨⟨v_9, v_10⟩, hv_v_9, hx⟩ := hx
       refine jx (op_call (js := []) ld cl10 (sim_wire_Put k v_8 (8 : Int) (v_9, v_10) hv_v_9) .func (.cons (.tmp rfl) (.cons .cI .nil)) rfl) (fun q => ?_)
       obtain ⟨go_11, gc_12⟩ := q
       refine jc (op_move lb (.tmp rfl)) ?_
       refine jc (op_extract (i := 0) lb (.tmp rfl) rfl) ?_
       refine jc (op_extract (i := 1) lb (.tmp rfl) rfl) ?_
       refine jc (op_assign lb (.tmp rfl)) ?_
       refine jc (op_assign lb (.tmp rfl)) ?_
       refine JL.sub ⟨[(3, ov (HDR go_5 0 (List.length b_3) gc_6)), (6, ov (HDR go_11 0 (List.length v_9) gc_12)), (8, ov (A (rV 16 (rU UInt64)) v_1)), (9, ov (S (rI .i64) x_4))], [cown go_11 (rU UInt8) v_9 0 gc_12, cown go_5 (rU UInt8) b_3 0 gc_6], []⟩ (.cons rfl (.cons rfl (.cons rfl (.cons rfl .nil)))) rfl rfl ?_
       refine JL.nil ?_
       refine JQ.then ?_
       refine JC.region ?_
       refine jc (op_move lb (.tmp rfl)) ?_
       refine jc (op_move lb (.tmp rfl)) ?_
       replace hx := bnd_inv hx
       obtain ⟨b_13, hv_b_13, hx⟩ := hx
       refine jx (op_appendO (j := 1) (j' := 0) lb tu23 tu23 rfl tB5 rfl (Nat.lt_of_lt_of_le Nat.zero_lt_one (Nat.le_of_ble_eq_true rfl)) (Nat.lt_of_lt_of_le Nat.zero_lt_one (Nat.le_of_ble_eq_true rfl))  rfl (.tmp rfl) rfl (.tmp rfl) hv_b_13) (fun q => ?_)
       obtain ⟨go_14, gc_15⟩ := q
       refine jc (op_assign lb (.tmp rfl)) ?_
       refine JL.nil ?_
       refine JQ.outNB ?_
       refine JQ.then ?_
       refine JC.region ?_
       replace hx := lt1_inv hx
       obtain ⟨v_16, hv_v_16, hx⟩ := hx
       refine jc (op_arI lb (.tmp rfl) .cI (congrArg some hv_v_16)) ?_
       refine jc (op_move lb (.tmp rfl)) ?_
       refine JL.nil ?_
       replace hx := Option.some.inj hx
       first | subst hx | clear hx
       exact JQ.next (go_14, gc_15) rfl (Imp.norm (js := [1]) rfl (.cons rfl (.cons rfl (.cons rfl .nil))))
     · refine JC.condF (.tmp rfl) hc3 ?_
       refine JC.exit ?_
       refine JQ.outX ?_
       replace hx := Option.some.inj hx
       first | subst hx | clear hx
       have ht := hr _ rfl
       have hq2 := congrArg some ht
       clear hr ht
       refine JQ.outX ?_
       refine JQ.here ?_
       replace hq2 := Option.some.inj hq2
       first | subst hq2 | clear hq2
       exact JQ.join (go_5, gc_6) (Imp.norm (js := [0]) rfl (.cons rfl .nil))

theorem sim_slices_Growbyte_byte (k : Nat) (n_1 : Int) (r : Unit) (hm : slices_Growbyte_byte k n_1 = some r) : Sim Try.prog 53 [HDR none 0 0 0, S (rI .i64) n_1] [] (γ := Option Nat × Nat) (fun q => [cown q.1 (rU UInt8) ([] : (List UInt8)) 0 q.2]) (fun q => .one (.val (HDR q.1 0 (List.length ([] : (List UInt8))) q.2))) := by
 unfold slices_Growbyte_byte at hm
 refine Sim.of Try.func53 rfl rfl (Nat.le_of_ble_eq_true rfl) (fun e0 w0 => ?_)
 refine JC.at ⟨[(0, ov (HDR none 0 0 0)), (1, ov (S (rI .i64) n_1))], [], []⟩ ?_
 refine JC.seq ?_
 refine JC.region ?_
 refine jc (op_assign lb HasO.nilH) ?_
 refine JL.nil ?_
 refine JQ.then ?_
 replace hm := bnd_inv hm
 obtain ⟨_, hx1, hq1⟩ := hm
 refine JC.seqJ (γ := Unit) (stj := fun q => ⟨[(0, ov (HDR none 0 0 0)), (1, ov (S (rI .i64) n_1))], [], []⟩) (fun q => ?_) ?_
 · obtain _ := q
   refine JC.at ⟨[(0, ov (HDR none 0 0 0)), (1, ov (S (rI .i64) n_1))], [], []⟩ ?_
   replace hq1 := bnd_inv hq1
   obtain ⟨_, hx3, hq3⟩ := hq1
   refine JC.seqJ (γ := Option Nat × Nat) (stj := fun q => ⟨[(0, ov (HDR q.1 0 (List.length ([] : (List UInt8))) q.2))], [cown q.1 (rU UInt8) ([] : (List UInt8)) 0 q.2], []⟩) (fun q => ?_) ?_
   · obtain ⟨go_9, gc_10⟩ := q
     refine JC.at ⟨[(0, ov (HDR go_9 0 (List.length ([] : (List UInt8))) gc_10))], [cown go_9 (rU UInt8) ([] : (List UInt8)) 0 gc_10], []⟩ ?_
     refine JC.seq ?_
     refine JC.region ?_
     refine jc (op_move lb (.tmp rfl)) ?_
     refine jc (op_assign lb (.tmp rfl)) ?_
     refine JL.nil ?_
     refine JQ.then ?_
     refine JC.ret ?_
     exact JQ.done (js := [0]) (ss := [.val (HDR go_9 0 (List.length ([] : (List UInt8))) gc_10)]) (go_9, gc_10) (.inl rfl) (.nil rfl) rfl (.cons (.tmp rfl) .nil) rfl rfl rfl
   · refine JC.seq ?_
     refine JC.region ?_
     refine jc (op_move lb (.tmp rfl)) ?_
     refine jc (op_move lb (.tmp rfl)) ?_
     refine jc (op_capH lb tu23 (.tmp rfl)) ?_
     refine jc (op_move lb (.tmp rfl)) ?_
     refine jc (op_lenH lb tu23 (.tmp rfl)) ?_
     replace hx3 := lt1_inv hx3
     obtain ⟨v_3, hv_v_3, hx3⟩ := hx3
     refine jc (op_arI lb (.tmp rfl) (.tmp rfl) (congrArg some hv_v_3)) ?_
     replace hx3 := lt1_inv hx3
     obtain ⟨v_4, hv_v_4, hx3⟩ := hx3
     refine jc (op_arI lb (.tmp rfl) (.tmp rfl) (congrArg some hv_v_4)) ?_
     refine jc (op_assign lb (.tmp rfl)) ?_
     refine JL.nil ?_
     refine JQ.then ?_
     refine JC.seq ?_
     refine JC.region ?_
     refine jc (op_move lb (.tmp rfl)) ?_
     replace hx3 := lt1_inv hx3
     obtain ⟨v_5, hv_v_5, hx3⟩ := hx3
     refine jc (op_cmpI lb (.tmp rfl) .cI (congrArg some hv_v_5)) ?_
     refine JL.nil ?_
     refine JQ.then ?_
     replace hx3 := iteB_inv hx3
     rcases hx3 with ⟨hc4, hx3⟩ | ⟨hc4, hx3⟩
     · refine JC.condT (.tmp rfl) hc4 ?_
       refine JC.region ?_
       refine jc (op_move lb (.tmp rfl)) ?_
       refine jc (op_move lb (.tmp rfl)) ?_
       refine JL.sub ⟨[(0, ov (HDR none 0 0 0)), (1, ov (S (rI .i64) v_4)), (17, ov (HDR none 0 0 0)), (18, ov (HDR none 0 0 0))], [], []⟩ (.cons rfl (.cons rfl (.cons rfl (.cons rfl .nil)))) rfl rfl ?_
       refine jc (op_capH lb tu23 (.tmp rfl)) ?_
       refine jc (op_sliceNil lb tu23 tz5 (.tmp rfl) (.tmp rfl)) ?_
       refine jc (op_move lb (.tmp rfl)) ?_
       replace hx3 := bnd_inv hx3
       obtain ⟨v_6, hv_v_6, hx3⟩ := hx3
       refine JL.pre (Imp.nilown (rU UInt8)) ?_
       refine jx (op_appendZ (j := 0) lb tu23 tu3 tB5 zv5 rfl (Nat.lt_of_lt_of_le Nat.zero_lt_one (Nat.le_of_ble_eq_true rfl)) (Nat.lt_of_lt_of_le Nat.zero_lt_one (Nat.le_of_ble_eq_true rfl)) rfl (.tmp rfl) (.tmp rfl) hv_v_6) (fun q => ?_)
       obtain ⟨go_7, gc_8⟩ := q
       refine JL.sub ⟨[(0, ov (HDR none 0 0 0)), (22, ov (HDR go_7 0 (List.length v_6) gc_8))], [cown go_7 (rU UInt8) v_6 0 gc_8], []⟩ (.cons rfl (.cons rfl .nil)) rfl rfl ?_
       refine jc (op_move lb (.tmp rfl)) ?_
       refine jc (op_lenH lb tu23 (.tmp rfl)) ?_
       refine jc (op_slicePre (j := 0) lb tu23 tz5 rfl (.tmp rfl) (.tmp rfl)) ?_
       refine jc (op_assign lb (.tmp rfl)) ?_
       refine JL.nil ?_
       exact JQ.join (go_7, gc_8) (Imp.norm (js := [0]) rfl (.cons rfl .nil))
     · refine JC.condF (.tmp rfl) hc4 ?_
       refine JC.skip ?_
       refine JQ.pre (Imp.nilown (rU UInt8)) ?_
       exact JQ.join (none, 0) (Imp.norm (js := [0]) rfl (.cons rfl .nil))
 · refine JC.seq ?_
   refine JC.region ?_
   refine jc (op_move lb (.tmp rfl)) ?_
   replace hx1 := lt1_inv hx1
   obtain ⟨v_2, hv_v_2, hx1⟩ := hx1
   refine jc (op_cmpI lb (.tmp rfl) .cI (congrArg some hv_v_2)) ?_
   refine JL.nil ?_
   refine JQ.then ?_
   replace hx1 := iteB_inv hx1
   rcases hx1 with ⟨hc2, hx1⟩ | ⟨hc2, hx1⟩
   · refine JC.condT (.tmp rfl) hc2 ?_
     refine JC.region ?_
     cases hx1
   · refine JC.condF (.tmp rfl) hc2 ?_
     refine JC.skip ?_
     exact JQ.join () (Imp.norm (js := []) rfl (.cons rfl (.cons rfl .nil)))

theorem sim_slices_Concatbyte_byte (k : Nat) (slices_1 : (List (List UInt8))) (r : (List UInt8)) (hm : slices_Concatbyte_byte k slices_1 = some r) : Sim Try.prog 49 [S (rL (rL (rU UInt8))) slices_1] [] (γ := Option Nat × Nat) (fun q => [cown q.1 (rU UInt8) r 0 q.2]) (fun q => .one (.val (HDR q.1 0 (List.length r) q.2))) := by
 unfold slices_Concatbyte_byte at hm
 refine Sim.of Try.func49 rfl rfl (Nat.le_of_ble_eq_true rfl) (fun e0 w0 => ?_)
 refine JC.at ⟨[(0, ov (S (rL (rL (rU UInt8))) slices_1))], [], []⟩ ?_
 refine JC.seq ?_
 refine JC.region ?_
 refine jc (op_assign lb HasO.nilH) ?_
 refine JL.nil ?_
 refine JQ.then ?_
 refine JC.seq ?_
 refine JC.region ?_
 refine jc (op_assign lb .cI) ?_
 refine JL.nil ?_
 refine JQ.then ?_
 replace hm := bnd_inv hm
 obtain ⟨size_10, hx1, hq1⟩ := hm
 refine JC.seqJ (γ := Unit) (stj := fun q => ⟨[(0, ov (S (rL (rL (rU UInt8))) slices_1)), (3, ov (S (rI .i64) size_10))], [], []⟩) (fun q => ?_) ?_
 · obtain _ := q
   refine JC.at ⟨[(0, ov (S (rL (rL (rU UInt8))) slices_1)), (3, ov (S (rI .i64) size_10))], [], []⟩ ?_
   refine JC.seq ?_
   refine JC.region ?_
   refine jc (op_move lb (.tmp rfl)) ?_
   replace hq1 := bnd_inv hq1
   obtain ⟨_, hv_u_13, hq1⟩ := hq1
   refine jx (op_call (js := []) ld cl53 (sim_slices_Growbyte_byte k size_10 () hv_u_13) .func (.cons HasO.nilH (.cons (.tmp rfl) .nil)) rfl) (fun q => ?_)
   obtain ⟨go_11, gc_12⟩ := q
   refine jc (op_assign lb (.tmp rfl)) ?_
   refine JL.nil ?_
   refine JQ.then ?_
   replace hq1 := bnd_inv hq1
   obtain ⟨newslice_24, hx6, hq6⟩ := hq1
   refine JC.seqJ (γ := Option Nat × Nat) (stj := fun q => ⟨[(6, ov (HDR q.1 0 (List.length newslice_24) q.2))], [cown q.1 (rU UInt8) newslice_24 0 q.2], []⟩) (fun q => ?_) ?_
   · obtain ⟨go_25, gc_26⟩ := q
     refine JC.at ⟨[(6, ov (HDR go_25 0 (List.length newslice_24) gc_26))], [cown go_25 (rU UInt8) newslice_24 0 gc_26], []⟩ ?_
     refine JC.seq ?_
     refine JC.region ?_
     refine jc (op_move lb (.tmp rfl)) ?_
     refine jc (op_assign lb (.tmp rfl)) ?_
     refine JL.nil ?_
     refine JQ.then ?_
     refine JC.ret ?_
     replace hq6 := Option.some.inj hq6
     subst hq6
     exact JQ.done (js := [0]) (ss := [.val (HDR go_25 0 (List.length newslice_24) gc_26)]) (go_25, gc_26) (.inl rfl) (.nil rfl) rfl (.cons (.tmp rfl) .nil) rfl rfl rfl
   · refine JC.seq ?_
     refine JC.region ?_
     refine jc (op_move lb (.tmp rfl)) ?_
     refine jc (op_lenL lb tu58 (.tmp rfl)) ?_
     refine jc (op_move lb .cI) ?_
     refine JL.nil ?_
     refine JQ.then ?_
     refine JC.block ?_
     refine JC.pre ?_ (JC.loop (γ := Option Nat × Nat) (stf := fun s q => ⟨[(6, ov (HDR q.1 0 (List.length s.1) q.2)), (25, ov (S (rL (rL (rU UInt8))) slices_1)), (26, ov (S (rI .i64) (List.length slices_1 : Int))), (27, ov (S (rI .i64) s.2))], [cown q.1 (rU UInt8) s.1 0 q.2], []⟩) (q := (go_11, gc_12)) hx6 ?_)
     · exact (Imp.norm (js := [0]) rfl (.cons rfl (.cons rfl (.cons rfl (.cons rfl .nil)))))
     · intro s q x hx hr
       obtain ⟨newslice_14, x_15⟩ := s
       obtain ⟨go_16, gc_17⟩ := q
       change slices_Concatbyte_byte.b2 k slices_1 newslice_14 x_15 = some x at hx
       unfold slices_Concatbyte_byte.b2 at hx
       refine JC.at ⟨[(6, ov (HDR go_16 0 (List.length newslice_14) gc_17)), (25, ov (S (rL (rL (rU UInt8))) slices_1)), (26, ov (S (rI .i64) (List.length slices_1 : Int))), (27, ov (S (rI .i64) x_15))], [cown go_16 (rU UInt8) newslice_14 0 gc_17], []⟩ ?_
       refine JC.seq ?_
       refine JC.region ?_
       replace hx := lt1_inv hx
       obtain ⟨v_18, hv_v_18, hx⟩ := hx
       refine jc (op_cmpI lb (.tmp rfl) (.tmp rfl) (congrArg some hv_v_18)) ?_
       refine JL.nil ?_
       refine JQ.then ?_
       refine JC.seq ?_
       replace hx := iteB_inv hx
       rcases hx with ⟨hc8, hx⟩ | ⟨hc8, hx⟩
       · refine JC.condT (.tmp rfl) hc8 ?_
         refine JC.skip ?_
         refine JQ.then ?_
         refine JC.seq ?_
         refine JC.block ?_
         refine JC.seq ?_
         refine JC.region ?_
         replace hx := bnd_inv hx
         obtain ⟨v_19, hv_v_19, hx⟩ := hx
         refine jc (op_indexAddrLg lb tu58 tz23 (.tmp rfl) (.tmp rfl) hv_v_19) ?_
         refine jc (op_loadPSg lb tS23 rfl (.tmp rfl) rfl) ?_
         refine jc (op_assign lb (.tmp rfl)) ?_
         refine JL.nil ?_
         refine JQ.then ?_
         refine JC.region ?_
         refine jc (op_move lb (.tmp rfl)) ?_
         refine jc (op_move lb (.tmp rfl)) ?_
         replace hx := bnd_inv hx
         obtain ⟨newslice_20, hv_newslice_20, hx⟩ := hx
         refine jx (op_appendL (j := 0) lb tu23 tu23 rfl tB5 rfl (Nat.lt_of_lt_of_le Nat.zero_lt_one (Nat.le_of_ble_eq_true rfl)) (Nat.lt_of_lt_of_le Nat.zero_lt_one (Nat.le_of_ble_eq_true rfl))  rfl (.tmp rfl) (.tmp rfl) hv_newslice_20) (fun q => ?_)
         obtain ⟨go_21, gc_22⟩ := q
         refine jc (op_assign lb (.tmp rfl)) ?_
         refine JL.nil ?_
         refine JQ.outNB ?_
         refine JQ.then ?_
         refine JC.region ?_
         replace hx := lt1_inv hx
         obtain ⟨v_23, hv_v_23, hx⟩ := hx
         refine jc (op_arI lb (.tmp rfl) .cI (congrArg some hv_v_23)) ?_
         refine jc (op_move lb (.tmp rfl)) ?_
         refine JL.sub ⟨[(6, ov (HDR go_21 0 (List.length newslice_20) gc_22)), (25, ov (S (rL (rL (rU UInt8))) slices_1)), (26, ov (S (rI .i64) (List.length slices_1 : Int))), (27, ov (S (rI .i64) v_23))], [cown go_21 (rU UInt8) newslice_20 0 gc_22], []⟩ (.cons rfl (.cons rfl (.cons rfl (.cons rfl .nil)))) rfl rfl ?_
         refine JL.nil ?_
         replace hx := Option.some.inj hx
         first | subst hx | clear hx
         exact JQ.next (go_21, gc_22) rfl (Imp.norm (js := [0]) rfl (.cons rfl (.cons rfl (.cons rfl (.cons rfl .nil)))))
       · refine JC.condF (.tmp rfl) hc8 ?_
         refine JC.exit ?_
         refine JQ.outX ?_
         replace hx := Option.some.inj hx
         first | subst hx | clear hx
         have ht := hr _ rfl
         have hq7 := congrArg some ht
         clear hr ht
         refine JQ.outX ?_
         refine JQ.here ?_
         replace hq7 := Option.some.inj hq7
         first | subst hq7 | clear hq7
         exact JQ.join (go_16, gc_17) (Imp.norm (js := [0]) rfl (.cons rfl .nil))
 · refine JC.seq ?_
   refine JC.region ?_
   refine jc (op_move lb (.tmp rfl)) ?_
   refine jc (op_lenL lb tu58 (.tmp rfl)) ?_
   refine jc (op_move lb .cI) ?_
   refine JL.nil ?_
   refine JQ.then ?_
   refine JC.block ?_
   refine JC.pre ?_ (JC.loop (γ := Unit) (stf := fun s q => ⟨[(0, ov (S (rL (rL (rU UInt8))) slices_1)), (3, ov (S (rI .i64) s.1)), (9, ov (S (rL (rL (rU UInt8))) slices_1)), (10, ov (S (rI .i64) (List.length slices_1 : Int))), (11, ov (S (rI .i64) s.2))], [], []⟩) (q := ()) hx1 ?_)
   · exact (Imp.norm (js := []) rfl (.cons rfl (.cons rfl (.cons rfl (.cons rfl (.cons rfl .nil))))))
   · intro s q x hx hr
     obtain ⟨size_2, x_3⟩ := s
     obtain _ := q
     change slices_Concatbyte_byte.b1 k slices_1 size_2 x_3 = some x at hx
     unfold slices_Concatbyte_byte.b1 at hx
     refine JC.at ⟨[(0, ov (S (rL (rL (rU UInt8))) slices_1)), (3, ov (S (rI .i64) size_2)), (9, ov (S (rL (rL (rU UInt8))) slices_1)), (10, ov (S (rI .i64) (List.length slices_1 : Int))), (11, ov (S (rI .i64) x_3))], [], []⟩ ?_
     refine JC.seq ?_
     refine JC.region ?_
     replace hx := lt1_inv hx
     obtain ⟨v_4, hv_v_4, hx⟩ := hx
     refine jc (op_cmpI lb (.tmp rfl) (.tmp rfl) (congrArg some hv_v_4)) ?_
     refine JL.nil ?_
     refine JQ.then ?_
     refine JC.seq ?_
     replace hx := iteB_inv hx
     rcases hx with ⟨hc3, hx⟩ | ⟨hc3, hx⟩
     · refine JC.condT (.tmp rfl) hc3 ?_
       refine JC.skip ?_
       refine JQ.then ?_
       replace hx := bnd_inv hx
       obtain ⟨size_8, hx4, hq4⟩ := hx
       refine JC.seqJ (γ := Unit) (stj := fun q => ⟨[(0, ov (S (rL (rL (rU UInt8))) slices_1)), (3, ov (S (rI .i64) size_8)), (9, ov (S (rL (rL (rU UInt8))) slices_1)), (10, ov (S (rI .i64) (List.length slices_1 : Int))), (11, ov (S (rI .i64) x_3))], [], []⟩) (fun q => ?_) ?_
       · obtain _ := q
         refine JC.at ⟨[(0, ov (S (rL (rL (rU UInt8))) slices_1)), (3, ov (S (rI .i64) size_8)), (9, ov (S (rL (rL (rU UInt8))) slices_1)), (10, ov (S (rI .i64) (List.length slices_1 : Int))), (11, ov (S (rI .i64) x_3))], [], []⟩ ?_
         refine JC.region ?_
         replace hq4 := lt1_inv hq4
         obtain ⟨v_9, hv_v_9, hq4⟩ := hq4
         refine jc (op_arI lb (.tmp rfl) .cI (congrArg some hv_v_9)) ?_
         refine jc (op_move lb (.tmp rfl)) ?_
         refine JL.nil ?_
         replace hq4 := Option.some.inj hq4
         first | subst hq4 | clear hq4
         exact JQ.next () rfl (Imp.norm (js := []) rfl (.cons rfl (.cons rfl (.cons rfl (.cons rfl (.cons rfl .nil))))))
       · refine JC.block ?_
         refine JC.seq ?_
         refine JC.region ?_
         replace hx4 := bnd_inv hx4
         obtain ⟨v_5, hv_v_5, hx4⟩ := hx4
         refine jc (op_indexAddrLg lb tu58 tz23 (.tmp rfl) (.tmp rfl) hv_v_5) ?_
         refine jc (op_loadPSg lb tS23 rfl (.tmp rfl) rfl) ?_
         refine jc (op_assign lb (.tmp rfl)) ?_
         refine JL.nil ?_
         refine JQ.then ?_
         refine JC.seq ?_
         refine JC.region ?_
         refine jc (op_move lb (.tmp rfl)) ?_
         refine jc (op_move lb (.tmp rfl)) ?_
         refine jc (op_lenL lb tu23 (.tmp rfl)) ?_
         replace hx4 := lt1_inv hx4
         obtain ⟨v_6, hv_v_6, hx4⟩ := hx4
         refine jc (op_arI lb (.tmp rfl) (.tmp rfl) (congrArg some hv_v_6)) ?_
         refine jc (op_assign lb (.tmp rfl)) ?_
         refine JL.nil ?_
         refine JQ.then ?_
         refine JC.seq ?_
         refine JC.region ?_
         refine jc (op_move lb (.tmp rfl)) ?_
         replace hx4 := lt1_inv hx4
         obtain ⟨v_7, hv_v_7, hx4⟩ := hx4
         refine jc (op_cmpI lb (.tmp rfl) .cI (congrArg some hv_v_7)) ?_
         refine JL.nil ?_
         refine JQ.then ?_
         replace hx4 := iteB_inv hx4
         rcases hx4 with ⟨hc5, hx4⟩ | ⟨hc5, hx4⟩
         · refine JC.condT (.tmp rfl) hc5 ?_
           refine JC.region ?_
           cases hx4
         · refine JC.condF (.tmp rfl) hc5 ?_
           refine JC.skip ?_
           refine JQ.outNB ?_
           replace hx4 := Option.some.inj hx4
           first | subst hx4 | clear hx4
           exact JQ.join () (Imp.norm (js := []) rfl (.cons rfl (.cons rfl (.cons rfl (.cons rfl (.cons rfl .nil))))))
     · refine JC.condF (.tmp rfl) hc3 ?_
       refine JC.exit ?_
       refine JQ.outX ?_
       replace hx := Option.some.inj hx
       first | subst hx | clear hx
       have ht := hr _ rfl
       have hq2 := congrArg some ht
       clear hr ht
       refine JQ.outX ?_
       refine JQ.here ?_
       replace hq2 := Option.some.inj hq2
       first | subst hq2 | clear hq2
       exact JQ.join () (Imp.norm (js := []) rfl (.cons rfl (.cons rfl .nil)))

theorem sim_wire_Join (k : Nat) (l_1 : (List (List UInt8))) (r : (List UInt8)) (hm : wire_Join k l_1 = some r) : Sim Try.prog 33 [S (rL (rL (rU UInt8))) l_1] [] (γ := Option Nat × Nat) (fun q => [cown q.1 (rU UInt8) r 0 q.2]) (fun q => .one (.val (HDR q.1 0 (List.length r) q.2))) := by
 unfold wire_Join at hm
 refine Sim.of Try.func33 rfl rfl (Nat.le_of_ble_eq_true rfl) (fun e0 w0 => ?_)
 refine JC.at ⟨[(0, ov (S (rL (rL (rU UInt8))) l_1))], [], []⟩ ?_
 refine JC.seq ?_
 refine JC.region ?_
 refine jc (op_assign lb HasO.nilH) ?_
 refine JL.nil ?_
 refine JQ.then ?_
 refine JC.seq ?_
 refine JC.region ?_
 refine jc (op_move lb (.tmp rfl)) ?_
 replace hm := bnd_inv hm
 obtain ⟨v_2, hv_v_2, hm⟩ := hm
 refine jx (op_call (js := []) ld cl49 (sim_slices_Concatbyte_byte k l_1 v_2 hv_v_2) .func (.cons (.tmp rfl) .nil) rfl) (fun q => ?_)
 obtain ⟨go_3, gc_4⟩ := q
 refine jc (op_assign lb (.tmp rfl)) ?_
 refine JL.nil ?_
 refine JQ.then ?_
 refine JC.ret ?_
 replace hm := Option.some.inj hm
 subst hm
 exact JQ.done (js := [0]) (ss := [.val (HDR go_3 0 (List.length v_2) gc_4)]) (go_3, gc_4) (.inl rfl) (.nil rfl) rfl (.cons (.tmp rfl) .nil) rfl rfl rfl

theorem sim_ref01_Join (k : Nat) (l_1 : (List (List UInt8))) (r : (List UInt8)) (hm : ref01_Join k l_1 = some r) : Sim Try.prog 34 [S (rL (rL (rU UInt8))) l_1] [] (γ := Option Nat × Nat) (fun q => [cown q.1 (rU UInt8) r 0 q.2]) (fun q => .one (.val (HDR q.1 0 (List.length r) q.2))) := by
 unfold ref01_Join at hm
 refine Sim.of Try.func34 rfl rfl (Nat.le_of_ble_eq_true rfl) (fun e0 w0 => ?_)
 refine JC.at ⟨[(0, ov (S (rL (rL (rU UInt8))) l_1))], [], []⟩ ?_
 refine JC.seq ?_
 refine JC.region ?_
 refine jc (op_assign lb HasO.nilH) ?_
 refine JL.nil ?_
 refine JQ.then ?_
 refine JC.seq ?_
 refine JC.region ?_
 refine jc (op_assign lb HasO.nilH) ?_
 refine JL.nil ?_
 refine JQ.then ?_
 replace hm := bnd_inv hm
 obtain ⟨o_12, hx1, hq1⟩ := hm
 refine JC.seqJ (γ := Option Nat × Nat) (stj := fun q => ⟨[(3, ov (HDR q.1 0 (List.length o_12) q.2))], [cown q.1 (rU UInt8) o_12 0 q.2], []⟩) (fun q => ?_) ?_
 · obtain ⟨go_13, gc_14⟩ := q
   refine JC.at ⟨[(3, ov (HDR go_13 0 (List.length o_12) gc_14))], [cown go_13 (rU UInt8) o_12 0 gc_14], []⟩ ?_
   refine JC.seq ?_
   refine JC.region ?_
   refine jc (op_move lb (.tmp rfl)) ?_
   refine jc (op_assign lb (.tmp rfl)) ?_
   refine JL.nil ?_
   refine JQ.then ?_
   refine JC.ret ?_
   replace hq1 := Option.some.inj hq1
   subst hq1
   exact JQ.done (js := [0]) (ss := [.val (HDR go_13 0 (List.length o_12) gc_14)]) (go_13, gc_14) (.inl rfl) (.nil rfl) rfl (.cons (.tmp rfl) .nil) rfl rfl rfl
 · refine JC.seq ?_
   refine JC.region ?_
   refine jc (op_assign lb .cI) ?_
   refine JL.nil ?_
   refine JQ.then ?_
   refine JC.block ?_
   refine JC.pre (Imp.nilown (rU UInt8)) ?_
   refine JC.pre ?_ (JC.loop (γ := Option Nat × Nat) (stf := fun s q => ⟨[(0, ov (S (rL (rL (rU UInt8))) l_1)), (3, ov (HDR q.1 0 (List.length s.1) q.2)), (4, ov (S (rI .i64) s.2))], [cown q.1 (rU UInt8) s.1 0 q.2], []⟩) (q := (none, 0)) hx1 ?_)
   · exact (Imp.norm (js := [0]) rfl (.cons rfl (.cons rfl (.cons rfl .nil))))
   · intro s q x hx hr
     obtain ⟨o_2, i_3⟩ := s
     obtain ⟨go_4, gc_5⟩ := q
     change ref01_Join.b1 k l_1 o_2 i_3 = some x at hx
     unfold ref01_Join.b1 at hx
     refine JC.at ⟨[(0, ov (S (rL (rL (rU UInt8))) l_1)), (3, ov (HDR go_4 0 (List.length o_2) gc_5)), (4, ov (S (rI .i64) i_3))], [cown go_4 (rU UInt8) o_2 0 gc_5], []⟩ ?_
     refine JC.seq ?_
     refine JC.seq ?_
     refine JC.region ?_
     refine jc (op_move lb (.tmp rfl)) ?_
     refine jc (op_move lb (.tmp rfl)) ?_
     refine jc (op_lenL lb tu58 (.tmp rfl)) ?_
     replace hx := lt1_inv hx
     obtain ⟨v_6, hv_v_6, hx⟩ := hx
     refine jc (op_cmpI lb (.tmp rfl) (.tmp rfl) (congrArg some hv_v_6)) ?_
     refine JL.nil ?_
     refine JQ.then ?_
     replace hx := iteB_inv hx
     rcases hx with ⟨hc3, hx⟩ | ⟨hc3, hx⟩
     · refine JC.condT (.tmp rfl) hc3 ?_
       refine JC.skip ?_
       refine JQ.then ?_
       refine JC.seq ?_
       refine JC.block ?_
       refine JC.region ?_
       refine jc (op_move lb (.tmp rfl)) ?_
       refine jc (op_move lb (.tmp rfl)) ?_
       refine jc (op_move lb (.tmp rfl)) ?_
       replace hx := bnd_inv hx
       obtain ⟨v_7, hv_v_7, hx⟩ := hx
       refine jc (op_indexAddrLg lb tu58 tz23 (.tmp rfl) (.tmp rfl) hv_v_7) ?_
       refine jc (op_loadPSg lb tS23 rfl (.tmp rfl) rfl) ?_
       replace hx := bnd_inv hx
       obtain ⟨o_8, hv_o_8, hx⟩ := hx
       refine jx (op_appendL (j := 0) lb tu23 tu23 rfl tB5 rfl (Nat.lt_of_lt_of_le Nat.zero_lt_one (Nat.le_of_ble_eq_true rfl)) (Nat.lt_of_lt_of_le Nat.zero_lt_one (Nat.le_of_ble_eq_true rfl))  rfl (.tmp rfl) (.tmp rfl) hv_o_8) (fun q => ?_)
       obtain ⟨go_9, gc_10⟩ := q
       refine JL.sub ⟨[(0, ov (S (rL (rL (rU UInt8))) l_1)), (4, ov (S (rI .i64) i_3)), (16, ov (HDR go_9 0 (List.length o_8) gc_10))], [cown go_9 (rU UInt8) o_8 0 gc_10], []⟩ (.cons rfl (.cons rfl (.cons rfl .nil))) rfl rfl ?_
       refine jc (op_assign lb (.tmp rfl)) ?_
       refine JL.nil ?_
       refine JQ.outNB ?_
       refine JQ.then ?_
       refine JC.region ?_
       refine jc (op_move lb (.tmp rfl)) ?_
       replace hx := lt1_inv hx
       obtain ⟨v_11, hv_v_11, hx⟩ := hx
       refine jc (op_arI lb (.tmp rfl) .cI (congrArg some hv_v_11)) ?_
       refine jc (op_assign lb (.tmp rfl)) ?_
       refine JL.nil ?_
       replace hx := Option.some.inj hx
       first | subst hx | clear hx
       exact JQ.next (go_9, gc_10) rfl (Imp.norm (js := [0]) rfl (.cons rfl (.cons rfl (.cons rfl .nil))))
     · refine JC.condF (.tmp rfl) hc3 ?_
       refine JC.exit ?_
       refine JQ.outX ?_
       replace hx := Option.some.inj hx
       first | subst hx | clear hx
       have ht := hr _ rfl
       have hq2 := congrArg some ht
       clear hr ht
       refine JQ.outX ?_
       refine JQ.here ?_
       replace hq2 := Option.some.inj hq2
       first | subst hq2 | clear hq2
       exact JQ.join (go_4, gc_5) (Imp.norm (js := [0]) rfl (.cons rfl .nil))

end Go.Proofs.Ytkbkdfcakpbojaa
