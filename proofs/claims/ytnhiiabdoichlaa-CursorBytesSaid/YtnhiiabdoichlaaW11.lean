/- Walks. -/
import Derived.Test.YtnhiiabdoichlaaT
import Derived.Test.YtnhiiabdoichlaaW1
import Derived.Test.YtnhiiabdoichlaaW10
namespace Go.Proofs.Ytnhiiabdoichlaa
open Go Fw
set_option linter.unusedVariables false
set_option maxRecDepth 100000
set_option maxHeartbeats 4000000

theorem sim_ref01_Vector (k : Nat) (v_1 : (Vector UInt64 16)) (r : (List UInt8)) (hm : ref01_Vector k v_1 = some r) : Sim Try.prog 26 [A (rV 16 (rU UInt64)) v_1] [] (γ := Option Nat × Nat) (fun q => [cown q.1 (rU UInt8) r 0 q.2]) (fun q => .one (.val (HDR q.1 0 (List.length r) q.2))) := by
 unfold ref01_Vector at hm
 refine Sim.of Try.func26 rfl rfl (Nat.le_of_ble_eq_true rfl) (fun e0 w0 => ?_)
 refine JC.at ⟨[(0, ov (A (rV 16 (rU UInt64)) v_1))], [], []⟩ ?_
 refine JC.seq ?_
 refine JC.region ?_
 refine jx (op_boxA lb (.tmp rfl)) (fun q => ?_)
 obtain ⟨gb_2, hqq⟩ : ∃ z, z = q := ⟨_, rfl⟩
 subst hqq
 refine jc (op_assign lb HasO.nilH) ?_
 refine JL.nil ?_
 refine JQ.then ?_
 refine JC.seq ?_
 refine JC.region ?_
 refine jc (op_assign lb HasO.nilH) ?_
 refine JL.nil ?_
 refine JQ.then ?_
 replace hm := bnd_inv hm
 obtain ⟨b_16, hx1, hq1⟩ := hm
 refine JC.seqJ (γ := Option Nat × Nat) (stj := fun q => ⟨[(3, ov (HDR q.1 0 (List.length b_16) q.2))], [cown q.1 (rU UInt8) b_16 0 q.2], []⟩) (fun q => ?_) ?_
 · obtain ⟨go_17, gc_18⟩ := q
   refine JC.at ⟨[(3, ov (HDR go_17 0 (List.length b_16) gc_18))], [cown go_17 (rU UInt8) b_16 0 gc_18], []⟩ ?_
   refine JC.seq ?_
   refine JC.region ?_
   refine jc (op_move lb (.tmp rfl)) ?_
   refine jc (op_assign lb (.tmp rfl)) ?_
   refine JL.nil ?_
   refine JQ.then ?_
   refine JC.ret ?_
   replace hq1 := Option.some.inj hq1
   subst hq1
   exact JQ.done (js := [0]) (ss := [.val (HDR go_17 0 (List.length b_16) gc_18)]) (go_17, gc_18) (.inl rfl) (.nil rfl) rfl (.cons (.tmp rfl) .nil) rfl rfl rfl
 · refine JC.seq ?_
   refine JC.region ?_
   refine jc (op_assign lb .cI) ?_
   refine JL.nil ?_
   refine JQ.then ?_
   refine JC.block ?_
   refine JC.pre (Imp.nilown (rU UInt8)) ?_
   refine JC.pre ?_ (JC.loop (γ := Option Nat × Nat) (stf := fun s q => ⟨[(1, ov (PTR gb_2 0)), (3, ov (HDR q.1 0 (List.length s.1) q.2)), (4, ov (S (rI .i64) s.2))], [cvar gb_2 (rV 16 (rU UInt64)) v_1, cown q.1 (rU UInt8) s.1 0 q.2], []⟩) (q := (none, 0)) hx1 ?_)
   · exact (Imp.norm (js := [0, 0]) rfl (.cons rfl (.cons rfl (.cons rfl .nil))))
   · intro s q x hx hr
     obtain ⟨b_3, i_4⟩ := s
     obtain ⟨go_5, gc_6⟩ := q
     change ref01_Vector.b1 k v_1 b_3 i_4 = some x at hx
     unfold ref01_Vector.b1 at hx
     refine JC.at ⟨[(1, ov (PTR gb_2 0)), (3, ov (HDR go_5 0 (List.length b_3) gc_6)), (4, ov (S (rI .i64) i_4))], [cvar gb_2 (rV 16 (rU UInt64)) v_1, cown go_5 (rU UInt8) b_3 0 gc_6], []⟩ ?_
     refine JC.seq ?_
     refine JC.seq ?_
     refine JC.region ?_
     refine jc (op_move lb (.tmp rfl)) ?_
     replace hx := lt1_inv hx
     obtain ⟨v_7, hv_v_7, hx⟩ := hx
     refine jc (op_cmpI lb (.tmp rfl) .cI (congrArg some hv_v_7)) ?_
     refine JL.nil ?_
     refine JQ.then ?_
     replace hx := iteB_inv hx
     rcases hx with ⟨hc3, hx⟩ | ⟨hc3, hx⟩
     · refine JC.condT (.tmp rfl) hc3 ?_
       refine JC.skip ?_
       refine JQ.then ?_
       refine JC.seq ?_
       refine JC.block ?_
       refine JC.region ?_
       refine jc (op_move lb (.tmp rfl)) ?_
       refine jc (op_move lb (.tmp rfl)) ?_
       replace hx := bnd_inv hx
       obtain ⟨i_8, hv_i_8, hx⟩ := hx
       refine jc (op_indexAddrIF lb tr25 (.tmp rfl) (.tmp rfl) hv_i_8) ?_
       replace hx := lt1_inv hx
       obtain ⟨v_9, hv_v_9, hx⟩ := hx
       refine jc (op_loadS (j := 0) lb tS23 (.tmp rfl) rfl (Comp.at (Comp.self (rV 16 (rU UInt64)) v_1) i_8.2 rfl) rfl hv_v_9) ?_
       replace hx := bnd_inv hx
       obtain ⟨v_10, hv_v_10, hx⟩ := hx
       refine jx (op_call (js := []) ld cl37 (sim_ref01_Put k v_9 (8 : Int) v_10 hv_v_10) .func (.cons (.tmp rfl) (.cons .cI .nil)) rfl) (fun q => ?_)
       obtain ⟨go_11, hqq⟩ : ∃ z, z = q := ⟨_, rfl⟩
       subst hqq
       replace hx := bnd_inv hx
       obtain ⟨b_12, hv_b_12, hx⟩ := hx
       refine jx (op_appendO (j := 2) (j' := 0) lb tu22 tu22 rfl tB5 rfl (Nat.lt_of_lt_of_le Nat.zero_lt_one (Nat.le_of_ble_eq_true rfl)) (Nat.lt_of_lt_of_le Nat.zero_lt_one (Nat.le_of_ble_eq_true rfl))  rfl (.tmp rfl) rfl (.tmp rfl) hv_b_12) (fun q => ?_)
       obtain ⟨go_13, gc_14⟩ := q
       refine JL.nrm ⟨[(1, ov (PTR gb_2 0)), (4, ov (S (rI .i64) i_4)), (14, ov (HDR go_13 0 (List.length b_12) gc_14))], [cvar gb_2 (rV 16 (rU UInt64)) v_1, cown go_13 (rU UInt8) b_12 0 gc_14], []⟩ [1, 1] rfl rfl rfl ?_
       refine jc (op_assign lb (.tmp rfl)) ?_
       refine JL.nil ?_
       refine JQ.outNB ?_
       refine JQ.then ?_
       refine JC.region ?_
       refine jc (op_move lb (.tmp rfl)) ?_
       replace hx := lt1_inv hx
       obtain ⟨v_15, hv_v_15, hx⟩ := hx
       refine jc (op_arI lb (.tmp rfl) .cI (congrArg some hv_v_15)) ?_
       refine jc (op_assign lb (.tmp rfl)) ?_
       refine JL.nil ?_
       replace hx := Option.some.inj hx
       first | subst hx | clear hx
       exact JQ.next (go_13, gc_14) rfl (Imp.norm (js := [0, 0]) rfl (.cons rfl (.cons rfl (.cons rfl .nil))))
     · refine JC.condF (.tmp rfl) hc3 ?_
       refine JC.exit ?_
       refine JQ.outX ?_
       replace hx := Option.some.inj hx
       first | subst hx | clear hx
       have ht := hr _ rfl
       have hq2 := congrArg some ht
       clear hr ht
       refine JQ.outX ?_
       refine JQ.here ?_
       replace hq2 := Option.some.inj hq2
       first | subst hq2 | clear hq2
       exact JQ.join (go_5, gc_6) (Imp.norm (js := [1]) rfl (.cons rfl .nil))

theorem sim_ref01_Blob (k : Nat) (b_1 : (List UInt8)) (r : (List UInt8)) (hm : ref01_Blob k b_1 = some r) : Sim Try.prog 28 [S (rL (rU UInt8)) b_1] [] (γ := Option Nat × Nat) (fun q => [cown q.1 (rU UInt8) r 0 q.2]) (fun q => .one (.val (HDR q.1 0 (List.length r) q.2))) := by
 unfold ref01_Blob at hm
 refine Sim.of Try.func28 rfl rfl (Nat.le_of_ble_eq_true rfl) (fun e0 w0 => ?_)
 refine JC.at ⟨[(0, ov (S (rL (rU UInt8)) b_1))], [], []⟩ ?_
 refine JC.seq ?_
 refine JC.region ?_
 refine jc (op_assign lb HasO.nilH) ?_
 refine JL.nil ?_
 refine JQ.then ?_
 refine JC.seq ?_
 refine JC.region ?_
 refine jc (op_move lb (.tmp rfl)) ?_
 refine jc (op_lenL lb tu22 (.tmp rfl)) ?_
 replace hm := lt1_inv hm
 obtain ⟨v_2, hv_v_2, hm⟩ := hm
 refine jc (op_convIU lb tu3 tu23 (.tmp rfl) hv_v_2) ?_
 replace hm := bnd_inv hm
 obtain ⟨v_3, hv_v_3, hm⟩ := hm
 refine jx (op_call (js := []) ld cl37 (sim_ref01_Put k v_2 (2 : Int) v_3 hv_v_3) .func (.cons (.tmp rfl) (.cons .cI .nil)) rfl) (fun q => ?_)
 obtain ⟨go_4, hqq⟩ : ∃ z, z = q := ⟨_, rfl⟩
 subst hqq
 refine jc (op_move lb (.tmp rfl)) ?_
 replace hm := bnd_inv hm
 obtain ⟨x_5, hv_x_5, hm⟩ := hm
 refine jx (op_appendL (j := 0) lb tu22 tu22 rfl tB5 rfl (Nat.lt_of_lt_of_le Nat.zero_lt_one (Nat.le_of_ble_eq_true rfl)) (Nat.lt_of_lt_of_le Nat.zero_lt_one (Nat.le_of_ble_eq_true rfl))  rfl (.tmp rfl) (.tmp rfl) hv_x_5) (fun q => ?_)
 obtain ⟨go_6, gc_7⟩ := q
 refine jc (op_assign lb (.tmp rfl)) ?_
 refine JL.sub ⟨[(2, ov (HDR go_6 0 (List.length x_5) gc_7))], [cown go_6 (rU UInt8) x_5 0 gc_7], []⟩ rfl rfl rfl ?_
 refine JL.nil ?_
 refine JQ.then ?_
 refine JC.ret ?_
 replace hm := Option.some.inj hm
 subst hm
 exact JQ.done (js := [0]) (ss := [.val (HDR go_6 0 (List.length x_5) gc_7)]) (go_6, gc_7) (.inl rfl) (.nil rfl) rfl (.cons (.tmp rfl) .nil) rfl rfl rfl

theorem sim_ref03_power (k : Nat) (t_1 : UInt64) (a_2 : Int) (a_3 : UInt64) (r : Bool) (hm : ref03_power k t_1 a_2 a_3 = some r) : Sim Try.prog 64 [S (rU UInt64) t_1, S (rI .i64) a_2, S (rU UInt64) a_3] [] (γ := Unit) (fun q => []) (fun q => .one (.val (S rB r))) := by
 unfold ref03_power at hm
 refine Sim.of Try.func64 rfl rfl (Nat.le_of_ble_eq_true rfl) (fun e0 w0 => ?_)
 refine JC.at ⟨[(0, ov (S (rU UInt64) t_1)), (1, ov (S (rI .i64) a_2)), (2, ov (S (rU UInt64) a_3))], [], []⟩ ?_
 refine JC.seq ?_
 refine JC.region ?_
 refine jc (op_assign lb .cB) ?_
 refine JL.nil ?_
 refine JQ.then ?_
 refine JC.seq ?_
 refine JC.region ?_
 refine jc (op_move lb (.tmp rfl)) ?_
 refine jc (op_move lb (.tmp rfl)) ?_
 replace hm := bnd_inv hm
 obtain ⟨⟨v_4, v_5⟩, hv_v_4, hm⟩ := hm
 refine jx (op_call (js := []) ld cl66 (sim_math_bits_Mul64 k t_1 t_1 (v_4, v_5) hv_v_4) .func (.cons (.tmp rfl) (.cons (.tmp rfl) .nil)) rfl) (fun _ => ?_)
 refine jc (op_move lb (.tmp rfl)) ?_
 refine jc (op_extract (i := 0) lb (.tmp rfl) rfl) ?_
 refine jc (op_extract (i := 1) lb (.tmp rfl) rfl) ?_
 refine jc (op_assign lb (.tmp rfl)) ?_
 refine jc (op_assign lb (.tmp rfl)) ?_
 refine JL.nil ?_
 refine JQ.then ?_
 refine JC.seq ?_
 refine JC.seq ?_
 refine JC.region ?_
 refine jc (op_move lb (.tmp rfl)) ?_
 replace hm := lt1_inv hm
 obtain ⟨v_6, hv_v_6, hm⟩ := hm
 refine jc (op_cmpI lb (.tmp rfl) .cI (congrArg some hv_v_6)) ?_
 refine JL.nil ?_
 refine JQ.then ?_
 replace hm := iteB_inv hm
 rcases hm with ⟨hc1, hm⟩ | ⟨hc1, hm⟩
 · refine JC.condT (.tmp rfl) hc1 ?_
   replace hm := bnd_inv hm
   obtain ⟨x_12, hx2, hq2⟩ := hm
   refine JC.seqJ (γ := Unit) (stj := fun q => ⟨[(6, ov (S rB x_12))], [], []⟩) (fun q => ?_) ?_
   · obtain _ := q
     refine JC.at ⟨[(6, ov (S rB x_12))], [], []⟩ ?_
     refine JC.ret ?_
     refine JQ.outR ?_
     replace hq2 := Option.some.inj hq2
     subst hq2
     exact JQ.done (js := []) (ss := [.val (S rB x_12)]) () (.inl rfl) (.nil rfl) rfl (.cons (.tmp rfl) .nil) rfl rfl rfl
   · refine JC.region ?_
     refine jc (op_move lb (.tmp rfl)) ?_
     refine JL.sub ⟨[(2, ov (S (rU UInt64) a_3)), (6, ov (S rB false)), (7, ov (S (rU UInt64) v_4)), (8, ov (S (rU UInt64) v_5)), (24, ov (S (rU UInt64) v_4))], [], []⟩ rfl rfl rfl ?_
     refine jc (op_move lb (.tmp rfl)) ?_
     replace hx2 := lt1_inv hx2
     obtain ⟨v_7, hv_v_7, hx2⟩ := hx2
     refine jc (op_cmpU lb (.tmp rfl) (.tmp rfl) (congrArg some hv_v_7)) ?_
     refine jc (op_move lb (.tmp rfl)) ?_
     refine JL.cnd (sv := ov (S (rU UInt64) v_4)) (Guard.isF (ltB rfl) rfl rfl) rfl (ltB rfl) (fun hq_3 => op_move lb (.tmp rfl)) ?_
     refine JL.cnd (sv := ov (S (rU UInt64) a_3)) (Guard.isF (ltB rfl) rfl rfl) rfl (ltB rfl) (fun hq_4 => op_move lb (.tmp rfl)) ?_
     replace hx2 := lt1_inv hx2
     obtain ⟨v_8, hv_v_8, hx2⟩ := hx2
     refine JL.cnd (sv := ov (S rB v_8)) (Guard.isF (ltB rfl) rfl rfl) rfl (ltB rfl) (fun hq_5 => op_cmpU lb (HasO.cnd (.tmp rfl) (notT (notF hq_5))) (HasO.cnd (.tmp rfl) (notT (notF hq_5))) (congrArg some hv_v_8)) ?_
     refine JL.cnd (sv := ov (S rB v_8)) (Guard.isF (ltB rfl) rfl rfl) rfl (ltB rfl) (fun hq_6 => op_move lb (HasO.cnd (.tmp rfl) (notT (notF hq_6)))) ?_
     refine JL.cnd (sv := ov (S (rU UInt64) v_5)) (Guard.cT (q := (!v_7)) (ltB rfl) rfl rfl) rfl (ltB rfl) (fun hq_7 => op_move lb (.tmp rfl)) ?_
     replace hx2 := lt1_inv hx2
     obtain ⟨v_9, hv_v_9, hx2⟩ := hx2
     refine JL.cnd (sv := ov (S rB v_9)) (Guard.cT (q := (!v_7)) (ltB rfl) rfl rfl) rfl (ltB rfl) (fun hq_8 => op_cmpU lb (HasO.cnd (.tmp rfl) (andI (notT (notF (andL hq_8))) (andR hq_8))) (HasO.cU (x := (0 : UInt64)) rfl (by decide)) (congrArg some hv_v_9)) ?_
     replace hx2 := lt1_inv hx2
     obtain ⟨v_10, hv_v_10, hx2⟩ := hx2
     refine JL.cnd (sv := ov (S rB v_10)) (Guard.isF (ltB rfl) rfl rfl) rfl (ltB rfl) (fun hq_9 => op_pickCS lb (HasO.cnd (.tmp rfl) (notT (notF hq_9))) (fun hb10 => (HasO.cnd (.tmp rfl) (andI (notT (notF hq_9)) hb10))) (fun hb10 => .cB) hv_v_10) ?_
     replace hx2 := lt1_inv hx2
     obtain ⟨v_11, hv_v_11, hx2⟩ := hx2
     refine jc (op_pickCS lb (.tmp rfl) (fun hb11 => .cB) (fun hb11 => (HasO.cnd (.tmp rfl) (notT hb11))) hv_v_11) ?_
     refine jc (op_assign lb (.tmp rfl)) ?_
     refine JL.sub ⟨[(6, ov (S rB v_11))], [], []⟩ rfl rfl rfl ?_
     refine JL.nil ?_
     replace hx2 := Option.some.inj hx2
     first | subst hx2 | clear hx2
     exact JQ.join () (Imp.norm (js := []) rfl (.cons rfl .nil))
 · refine JC.condF (.tmp rfl) hc1 ?_
   refine JC.skip ?_
   refine JQ.then ?_
   refine JC.seq ?_
   refine JC.region ?_
   refine jc (op_move lb (.tmp rfl)) ?_
   refine JL.sub ⟨[(0, ov (S (rU UInt64) t_1)), (2, ov (S (rU UInt64) a_3)), (7, ov (S (rU UInt64) v_4)), (37, ov (S (rU UInt64) v_5))], [], []⟩ rfl rfl rfl ?_
   refine jc (op_move lb (.tmp rfl)) ?_
   replace hm := bnd_inv hm
   obtain ⟨⟨v_13, v_14⟩, hv_v_13, hm⟩ := hm
   refine jx (op_call (js := []) ld cl66 (sim_math_bits_Mul64 k v_5 t_1 (v_13, v_14) hv_v_13) .func (.cons (.tmp rfl) (.cons (.tmp rfl) .nil)) rfl) (fun _ => ?_)
   refine jc (op_move lb (.tmp rfl)) ?_
   refine jc (op_extract (i := 0) lb (.tmp rfl) rfl) ?_
   refine jc (op_extract (i := 1) lb (.tmp rfl) rfl) ?_
   refine jc (op_assign lb (.tmp rfl)) ?_
   refine jc (op_assign lb (.tmp rfl)) ?_
   refine JL.nil ?_
   refine JQ.then ?_
   refine JC.seq ?_
   refine JC.region ?_
   refine jc (op_move lb (.tmp rfl)) ?_
   refine jc (op_move lb (.tmp rfl)) ?_
   replace hm := bnd_inv hm
   obtain ⟨⟨v_15, v_16⟩, hv_v_15, hm⟩ := hm
   refine jx (op_call (js := []) ld cl66 (sim_math_bits_Mul64 k v_4 t_1 (v_15, v_16) hv_v_15) .func (.cons (.tmp rfl) (.cons (.tmp rfl) .nil)) rfl) (fun _ => ?_)
   refine jc (op_move lb (.tmp rfl)) ?_
   refine jc (op_extract (i := 0) lb (.tmp rfl) rfl) ?_
   refine JL.sub ⟨[(2, ov (S (rU UInt64) a_3)), (9, ov (S (rU UInt64) v_13)), (10, ov (S (rU UInt64) v_14)), (42, .tup [.val (S (rU UInt64) v_15), .val (S (rU UInt64) v_16)]), (46, ov (S (rU UInt64) v_15))], [], []⟩ rfl rfl rfl ?_
   refine jc (op_extract (i := 1) lb (.tmp rfl) rfl) ?_
   refine jc (op_assign lb (.tmp rfl)) ?_
   refine jc (op_assign lb (.tmp rfl)) ?_
   refine JL.nil ?_
   refine JQ.then ?_
   refine JC.seq ?_
   refine JC.region ?_
   refine jc (op_move lb (.tmp rfl)) ?_
   refine jc (op_move lb (.tmp rfl)) ?_
   replace hm := bnd_inv hm
   obtain ⟨⟨s_17, o_18⟩, hv_s_17, hm⟩ := hm
   refine jc (op_add64 lb ex67 .func (.tmp rfl) (.tmp rfl) (HasO.cU (x := (0 : UInt64)) rfl (by decide)) hv_s_17) ?_
   refine jc (op_move lb (.tmp rfl)) ?_
   refine jc (op_extract (i := 0) lb (.tmp rfl) rfl) ?_
   refine jc (op_extract (i := 1) lb (.tmp rfl) rfl) ?_
   refine jc (op_assign lb (.tmp rfl)) ?_
   refine jc (op_assign lb (.tmp rfl)) ?_
   refine JL.nil ?_
   refine JQ.then ?_
   refine JC.seq ?_
   refine JC.region ?_
   refine jc (op_move lb (.tmp rfl)) ?_
   refine JL.sub ⟨[(2, ov (S (rU UInt64) a_3)), (10, ov (S (rU UInt64) v_14)), (13, ov (S (rU UInt64) s_17)), (14, ov (S (rU UInt64) o_18)), (54, ov (S (rU UInt64) v_15))], [], []⟩ rfl rfl rfl ?_
   refine jc (op_move lb (.tmp rfl)) ?_
   replace hm := lt1_inv hm
   obtain ⟨v_19, hv_v_19, hm⟩ := hm
   refine jc (op_arU lb (.tmp rfl) (.tmp rfl) (congrArg some hv_v_19)) ?_
   refine jc (op_assign lb (.tmp rfl)) ?_
   refine JL.nil ?_
   refine JQ.then ?_
   refine JC.seq ?_
   refine JC.seq ?_
   refine JC.region ?_
   refine jc (op_move lb (.tmp rfl)) ?_
   refine jc (op_move lb (.tmp rfl)) ?_
   replace hm := lt1_inv hm
   obtain ⟨v_20, hv_v_20, hm⟩ := hm
   refine jc (op_shrUU lb (.tmp rfl) (HasO.cU (x := (32 : UInt64)) rfl (by decide)) hv_v_20) ?_
   replace hm := lt1_inv hm
   obtain ⟨v_21, hv_v_21, hm⟩ := hm
   refine jc (op_cmpU lb (.tmp rfl) (.tmp rfl) (congrArg some hv_v_21)) ?_
   refine JL.nil ?_
   refine JQ.then ?_
   replace hm := iteB_inv hm
   rcases hm with ⟨hc12, hm⟩ | ⟨hc12, hm⟩
   · refine JC.condT (.tmp rfl) hc12 ?_
     refine JC.seq ?_
     refine JC.region ?_
     refine jc (op_move lb (.tmp rfl)) ?_
     refine jc (op_move lb (.tmp rfl)) ?_
     replace hm := lt1_inv hm
     obtain ⟨v_22, hv_v_22, hm⟩ := hm
     refine jc (op_shrUU lb (.tmp rfl) (HasO.cU (x := (32 : UInt64)) rfl (by decide)) hv_v_22) ?_
     replace hm := lt1_inv hm
     obtain ⟨v_23, hv_v_23, hm⟩ := hm
     refine jc (op_cmpU lb (.tmp rfl) (.tmp rfl) (congrArg some hv_v_23)) ?_
     refine jc (op_assign lb (.tmp rfl)) ?_
     refine JL.sub ⟨[(6, ov (S rB v_23))], [], []⟩ rfl rfl rfl ?_
     refine JL.nil ?_
     refine JQ.then ?_
     refine JC.ret ?_
     refine JQ.outR ?_
     replace hm := Option.some.inj hm
     subst hm
     exact JQ.done (js := []) (ss := [.val (S rB v_23)]) () (.inl rfl) (.nil rfl) rfl (.cons (.tmp rfl) .nil) rfl rfl rfl
   · refine JC.condF (.tmp rfl) hc12 ?_
     refine JC.skip ?_
     refine JQ.then ?_
     replace hm := bnd_inv hm
     obtain ⟨x_31, hx13, hq13⟩ := hm
     refine JC.seqJ (γ := Unit) (stj := fun q => ⟨[(6, ov (S rB x_31))], [], []⟩) (fun q => ?_) ?_
     · obtain _ := q
       refine JC.at ⟨[(6, ov (S rB x_31))], [], []⟩ ?_
       refine JC.ret ?_
       replace hq13 := Option.some.inj hq13
       subst hq13
       exact JQ.done (js := []) (ss := [.val (S rB x_31)]) () (.inl rfl) (.nil rfl) rfl (.cons (.tmp rfl) .nil) rfl rfl rfl
     · refine JC.region ?_
       refine jc (op_move lb (.tmp rfl)) ?_
       refine jc (op_move lb (.tmp rfl)) ?_
       replace hx13 := lt1_inv hx13
       obtain ⟨v_24, hv_v_24, hx13⟩ := hx13
       refine jc (op_shlUU lb (.tmp rfl) (HasO.cU (x := (32 : UInt64)) rfl (by decide)) hv_v_24) ?_
       replace hx13 := lt1_inv hx13
       obtain ⟨v_25, hv_v_25, hx13⟩ := hx13
       refine jc (op_cmpU lb (.tmp rfl) (.tmp rfl) (congrArg some hv_v_25)) ?_
       refine jc (op_move lb (.tmp rfl)) ?_
       refine JL.sub ⟨[(2, ov (S (rU UInt64) a_3)), (10, ov (S (rU UInt64) v_14)), (13, ov (S (rU UInt64) s_17)), (69, ov (S rB v_25))], [], []⟩ rfl rfl rfl ?_
       refine JL.cnd (sv := ov (S (rU UInt64) s_17)) (Guard.isF (ltB rfl) rfl rfl) rfl (ltB rfl) (fun hq_14 => op_move lb (.tmp rfl)) ?_
       refine JL.cnd (sv := ov (S (rU UInt64) a_3)) (Guard.isF (ltB rfl) rfl rfl) rfl (ltB rfl) (fun hq_15 => op_move lb (.tmp rfl)) ?_
       replace hx13 := lt1_inv hx13
       obtain ⟨v_26, hv_v_26, hx13⟩ := hx13
       refine JL.cnd (sv := ov (S (rU UInt64) v_26)) (Guard.isF (ltB rfl) rfl rfl) rfl (ltB rfl) (fun hq_16 => op_shlUU lb (HasO.cnd (.tmp rfl) (notT (notF hq_16))) (HasO.cU (x := (32 : UInt64)) rfl (by decide)) hv_v_26) ?_
       replace hx13 := lt1_inv hx13
       obtain ⟨v_27, hv_v_27, hx13⟩ := hx13
       refine JL.cnd (sv := ov (S rB v_27)) (Guard.isF (ltB rfl) rfl rfl) rfl (ltB rfl) (fun hq_17 => op_cmpU lb (HasO.cnd (.tmp rfl) (notT (notF hq_17))) (HasO.cnd (.tmp rfl) (notT (notF hq_17))) (congrArg some hv_v_27)) ?_
       refine JL.cnd (sv := ov (S rB v_27)) (Guard.isF (ltB rfl) rfl rfl) rfl (ltB rfl) (fun hq_18 => op_move lb (HasO.cnd (.tmp rfl) (notT (notF hq_18)))) ?_
       refine JL.cnd (sv := ov (S (rU UInt64) v_14)) (Guard.cT (q := (!v_25)) (ltB rfl) rfl rfl) rfl (ltB rfl) (fun hq_19 => op_move lb (.tmp rfl)) ?_
       replace hx13 := lt1_inv hx13
       obtain ⟨v_28, hv_v_28, hx13⟩ := hx13
       refine JL.cnd (sv := ov (S rB v_28)) (Guard.cT (q := (!v_25)) (ltB rfl) rfl rfl) rfl (ltB rfl) (fun hq_20 => op_cmpU lb (HasO.cnd (.tmp rfl) (andI (notT (notF (andL hq_20))) (andR hq_20))) (HasO.cU (x := (0 : UInt64)) rfl (by decide)) (congrArg some hv_v_28)) ?_
       replace hx13 := lt1_inv hx13
       obtain ⟨v_29, hv_v_29, hx13⟩ := hx13
       refine JL.cnd (sv := ov (S rB v_29)) (Guard.isF (ltB rfl) rfl rfl) rfl (ltB rfl) (fun hq_21 => op_pickCS lb (HasO.cnd (.tmp rfl) (notT (notF hq_21))) (fun hb22 => (HasO.cnd (.tmp rfl) (andI (notT (notF hq_21)) hb22))) (fun hb22 => .cB) hv_v_29) ?_
       replace hx13 := lt1_inv hx13
       obtain ⟨v_30, hv_v_30, hx13⟩ := hx13
       refine jc (op_pickCS lb (.tmp rfl) (fun hb23 => .cB) (fun hb23 => (HasO.cnd (.tmp rfl) (notT hb23))) hv_v_30) ?_
       refine jc (op_assign lb (.tmp rfl)) ?_
       refine JL.nil ?_
       replace hx13 := Option.some.inj hx13
       first | subst hx13 | clear hx13
       exact JQ.join () (Imp.norm (js := []) rfl (.cons rfl .nil))

theorem sim_ref03_root (k : Nat) (p_1 : UInt64) (n_2 : Int) (r : UInt32) (hm : ref03_root k p_1 n_2 = some r) : Sim Try.prog 51 [S (rU UInt64) p_1, S (rI .i64) n_2] [] (γ := Unit) (fun q => []) (fun q => .one (.val (S (rU UInt32) r))) := by
 unfold ref03_root at hm
 refine Sim.of Try.func51 rfl rfl (Nat.le_of_ble_eq_true rfl) (fun e0 w0 => ?_)
 refine JC.at ⟨[(0, ov (S (rU UInt64) p_1)), (1, ov (S (rI .i64) n_2))], [], []⟩ ?_
 refine JC.seq ?_
 refine JC.region ?_
 refine jc (op_assign lb (HasO.cU (x := (0 : UInt32)) rfl (by decide))) ?_
 refine JL.nil ?_
 refine JQ.then ?_
 refine JC.seq ?_
 refine JC.region ?_
 refine jc (op_assign lb (HasO.cU (x := (0 : UInt64)) rfl (by decide))) ?_
 refine JL.nil ?_
 refine JQ.then ?_
 replace hm := bnd_inv hm
 obtain ⟨x_12, hx1, hq1⟩ := hm
 refine JC.seqJ (γ := Unit) (stj := fun q => ⟨[(5, ov (S (rU UInt64) x_12))], [], []⟩) (fun q => ?_) ?_
 · obtain _ := q
   refine JC.at ⟨[(5, ov (S (rU UInt64) x_12))], [], []⟩ ?_
   refine JC.seq ?_
   refine JC.region ?_
   refine jc (op_move lb (.tmp rfl)) ?_
   replace hq1 := lt1_inv hq1
   obtain ⟨v_13, hv_v_13, hq1⟩ := hq1
   refine jc (op_convUU lb tu23 tu66 (.tmp rfl) hv_v_13) ?_
   refine jc (op_assign lb (.tmp rfl)) ?_
   refine JL.nil ?_
   refine JQ.then ?_
   refine JC.ret ?_
   replace hq1 := Option.some.inj hq1
   subst hq1
   exact JQ.done (js := []) (ss := [.val (S (rU UInt32) v_13)]) () (.inl rfl) (.nil rfl) rfl (.cons (.tmp rfl) .nil) rfl rfl rfl
 · refine JC.seq ?_
   refine JC.region ?_
   refine jc (op_assign lb .cI) ?_
   refine JL.nil ?_
   refine JQ.then ?_
   refine JC.block ?_
   refine JC.pre ?_ (JC.loop (γ := Unit) (stf := fun s q => ⟨[(0, ov (S (rU UInt64) p_1)), (1, ov (S (rI .i64) n_2)), (5, ov (S (rU UInt64) s.1)), (6, ov (S (rI .i64) s.2))], [], []⟩) (q := ()) hx1 ?_)
   · exact (Imp.norm (js := []) rfl (.cons rfl (.cons rfl (.cons rfl (.cons rfl .nil)))))
   · intro s q x hx hr
     obtain ⟨x_3, b_4⟩ := s
     obtain _ := q
     change ref03_root.b1 k n_2 p_1 x_3 b_4 = some x at hx
     unfold ref03_root.b1 at hx
     refine JC.at ⟨[(0, ov (S (rU UInt64) p_1)), (1, ov (S (rI .i64) n_2)), (5, ov (S (rU UInt64) x_3)), (6, ov (S (rI .i64) b_4))], [], []⟩ ?_
     refine JC.seq ?_
     refine JC.seq ?_
     refine JC.region ?_
     refine jc (op_move lb (.tmp rfl)) ?_
     replace hx := lt1_inv hx
     obtain ⟨v_5, hv_v_5, hx⟩ := hx
     refine jc (op_cmpI lb (.tmp rfl) .cI (congrArg some hv_v_5)) ?_
     refine JL.nil ?_
     refine JQ.then ?_
     replace hx := iteB_inv hx
     rcases hx with ⟨hc3, hx⟩ | ⟨hc3, hx⟩
     · refine JC.condT (.tmp rfl) hc3 ?_
       refine JC.skip ?_
       refine JQ.then ?_
       replace hx := bnd_inv hx
       obtain ⟨x_10, hx4, hq4⟩ := hx
       refine JC.seqJ (γ := Unit) (stj := fun q => ⟨[(0, ov (S (rU UInt64) p_1)), (1, ov (S (rI .i64) n_2)), (5, ov (S (rU UInt64) x_10)), (6, ov (S (rI .i64) b_4))], [], []⟩) (fun q => ?_) ?_
       · obtain _ := q
         refine JC.at ⟨[(0, ov (S (rU UInt64) p_1)), (1, ov (S (rI .i64) n_2)), (5, ov (S (rU UInt64) x_10)), (6, ov (S (rI .i64) b_4))], [], []⟩ ?_
         refine JC.region ?_
         refine jc (op_move lb (.tmp rfl)) ?_
         replace hq4 := lt1_inv hq4
         obtain ⟨v_11, hv_v_11, hq4⟩ := hq4
         refine jc (op_arI lb (.tmp rfl) .cI (congrArg some hv_v_11)) ?_
         refine jc (op_assign lb (.tmp rfl)) ?_
         refine JL.nil ?_
         replace hq4 := Option.some.inj hq4
         first | subst hq4 | clear hq4
         exact JQ.next () rfl (Imp.norm (js := []) rfl (.cons rfl (.cons rfl (.cons rfl (.cons rfl .nil)))))
       · refine JC.block ?_
         refine JC.seq ?_
         refine JC.region ?_
         refine jc (op_move lb (.tmp rfl)) ?_
         refine jc (op_move lb (.tmp rfl)) ?_
         replace hx4 := lt1_inv hx4
         obtain ⟨v_6, hv_v_6, hx4⟩ := hx4
         refine jc (op_convIU lb tu3 tu80 (.tmp rfl) hv_v_6) ?_
         replace hx4 := lt1_inv hx4
         obtain ⟨v_7, hv_v_7, hx4⟩ := hx4
         refine jc (op_shlUU lb (HasO.cU (x := (1 : UInt64)) rfl (by decide)) (.tmp rfl) hv_v_7) ?_
         replace hx4 := lt1_inv hx4
         obtain ⟨v_8, hv_v_8, hx4⟩ := hx4
         refine jc (op_arU lb (.tmp rfl) (.tmp rfl) (congrArg some hv_v_8)) ?_
         refine jc (op_assign lb (.tmp rfl)) ?_
         refine JL.nil ?_
         refine JQ.then ?_
         refine JC.seq ?_
         refine JC.region ?_
         refine jc (op_move lb (.tmp rfl)) ?_
         refine jc (op_move lb (.tmp rfl)) ?_
         refine jc (op_move lb (.tmp rfl)) ?_
         replace hx4 := bnd_inv hx4
         obtain ⟨v_9, hv_v_9, hx4⟩ := hx4
         refine jx (op_call (js := []) ld cl64 (sim_ref03_power k v_8 n_2 p_1 v_9 hv_v_9) .func (.cons (.tmp rfl) (.cons (.tmp rfl) (.cons (.tmp rfl) .nil))) rfl) (fun _ => ?_)
         refine JL.sub ⟨[(0, ov (S (rU UInt64) p_1)), (1, ov (S (rI .i64) n_2)), (5, ov (S (rU UInt64) x_3)), (6, ov (S (rI .i64) b_4)), (7, ov (S (rU UInt64) v_8)), (20, ov (S rB v_9))], [], []⟩ rfl rfl rfl ?_
         refine JL.nil ?_
         refine JQ.then ?_
         replace hx4 := iteB_inv hx4
         rcases hx4 with ⟨hc5, hx4⟩ | ⟨hc5, hx4⟩
         · refine JC.condT (.tmp rfl) hc5 ?_
           refine JC.region ?_
           refine jc (op_move lb (.tmp rfl)) ?_
           refine jc (op_assign lb (.tmp rfl)) ?_
           refine JL.nil ?_
           refine JQ.outNB ?_
           replace hx4 := Option.some.inj hx4
           first | subst hx4 | clear hx4
           exact JQ.join () (Imp.norm (js := []) rfl (.cons rfl (.cons rfl (.cons rfl (.cons rfl .nil)))))
         · refine JC.condF (.tmp rfl) hc5 ?_
           refine JC.skip ?_
           refine JQ.outNB ?_
           replace hx4 := Option.some.inj hx4
           first | subst hx4 | clear hx4
           exact JQ.join () (Imp.norm (js := []) rfl (.cons rfl (.cons rfl (.cons rfl (.cons rfl .nil)))))
     · refine JC.condF (.tmp rfl) hc3 ?_
       refine JC.exit ?_
       refine JQ.outX ?_
       replace hx := Option.some.inj hx
       first | subst hx | clear hx
       have ht := hr _ rfl
       have hq2 := congrArg some ht
       clear hr ht
       refine JQ.outX ?_
       refine JQ.here ?_
       replace hq2 := Option.some.inj hq2
       first | subst hq2 | clear hq2
       exact JQ.join () (Imp.norm (js := []) rfl (.cons rfl .nil))

end Go.Proofs.Ytnhiiabdoichlaa
