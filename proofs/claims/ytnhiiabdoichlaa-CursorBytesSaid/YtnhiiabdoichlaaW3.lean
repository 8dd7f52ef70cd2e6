/- Walks. -/
import Derived.Test.YtnhiiabdoichlaaT
import Derived.Test.YtnhiiabdoichlaaW2
namespace Go.Proofs.Ytnhiiabdoichlaa
open Go Fw
set_option linter.unusedVariables false
set_option maxRecDepth 100000
set_option maxHeartbeats 4000000

theorem sim_sha_state_press_1 (k : Nat) (x_1 : UInt32) (l_2 : (List Int)) (r : UInt32) (hm : sha_state_press_1 k x_1 l_2 = some r) : Sim Try.prog 62 [S (rU UInt32) x_1, S (rL (rI .i64)) l_2] [] (γ := Unit) (fun q => []) (fun q => .one (.val (S (rU UInt32) r))) := by
 unfold sha_state_press_1 at hm
 refine Sim.of Try.func62 rfl rfl (Nat.le_of_ble_eq_true rfl) (fun e0 w0 => ?_)
 refine JC.at ⟨[(0, ov (S (rU UInt32) x_1)), (1, ov (S (rL (rI .i64)) l_2))], [], []⟩ ?_
 refine JC.seq ?_
 refine JC.region ?_
 refine jc (op_assign lb (HasO.cU (x := (0 : UInt32)) rfl (by decide))) ?_
 refine JL.nil ?_
 refine JQ.then ?_
 refine JC.seq ?_
 refine JC.region ?_
 refine jc (op_assign lb (HasO.cU (x := (0 : UInt32)) rfl (by decide))) ?_
 refine JL.nil ?_
 refine JQ.then ?_
 replace hm := bnd_inv hm
 obtain ⟨y_11, hx1, hq1⟩ := hm
 refine JC.seqJ (γ := Unit) (stj := fun q => ⟨[(5, ov (S (rU UInt32) y_11))], [], []⟩) (fun q => ?_) ?_
 · obtain _ := q
   refine JC.at ⟨[(5, ov (S (rU UInt32) y_11))], [], []⟩ ?_
   refine JC.seq ?_
   refine JC.region ?_
   refine jc (op_move lb (.tmp rfl)) ?_
   refine jc (op_assign lb (.tmp rfl)) ?_
   refine JL.nil ?_
   refine JQ.then ?_
   refine JC.ret ?_
   replace hq1 := Option.some.inj hq1
   subst hq1
   exact JQ.done (js := []) (ss := [.val (S (rU UInt32) y_11)]) () (.inl rfl) (.nil rfl) rfl (.cons (.tmp rfl) .nil) rfl rfl rfl
 · refine JC.seq ?_
   refine JC.region ?_
   refine jc (op_move lb (.tmp rfl)) ?_
   refine jc (op_lenL lb tu98 (.tmp rfl)) ?_
   refine jc (op_move lb .cI) ?_
   refine JL.nil ?_
   refine JQ.then ?_
   refine JC.block ?_
   refine JC.pre ?_ (JC.loop (γ := Unit) (stf := fun s q => ⟨[(0, ov (S (rU UInt32) x_1)), (5, ov (S (rU UInt32) s.1)), (8, ov (S (rL (rI .i64)) l_2)), (9, ov (S (rI .i64) (List.length l_2 : Int))), (10, ov (S (rI .i64) s.2))], [], []⟩) (q := ()) hx1 ?_)
   · exact (Imp.norm (js := []) rfl (.cons rfl (.cons rfl (.cons rfl (.cons rfl (.cons rfl .nil))))))
   · intro s q x hx hr
     obtain ⟨y_3, x_4⟩ := s
     obtain _ := q
     change sha_state_press_1.b1 k l_2 x_1 y_3 x_4 = some x at hx
     unfold sha_state_press_1.b1 at hx
     refine JC.at ⟨[(0, ov (S (rU UInt32) x_1)), (5, ov (S (rU UInt32) y_3)), (8, ov (S (rL (rI .i64)) l_2)), (9, ov (S (rI .i64) (List.length l_2 : Int))), (10, ov (S (rI .i64) x_4))], [], []⟩ ?_
     refine JC.seq ?_
     refine JC.region ?_
     replace hx := lt1_inv hx
     obtain ⟨v_5, hv_v_5, hx⟩ := hx
     refine jc (op_cmpI lb (.tmp rfl) (.tmp rfl) (congrArg some hv_v_5)) ?_
     refine JL.nil ?_
     refine JQ.then ?_
     refine JC.seq ?_
     replace hx := iteB_inv hx
     rcases hx with ⟨hc3, hx⟩ | ⟨hc3, hx⟩
     · refine JC.condT (.tmp rfl) hc3 ?_
       refine JC.skip ?_
       refine JQ.then ?_
       refine JC.seq ?_
       refine JC.block ?_
       refine JC.seq ?_
       refine JC.region ?_
       replace hx := bnd_inv hx
       obtain ⟨v_6, hv_v_6, hx⟩ := hx
       refine jc (op_indexAddrLg lb tu98 tz3 (.tmp rfl) (.tmp rfl) hv_v_6) ?_
       refine jc (op_loadPSg lb tS3 rfl (.tmp rfl) rfl) ?_
       refine jc (op_assign lb (.tmp rfl)) ?_
       refine JL.nil ?_
       refine JQ.then ?_
       refine JC.region ?_
       refine jc (op_move lb (.tmp rfl)) ?_
       refine jc (op_move lb (.tmp rfl)) ?_
       refine jc (op_move lb (.tmp rfl)) ?_
       replace hx := lt1_inv hx
       obtain ⟨v_7, hv_v_7, hx⟩ := hx
       refine jc (op_neg lb (.tmp rfl) hv_v_7) ?_
       replace hx := bnd_inv hx
       obtain ⟨v_8, hv_v_8, hx⟩ := hx
       refine jx (op_call (js := []) ld cl63 (sim_math_bits_RotateLeft32 k x_1 v_7 v_8 hv_v_8) .func (.cons (.tmp rfl) (.cons (.tmp rfl) .nil)) rfl) (fun _ => ?_)
       replace hx := lt1_inv hx
       obtain ⟨v_9, hv_v_9, hx⟩ := hx
       refine jc (op_arU lb (.tmp rfl) (.tmp rfl) (congrArg some hv_v_9)) ?_
       refine jc (op_assign lb (.tmp rfl)) ?_
       refine JL.nil ?_
       refine JQ.outNB ?_
       refine JQ.then ?_
       refine JC.region ?_
       replace hx := lt1_inv hx
       obtain ⟨v_10, hv_v_10, hx⟩ := hx
       refine jc (op_arI lb (.tmp rfl) .cI (congrArg some hv_v_10)) ?_
       refine JL.sub ⟨[(0, ov (S (rU UInt32) x_1)), (5, ov (S (rU UInt32) v_9)), (8, ov (S (rL (rI .i64)) l_2)), (9, ov (S (rI .i64) (List.length l_2 : Int))), (10, ov (S (rI .i64) x_4)), (20, ov (S (rI .i64) v_10))], [], []⟩ rfl rfl rfl ?_
       refine jc (op_move lb (.tmp rfl)) ?_
       refine JL.nil ?_
       replace hx := Option.some.inj hx
       first | subst hx | clear hx
       exact JQ.next () rfl (Imp.norm (js := []) rfl (.cons rfl (.cons rfl (.cons rfl (.cons rfl (.cons rfl .nil))))))
     · refine JC.condF (.tmp rfl) hc3 ?_
       refine JC.exit ?_
       refine JQ.outX ?_
       replace hx := Option.some.inj hx
       first | subst hx | clear hx
       have ht := hr _ rfl
       have hq2 := congrArg some ht
       clear hr ht
       refine JQ.outX ?_
       refine JQ.here ?_
       replace hq2 := Option.some.inj hq2
       first | subst hq2 | clear hq2
       exact JQ.join () (Imp.norm (js := []) rfl (.cons rfl .nil))

end Go.Proofs.Ytnhiiabdoichlaa
