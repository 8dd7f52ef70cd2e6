/- Walks. -/
import Derived.Test.YtkbkdfcakpbojaaT
namespace Go.Proofs.Ytkbkdfcakpbojaa
open Go Fw
set_option linter.unusedVariables false
set_option maxRecDepth 100000
set_option maxHeartbeats 4000000

theorem sim_ref01_Join (k : Nat) (l_1 : (List (List UInt8))) (r : (List UInt8)) (hm : ref01_Join k l_1 = some r) : Sim Try.prog 34 [S (rL (rL (rU UInt8))) l_1] [] (γ := Option Nat × Nat) (fun q => [cown q.1 (rU UInt8) r 0 q.2]) (fun q => .one (.val (HDR q.1 0 (List.length r) q.2))) := by
  unfold ref01_Join at hm
  refine Sim.of Try.func34 rfl rfl (Nat.le_of_ble_eq_true rfl) (fun e0 w0 => ?_)
  refine JC.at ⟨[(0, .one (.val (S (rL (rL (rU UInt8))) l_1)))], [], []⟩ ?_
  refine JC.seq ?_
  refine JC.region ?_
  refine JL.cons rfl (op_assign (ltB rfl) HasO.nilH) ?_
  refine JL.nil ?_
  refine JQ.then ?_
  refine JC.seq ?_
  refine JC.region ?_
  refine JL.cons rfl (op_assign (ltB rfl) HasO.nilH) ?_
  refine JL.nil ?_
  refine JQ.then ?_
  obtain ⟨o_12, hx1, hq1⟩ := bnd_inv hm
  refine JC.seqJ (γ := Option Nat × Nat) (stj := fun q => ⟨[(3, .one (.val (HDR q.1 0 (List.length o_12) q.2)))], [cown q.1 (rU UInt8) o_12 0 q.2], []⟩) (fun q => ?_) ?_
  · obtain ⟨go_13, gc_14⟩ := q
    refine JC.at ⟨[(3, .one (.val (HDR go_13 0 (List.length o_12) gc_14)))], [cown go_13 (rU UInt8) o_12 0 gc_14], []⟩ ?_
    refine JC.seq ?_
    refine JC.region ?_
    refine JL.cons rfl (op_move (ltB rfl) (.tmp rfl)) ?_
    refine JL.cons rfl (op_assign (ltB rfl) (.tmp rfl)) ?_
    refine JL.nil ?_
    refine JQ.then ?_
    refine JC.ret ?_
    replace hq1 := Option.some.inj hq1
    subst hq1
    exact JQ.done (js := [0]) (ss := [.val (HDR go_13 0 (List.length o_12) gc_14)]) (go_13, gc_14) (.inl rfl) (.nil rfl) rfl (.cons (.tmp rfl) .nil) rfl rfl rfl
  · refine JC.seq ?_
    refine JC.region ?_
    refine JL.cons rfl (op_assign (ltB rfl) .cI) ?_
    refine JL.nil ?_
    refine JQ.then ?_
    refine JC.block ?_
    refine JC.pre (Imp.nilown (rU UInt8)) ?_
    refine JC.pre ?_ (JC.loop (γ := Option Nat × Nat) (stf := fun s q => ⟨[(0, .one (.val (S (rL (rL (rU UInt8))) l_1))), (3, .one (.val (HDR q.1 0 (List.length s.1) q.2))), (4, .one (.val (S (rI .i64) s.2)))], [cown q.1 (rU UInt8) s.1 0 q.2], []⟩) (q := (none, 0)) hx1 ?_)
    · exact (Imp.norm (js := [0]) rfl (.cons rfl (.cons rfl (.cons rfl .nil))))
    · intro s q x hx hr
      obtain ⟨o_2, i_3⟩ := s
      obtain ⟨go_4, gc_5⟩ := q
      change ref01_Join.b1 k l_1 o_2 i_3 = some x at hx
      unfold ref01_Join.b1 at hx
      refine JC.at ⟨[(0, .one (.val (S (rL (rL (rU UInt8))) l_1))), (3, .one (.val (HDR go_4 0 (List.length o_2) gc_5))), (4, .one (.val (S (rI .i64) i_3)))], [cown go_4 (rU UInt8) o_2 0 gc_5], []⟩ ?_
      refine JC.seq ?_
      refine JC.seq ?_
      refine JC.region ?_
      refine JL.cons rfl (op_move (ltB rfl) (.tmp rfl)) ?_
      refine JL.cons rfl (op_move (ltB rfl) (.tmp rfl)) ?_
      refine JL.cons rfl (op_lenL (ltB rfl) tu58 (.tmp rfl)) ?_
      replace hx := lt1_inv hx
      obtain ⟨v_6, hv_v_6, hx⟩ := hx
      refine JL.cons rfl (op_cmpI (ltB rfl) (.tmp rfl) (.tmp rfl) (congrArg some hv_v_6)) ?_
      refine JL.nil ?_
      refine JQ.then ?_
      rcases iteB_inv hx with ⟨hc3, hx⟩ | ⟨hc3, hx⟩
      · refine JC.condT (.tmp rfl) hc3 ?_
        refine JC.skip ?_
        refine JQ.then ?_
        refine JC.seq ?_
        refine JC.block ?_
        refine JC.region ?_
        refine JL.cons rfl (op_move (ltB rfl) (.tmp rfl)) ?_
        refine JL.cons rfl (op_move (ltB rfl) (.tmp rfl)) ?_
        refine JL.pre (Imp.sub (ρ' := [(0, .one (.val (S (rL (rL (rU UInt8))) l_1))), (3, .one (.val (HDR go_4 0 (List.length o_2) gc_5))), (4, .one (.val (S (rI .i64) i_3))), (11, .one (.val (HDR go_4 0 (List.length o_2) gc_5))), (12, .one (.val (S (rL (rL (rU UInt8))) l_1)))]) (.cons rfl (.cons rfl (.cons rfl (.cons rfl (.cons rfl .nil)))))) ?_
        refine JL.at ⟨[(0, .one (.val (S (rL (rL (rU UInt8))) l_1))), (3, .one (.val (HDR go_4 0 (List.length o_2) gc_5))), (4, .one (.val (S (rI .i64) i_3))), (11, .one (.val (HDR go_4 0 (List.length o_2) gc_5))), (12, .one (.val (S (rL (rL (rU UInt8))) l_1)))], [cown go_4 (rU UInt8) o_2 0 gc_5], []⟩ ?_
        refine JL.cons rfl (op_move (ltB rfl) (.tmp rfl)) ?_
        replace hx := bnd_inv hx
        obtain ⟨v_7, hv_v_7, hx⟩ := hx
        refine JL.cons rfl (op_indexAddrLg (ltB rfl) tu58 tz23 (.tmp rfl) (.tmp rfl) hv_v_7) ?_
        refine JL.cons rfl (op_loadPSg (ltB rfl) tS23 rfl (.tmp rfl) rfl) ?_
        replace hx := bnd_inv hx
        obtain ⟨o_8, hv_o_8, hx⟩ := hx
        refine JL.consX rfl (op_appendL (j := 0) (ltB rfl) tu23 tu23 rfl tB5 rfl (Nat.lt_of_lt_of_le Nat.zero_lt_one (Nat.le_of_ble_eq_true rfl)) (Nat.lt_of_lt_of_le Nat.zero_lt_one (Nat.le_of_ble_eq_true rfl))  rfl (.tmp rfl) (.tmp rfl) hv_o_8) (fun q => ?_)
        obtain ⟨go_9, gc_10⟩ := q
        refine JL.pre (Imp.sub (ρ' := [(0, .one (.val (S (rL (rL (rU UInt8))) l_1))), (4, .one (.val (S (rI .i64) i_3))), (16, .one (.val (HDR go_9 0 (List.length o_8) gc_10)))]) (.cons rfl (.cons rfl (.cons rfl .nil)))) ?_
        refine JL.at ⟨[(0, .one (.val (S (rL (rL (rU UInt8))) l_1))), (4, .one (.val (S (rI .i64) i_3))), (16, .one (.val (HDR go_9 0 (List.length o_8) gc_10)))], [cown go_9 (rU UInt8) o_8 0 gc_10], []⟩ ?_
        refine JL.cons rfl (op_assign (ltB rfl) (.tmp rfl)) ?_
        refine JL.nil ?_
        refine JQ.outNB ?_
        refine JQ.then ?_
        refine JC.region ?_
        refine JL.cons rfl (op_move (ltB rfl) (.tmp rfl)) ?_
        replace hx := lt1_inv hx
        obtain ⟨v_11, hv_v_11, hx⟩ := hx
        refine JL.cons rfl (op_arI (ltB rfl) (.tmp rfl) .cI (congrArg some hv_v_11)) ?_
        refine JL.cons rfl (op_assign (ltB rfl) (.tmp rfl)) ?_
        refine JL.nil ?_
        replace hx := Option.some.inj hx
        subst hx
        exact JQ.next (go_9, gc_10) rfl (Imp.norm (js := [0]) rfl (.cons rfl (.cons rfl (.cons rfl .nil))))
      · refine JC.condF (.tmp rfl) hc3 ?_
        refine JC.exit ?_
        refine JQ.outX ?_
        replace hx := Option.some.inj hx
        subst hx
        have ht := hr _ rfl
        have hq2 := congrArg some ht
        clear hr ht
        refine JQ.outX ?_
        refine JQ.here ?_
        replace hq2 := Option.some.inj hq2
        subst hq2
        exact JQ.join (go_4, gc_5) (Imp.norm (js := [0]) rfl (.cons rfl .nil))

end Go.Proofs.Ytkbkdfcakpbojaa
