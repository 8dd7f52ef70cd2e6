/- The walk of one function. -/
import Derived.Test.YtlkofkegbkkhbaaT
import Derived.Test.YtlkofkegbkkhbaaW17
namespace Go.Proofs.Ytlkofkegbkkhbaa
open Go Fw
set_option linter.unusedVariables false
set_option maxRecDepth 100000
set_option maxHeartbeats 4000000

theorem sim_ref02_Sum (k : Nat) (b_1 : (List UInt8)) (r : UInt32) (hm : ref02_Sum k b_1 = some r) : Sim Try.prog 11 [S (rL (rU UInt8)) b_1] [] (.one (.val (S (rU UInt32) r))) := by
  unfold ref02_Sum at hm
  refine Sim.of Try.func11 rfl rfl (Nat.le_of_ble_eq_true rfl) (fun e0 w0 => ?_)
  refine JC.at (M := HM.none) ⟨[(0, .one (.val (S (rL (rU UInt8)) b_1)))], [], ()⟩ ?_
  refine JC.seq ?_
  refine JC.region ?_
  refine JL.cons rfl (op_assign (ltB rfl) (HasO.cU (x := (0 : UInt32)) rfl (by decide))) ?_
  refine JL.nil ?_
  refine JQ.then ?_
  refine JC.seq ?_
  refine JC.region ?_
  refine JL.cons rfl (op_alloc (ltB rfl) tZ40 zr40) ?_
  refine JL.nil ?_
  refine JQ.then ?_
  obtain ⟨x_8, hx1, hq1⟩ := bnd_inv hm
  refine JC.seqJ (stj := ⟨[(0, .one (.val (S (rL (rU UInt8)) b_1))), (3, .one (.ptr 0 0))], [.var (Vector Bool 32) (rV 32 rB) x_8], ()⟩) ?_ ?_
  · obtain ⟨x_24, hx4, hq4⟩ := bnd_inv hq1
    refine JC.seqJ (stj := ⟨[(3, .one (.ptr 0 0))], [.var (Vector Bool 32) (rV 32 rB) x_24], ()⟩) ?_ ?_
    · refine JC.seq ?_
      refine JC.region ?_
      refine JL.cons rfl (op_assign (ltB rfl) (HasO.cU (x := (0 : UInt32)) rfl (by decide))) ?_
      refine JL.nil ?_
      refine JQ.then ?_
      obtain ⟨s_35, hx10, hq10⟩ := bnd_inv hq4
      refine JC.seqJ (stj := ⟨[(7, .one (.val (S (rU UInt32) s_35)))], [], ()⟩) ?_ ?_
      · refine JC.seq ?_
        refine JC.region ?_
        refine JL.cons rfl (op_move (ltB rfl) (.tmp rfl)) ?_
        refine JL.cons rfl (op_assign (ltB rfl) (.tmp rfl)) ?_
        refine JL.nil ?_
        refine JQ.then ?_
        refine JC.ret ?_
        replace hq10 := Option.some.inj hq10
        subst hq10
        exact JQ.doneV (ss := [.val (S (rU UInt32) s_35)]) (.inl rfl) rfl rfl (.cons (.tmp rfl) .nil) rfl
      · refine JC.seq ?_
        refine JC.region ?_
        refine JL.cons rfl (op_assign (ltB rfl) .cI) ?_
        refine JL.nil ?_
        refine JQ.then ?_
        refine JC.block ?_
        refine JC.pre ?_ (JC.loop (stf := fun s => ⟨[(3, .one (.ptr 0 0)), (7, .one (.val (S (rU UInt32) s.1))), (8, .one (.val (S (rI .i64) s.2)))], [.var (Vector Bool 32) (rV 32 rB) x_24], ()⟩) hx10 ?_)
        · exact (Imp.norm (n := 1) rfl (.cons rfl rfl (.cons rfl rfl (.cons rfl rfl .nil))))
        · intro s x hx hr
          obtain ⟨s_25, i_26⟩ := s
          change ref02_Sum.b4 k x_24 s_25 i_26 = some x at hx
          unfold ref02_Sum.b4 at hx
          refine JC.at (M := HM.none) ⟨[(3, .one (.ptr 0 0)), (7, .one (.val (S (rU UInt32) s_25))), (8, .one (.val (S (rI .i64) i_26)))], [.var (Vector Bool 32) (rV 32 rB) x_24], ()⟩ ?_
          refine JC.seq ?_
          refine JC.seq ?_
          refine JC.region ?_
          refine JL.cons rfl (op_move (ltB rfl) (.tmp rfl)) ?_
          obtain ⟨v_27, hv_v_27, hx⟩ := lt1_inv hx
          refine JL.cons rfl (op_cmpI (ltB rfl) (.tmp rfl) .cI (congrArg some hv_v_27)) ?_
          refine JL.nil ?_
          refine JQ.then ?_
          rcases iteB_inv hx with ⟨hc12, hx⟩ | ⟨hc12, hx⟩
          · refine JC.condT (.tmp rfl) hc12 ?_
            refine JC.skip ?_
            refine JQ.then ?_
            obtain ⟨s_33, hx13, hq13⟩ := bnd_inv hx
            refine JC.seqJ (stj := ⟨[(3, .one (.ptr 0 0)), (7, .one (.val (S (rU UInt32) s_33))), (8, .one (.val (S (rI .i64) i_26)))], [.var (Vector Bool 32) (rV 32 rB) x_24], ()⟩) ?_ ?_
            · refine JC.region ?_
              refine JL.cons rfl (op_move (ltB rfl) (.tmp rfl)) ?_
              obtain ⟨v_34, hv_v_34, hq13⟩ := lt1_inv hq13
              refine JL.cons rfl (op_arI (ltB rfl) (.tmp rfl) .cI (congrArg some hv_v_34)) ?_
              refine JL.cons rfl (op_assign (ltB rfl) (.tmp rfl)) ?_
              refine JL.nil ?_
              replace hq13 := Option.some.inj hq13
              subst hq13
              exact JQ.next rfl (Imp.norm (n := 1) rfl (.cons rfl rfl (.cons rfl rfl (.cons rfl rfl .nil))))
            · refine JC.block ?_
              refine JC.seq ?_
              refine JC.region ?_
              refine JL.cons rfl (op_move (ltB rfl) (.tmp rfl)) ?_
              obtain ⟨v_28, hv_v_28, hx13⟩ := lt1_inv hx13
              refine JL.cons rfl (op_arU (ltB rfl) (HasO.cU (x := (2 : UInt32)) rfl (by decide)) (.tmp rfl) (congrArg some hv_v_28)) ?_
              refine JL.cons rfl (op_assign (ltB rfl) (.tmp rfl)) ?_
              refine JL.nil ?_
              refine JQ.then ?_
              refine JC.seq ?_
              refine JC.region ?_
              refine JL.cons rfl (op_move (ltB rfl) (.tmp rfl)) ?_
              refine JL.pre (Imp.norm (n := 1) (ρ' := [(3, .one (.ptr 0 0)), (7, .one (.val (S (rU UInt32) v_28))), (8, .one (.val (S (rI .i64) i_26))), (42, .one (.val (S (rI .i64) i_26)))]) (X' := [.var (Vector Bool 32) (rV 32 rB) x_24]) rfl (.cons rfl rfl (.cons rfl rfl (.cons rfl rfl (.cons rfl rfl .nil))))) ?_
              refine JL.at (M := HM.none) ⟨[(3, .one (.ptr 0 0)), (7, .one (.val (S (rU UInt32) v_28))), (8, .one (.val (S (rI .i64) i_26))), (42, .one (.val (S (rI .i64) i_26)))], [.var (Vector Bool 32) (rV 32 rB) x_24], ()⟩ ?_
              obtain ⟨i_29, hv_i_29, hx13⟩ := bnd_inv hx13
              refine JL.cons rfl (op_indexAddrIF (ltB rfl) tr40 (.tmp rfl) (.tmp rfl) hv_i_29) ?_
              obtain ⟨v_30, hv_v_30, hx13⟩ := lt1_inv hx13
              refine JL.cons rfl (op_loadSg (ltB rfl) tS4 (.tmp rfl) rfl (Comp.at (Comp.self (rV 32 rB) x_24) i_29.2 rfl) rfl hv_v_30) ?_
              obtain ⟨v_31, hv_v_31, hx13⟩ := lt1_inv hx13
              refine JL.cons rfl (op_not (ltB rfl) (.tmp rfl) hv_v_31) ?_
              refine JL.nil ?_
              refine JQ.then ?_
              rcases iteB_inv hx13 with ⟨hc14, hx13⟩ | ⟨hc14, hx13⟩
              · refine JC.condT (.tmp rfl) hc14 ?_
                refine JC.region ?_
                refine JL.cons rfl (op_move (ltB rfl) (.tmp rfl)) ?_
                obtain ⟨v_32, hv_v_32, hx13⟩ := lt1_inv hx13
                refine JL.cons rfl (op_arU (ltB rfl) (.tmp rfl) (HasO.cU (x := (1 : UInt32)) rfl (by decide)) (congrArg some hv_v_32)) ?_
                refine JL.cons rfl (op_assign (ltB rfl) (.tmp rfl)) ?_
                refine JL.nil ?_
                refine JQ.outNB ?_
                replace hx13 := Option.some.inj hx13
                subst hx13
                exact JQ.join (Imp.norm (n := 1) rfl (.cons rfl rfl (.cons rfl rfl (.cons rfl rfl .nil))))
              · refine JC.condF (.tmp rfl) hc14 ?_
                refine JC.skip ?_
                refine JQ.outNB ?_
                replace hx13 := Option.some.inj hx13
                subst hx13
                exact JQ.join (Imp.norm (n := 1) rfl (.cons rfl rfl (.cons rfl rfl (.cons rfl rfl .nil))))
          · refine JC.condF (.tmp rfl) hc12 ?_
            refine JC.exit ?_
            refine JQ.outX ?_
            replace hx := Option.some.inj hx
            subst hx
            have ht := hr _ rfl
            have hq11 := congrArg some ht
            clear hr ht
            refine JQ.outX ?_
            refine JQ.here ?_
            replace hq11 := Option.some.inj hq11
            subst hq11
            exact JQ.join (Imp.norm (n := 0) rfl (.cons rfl rfl .nil))
    · refine JC.seq ?_
      refine JC.region ?_
      refine JL.cons rfl (op_assign (ltB rfl) .cI) ?_
      refine JL.nil ?_
      refine JQ.then ?_
      refine JC.block ?_
      refine JC.pre ?_ (JC.loop (stf := fun s => ⟨[(0, .one (.val (S (rL (rU UInt8)) b_1))), (3, .one (.ptr 0 0)), (5, .one (.val (S (rI .i64) s.1)))], [.var (Vector Bool 32) (rV 32 rB) s.2], ()⟩) hx4 ?_)
      · exact (Imp.norm (n := 1) rfl (.cons rfl rfl (.cons rfl rfl (.cons rfl rfl .nil))))
      · intro s x hx hr
        obtain ⟨i_9, x_10⟩ := s
        change ref02_Sum.b2 k b_1 i_9 x_10 = some x at hx
        unfold ref02_Sum.b2 at hx
        refine JC.at (M := HM.none) ⟨[(0, .one (.val (S (rL (rU UInt8)) b_1))), (3, .one (.ptr 0 0)), (5, .one (.val (S (rI .i64) i_9)))], [.var (Vector Bool 32) (rV 32 rB) x_10], ()⟩ ?_
        refine JC.seq ?_
        refine JC.seq ?_
        refine JC.region ?_
        refine JL.cons rfl (op_move (ltB rfl) (.tmp rfl)) ?_
        refine JL.cons rfl (op_move (ltB rfl) (.tmp rfl)) ?_
        refine JL.cons rfl (op_lenL (ltB rfl) tu23 (.tmp rfl)) ?_
        obtain ⟨v_11, hv_v_11, hx⟩ := lt1_inv hx
        refine JL.cons rfl (op_cmpI (ltB rfl) (.tmp rfl) (.tmp rfl) (congrArg some hv_v_11)) ?_
        refine JL.nil ?_
        refine JQ.then ?_
        rcases iteB_inv hx with ⟨hc6, hx⟩ | ⟨hc6, hx⟩
        · refine JC.condT (.tmp rfl) hc6 ?_
          refine JC.skip ?_
          refine JQ.then ?_
          obtain ⟨x_22, hx7, hq7⟩ := bnd_inv hx
          refine JC.seqJ (stj := ⟨[(0, .one (.val (S (rL (rU UInt8)) b_1))), (3, .one (.ptr 0 0)), (5, .one (.val (S (rI .i64) i_9)))], [.var (Vector Bool 32) (rV 32 rB) x_22], ()⟩) ?_ ?_
          · refine JC.region ?_
            refine JL.cons rfl (op_move (ltB rfl) (.tmp rfl)) ?_
            obtain ⟨v_23, hv_v_23, hq7⟩ := lt1_inv hq7
            refine JL.cons rfl (op_arI (ltB rfl) (.tmp rfl) .cI (congrArg some hv_v_23)) ?_
            refine JL.cons rfl (op_assign (ltB rfl) (.tmp rfl)) ?_
            refine JL.nil ?_
            replace hq7 := Option.some.inj hq7
            subst hq7
            exact JQ.next rfl (Imp.norm (n := 1) rfl (.cons rfl rfl (.cons rfl rfl (.cons rfl rfl .nil))))
          · refine JC.block ?_
            refine JC.seq ?_
            refine JC.region ?_
            refine JL.cons rfl (op_assign (ltB rfl) .cI) ?_
            refine JL.nil ?_
            refine JQ.then ?_
            refine JC.block ?_
            refine JC.pre ?_ (JC.loop (stf := fun s => ⟨[(0, .one (.val (S (rL (rU UInt8)) b_1))), (3, .one (.ptr 0 0)), (5, .one (.val (S (rI .i64) i_9))), (6, .one (.val (S (rI .i64) s.1)))], [.var (Vector Bool 32) (rV 32 rB) s.2], ()⟩) hx7 ?_)
            · exact (Imp.norm (n := 1) rfl (.cons rfl rfl (.cons rfl rfl (.cons rfl rfl (.cons rfl rfl .nil)))))
            · intro s x hx hr
              obtain ⟨k_12, x_13⟩ := s
              change ref02_Sum.b3 k b_1 i_9 k_12 x_13 = some x at hx
              unfold ref02_Sum.b3 at hx
              refine JC.at (M := HM.none) ⟨[(0, .one (.val (S (rL (rU UInt8)) b_1))), (3, .one (.ptr 0 0)), (5, .one (.val (S (rI .i64) i_9))), (6, .one (.val (S (rI .i64) k_12)))], [.var (Vector Bool 32) (rV 32 rB) x_13], ()⟩ ?_
              refine JC.seq ?_
              refine JC.seq ?_
              refine JC.region ?_
              refine JL.cons rfl (op_move (ltB rfl) (.tmp rfl)) ?_
              obtain ⟨v_14, hv_v_14, hx⟩ := lt1_inv hx
              refine JL.cons rfl (op_cmpI (ltB rfl) (.tmp rfl) .cI (congrArg some hv_v_14)) ?_
              refine JL.nil ?_
              refine JQ.then ?_
              rcases iteB_inv hx with ⟨hc9, hx⟩ | ⟨hc9, hx⟩
              · refine JC.condT (.tmp rfl) hc9 ?_
                refine JC.skip ?_
                refine JQ.then ?_
                refine JC.seq ?_
                refine JC.block ?_
                obtain ⟨v_15, hv_v_15, hx⟩ := bnd_inv hx
                obtain ⟨v_16, hv_v_16, hx⟩ := lt1_inv hx
                obtain ⟨v_17, hv_v_17, hx⟩ := lt1_inv hx
                obtain ⟨v_18, hv_v_18, hx⟩ := bnd_inv hx
                obtain ⟨v_19, hv_v_19, hx⟩ := lt1_inv hx
                obtain ⟨v_20, hv_v_20, hx⟩ := bnd_inv hx
                refine JC.anyL (base := [(0, .one (.val (S (rL (rU UInt8)) b_1))), (3, .one (.ptr 0 0)), (5, .one (.val (S (rI .i64) i_9))), (6, .one (.val (S (rI .i64) k_12)))])
                    (fs := [⟨some 25, .one (.val (A (rV 32 rB) x_13))⟩, ⟨some 26, .one (.val (S (rL (rU UInt8)) b_1))⟩, ⟨some 27, .one (.val (S (rI .i64) i_9))⟩, ⟨some 28, .one (.val (PT (rU UInt8) v_15))⟩, ⟨some 29, .one (.val (S (rU UInt8) v_15))⟩, ⟨some 30, .one (.val (S (rI .i64) k_12))⟩, ⟨some 31, .one (.val (S (rU UInt64) v_16))⟩, ⟨some 32, .one (.val (S (rU UInt8) v_17))⟩, ⟨some 33, .one (.val (S (rU UInt8) v_18))⟩, ⟨some 34, .one (.val (S rB v_19))⟩, ⟨some 35, .one (.val (A (rV 32 rB) v_20))⟩])
                    (ds := [25, 26, 27, 28, 29, 30, 31, 32, 33, 34, 35]) (bs := [0, 3, 5, 6]) mixed (.cons rfl (.cons rfl (.cons rfl (.cons rfl .nil))))
                    (.cons rfl (FStep.go (fun ρ hb hd => .none) (fun ρ hb hd => op_loadA (ltB rfl) tA40 (.tmp (hb 3 _ rfl)) rfl (Comp.self (rV 32 rB) x_13))) 
    (.cons rfl (FStep.go (fun ρ hb hd => .none) (fun ρ hb hd => op_move (ltB rfl) (.tmp (hb 0 _ rfl)))) 
    (.cons rfl (FStep.go (fun ρ hb hd => .none) (fun ρ hb hd => op_move (ltB rfl) (.tmp (hb 5 _ rfl)))) 
    (.cons rfl (FStep.go (fun ρ hb hd => .none) (fun ρ hb hd => op_indexAddrLg (ltB rfl) tu23 tz5 (.tmp (hdl hd 1 26 rfl (by decide +kernel))) (.tmp (hdl hd 2 27 rfl (by decide +kernel))) hv_v_15)) 
    (.cons rfl (FStep.go (fun ρ hb hd => .none) (fun ρ hb hd => op_loadPS (ltB rfl) tS5 rfl (.tmp (hdl hd 3 28 rfl (by decide +kernel))))) 
    (.cons rfl (FStep.go (fun ρ hb hd => .none) (fun ρ hb hd => op_move (ltB rfl) (.tmp (hb 6 _ rfl)))) 
    (.cons rfl (FStep.go (fun ρ hb hd => .none) (fun ρ hb hd => op_convIU (ltB rfl) tu3 tu36 (.tmp (hdl hd 5 30 rfl (by decide +kernel))) hv_v_16)) 
    (.cons rfl (FStep.go (fun ρ hb hd => .none) (fun ρ hb hd => op_shrUU (ltB rfl) (.tmp (hdl hd 4 29 rfl (by decide +kernel))) (.tmp (hdl hd 6 31 rfl (by decide +kernel))) hv_v_17)) 
    (.cons rfl (FStep.go (fun ρ hb hd => .none) (fun ρ hb hd => op_arU (ltB rfl) (.tmp (hdl hd 7 32 rfl (by decide +kernel))) (HasO.cU (x := (2 : UInt8)) rfl (by decide)) hv_v_18)) 
    (.cons rfl (FStep.go (fun ρ hb hd => .none) (fun ρ hb hd => op_cmpU (ltB rfl) (.tmp (hdl hd 8 33 rfl (by decide +kernel))) (HasO.cU (x := (1 : UInt8)) rfl (by decide)) (congrArg some hv_v_19))) 
    (.cons rfl (FStep.go (fun ρ hb hd => .none) (fun ρ hb hd => op_call (ltB rfl) cl17 (sim_ref02_Bits_in k x_13 v_19 v_20 hv_v_20) (.cons (.tmp (hdl hd 0 25 rfl (by decide +kernel))) (.cons (.tmp (hdl hd 9 34 rfl (by decide +kernel))) .nil)))) .nil)))))))))))
                    (by decide +kernel) rfl (by decide +kernel) rfl rfl rfl (by decide) (by decide) (fun ρ hb hd => ⟨_, op_storeA tA40 (.tmp (hb 3 _ rfl)) (.tmp (hdq hd 10 35 rfl)) rfl (Upd.self (rV 32 rB) x_13 _), ?_⟩)
                refine JQ.pre (Imp.norm (n := 1) rfl (ρ' := [(0, .one (.val (S (rL (rU UInt8)) b_1))), (3, .one (.ptr 0 0)), (5, .one (.val (S (rI .i64) i_9))), (6, .one (.val (S (rI .i64) k_12)))]) (.cons (hb 0 _ rfl) rfl (.cons (hb 3 _ rfl) rfl (.cons (hb 5 _ rfl) rfl (.cons (hb 6 _ rfl) rfl .nil))))) ?_
                refine JQ.at (M := HM.none) ⟨[(0, .one (.val (S (rL (rU UInt8)) b_1))), (3, .one (.ptr 0 0)), (5, .one (.val (S (rI .i64) i_9))), (6, .one (.val (S (rI .i64) k_12)))], [.var (Vector Bool 32) (rV 32 rB) v_20], ()⟩ ?_
                refine JQ.outNB ?_
                refine JQ.then ?_
                refine JC.region ?_
                refine JL.cons rfl (op_move (ltB rfl) (.tmp rfl)) ?_
                obtain ⟨v_21, hv_v_21, hx⟩ := lt1_inv hx
                refine JL.cons rfl (op_arI (ltB rfl) (.tmp rfl) .cI (congrArg some hv_v_21)) ?_
                refine JL.cons rfl (op_assign (ltB rfl) (.tmp rfl)) ?_
                refine JL.nil ?_
                replace hx := Option.some.inj hx
                subst hx
                exact JQ.next rfl (Imp.norm (n := 1) rfl (.cons rfl rfl (.cons rfl rfl (.cons rfl rfl (.cons rfl rfl .nil)))))
              · refine JC.condF (.tmp rfl) hc9 ?_
                refine JC.exit ?_
                refine JQ.outX ?_
                replace hx := Option.some.inj hx
                subst hx
                have ht := hr _ rfl
                have hq8 := congrArg some ht
                clear hr ht
                refine JQ.outX ?_
                refine JQ.here ?_
                refine JQ.outNB ?_
                replace hq8 := Option.some.inj hq8
                subst hq8
                exact JQ.join (Imp.norm (n := 1) rfl (.cons rfl rfl (.cons rfl rfl (.cons rfl rfl .nil))))
        · refine JC.condF (.tmp rfl) hc6 ?_
          refine JC.exit ?_
          refine JQ.outX ?_
          replace hx := Option.some.inj hx
          subst hx
          have ht := hr _ rfl
          have hq5 := congrArg some ht
          clear hr ht
          refine JQ.outX ?_
          refine JQ.here ?_
          replace hq5 := Option.some.inj hq5
          subst hq5
          exact JQ.join (Imp.norm (n := 1) rfl (.cons rfl rfl .nil))
  · refine JC.seq ?_
    refine JC.region ?_
    refine JL.cons rfl (op_assign (ltB rfl) .cI) ?_
    refine JL.nil ?_
    refine JQ.then ?_
    refine JC.block ?_
    refine JC.pre ?_ (JC.loop (stf := fun s => ⟨[(0, .one (.val (S (rL (rU UInt8)) b_1))), (3, .one (.ptr 0 0)), (4, .one (.val (S (rI .i64) s.1)))], [.var (Vector Bool 32) (rV 32 rB) s.2], ()⟩) hx1 ?_)
    · exact (Imp.norm (n := 1) rfl (.cons rfl rfl (.cons rfl rfl (.cons rfl rfl .nil))))
    · intro s x hx hr
      obtain ⟨i_2, x_3⟩ := s
      change ref02_Sum.b1 k i_2 x_3 = some x at hx
      unfold ref02_Sum.b1 at hx
      refine JC.at (M := HM.none) ⟨[(0, .one (.val (S (rL (rU UInt8)) b_1))), (3, .one (.ptr 0 0)), (4, .one (.val (S (rI .i64) i_2)))], [.var (Vector Bool 32) (rV 32 rB) x_3], ()⟩ ?_
      refine JC.seq ?_
      refine JC.seq ?_
      refine JC.region ?_
      refine JL.cons rfl (op_move (ltB rfl) (.tmp rfl)) ?_
      obtain ⟨v_4, hv_v_4, hx⟩ := lt1_inv hx
      refine JL.cons rfl (op_cmpI (ltB rfl) (.tmp rfl) .cI (congrArg some hv_v_4)) ?_
      refine JL.nil ?_
      refine JQ.then ?_
      rcases iteB_inv hx with ⟨hc3, hx⟩ | ⟨hc3, hx⟩
      · refine JC.condT (.tmp rfl) hc3 ?_
        refine JC.skip ?_
        refine JQ.then ?_
        refine JC.seq ?_
        refine JC.block ?_
        refine JC.region ?_
        refine JL.cons rfl (op_move (ltB rfl) (.tmp rfl)) ?_
        obtain ⟨i_5, hv_i_5, hx⟩ := bnd_inv hx
        refine JL.cons rfl (op_indexAddrIF (ltB rfl) tr40 (.tmp rfl) (.tmp rfl) hv_i_5) ?_
        obtain ⟨x_6, hv_x_6, hx⟩ := lt1_inv hx
        refine JL.cons rfl (op_storeSg tS4 (.tmp rfl) .cB rfl rfl (Upd.at (Comp.self (rV 32 rB) x_3) i_5.2 rfl (Upd.self (rV 32 rB) x_3 _)) hv_x_6) ?_
        refine JL.nil ?_
        refine JQ.outNB ?_
        refine JQ.then ?_
        refine JC.region ?_
        refine JL.cons rfl (op_move (ltB rfl) (.tmp rfl)) ?_
        refine JL.pre (Imp.norm (n := 1) (ρ' := [(0, .one (.val (S (rL (rU UInt8)) b_1))), (3, .one (.ptr 0 0)), (4, .one (.val (S (rI .i64) i_2))), (11, .one (.val (S (rI .i64) i_2)))]) (X' := [.var (Vector Bool 32) (rV 32 rB) x_6]) rfl (.cons rfl rfl (.cons rfl rfl (.cons rfl rfl (.cons rfl rfl .nil))))) ?_
        refine JL.at (M := HM.none) ⟨[(0, .one (.val (S (rL (rU UInt8)) b_1))), (3, .one (.ptr 0 0)), (4, .one (.val (S (rI .i64) i_2))), (11, .one (.val (S (rI .i64) i_2)))], [.var (Vector Bool 32) (rV 32 rB) x_6], ()⟩ ?_
        obtain ⟨v_7, hv_v_7, hx⟩ := lt1_inv hx
        refine JL.cons rfl (op_arI (ltB rfl) (.tmp rfl) .cI (congrArg some hv_v_7)) ?_
        refine JL.cons rfl (op_assign (ltB rfl) (.tmp rfl)) ?_
        refine JL.nil ?_
        replace hx := Option.some.inj hx
        subst hx
        exact JQ.next rfl (Imp.norm (n := 1) rfl (.cons rfl rfl (.cons rfl rfl (.cons rfl rfl .nil))))
      · refine JC.condF (.tmp rfl) hc3 ?_
        refine JC.exit ?_
        refine JQ.outX ?_
        replace hx := Option.some.inj hx
        subst hx
        have ht := hr _ rfl
        have hq2 := congrArg some ht
        clear hr ht
        refine JQ.outX ?_
        refine JQ.here ?_
        replace hq2 := Option.some.inj hq2
        subst hq2
        exact JQ.join (Imp.norm (n := 1) rfl (.cons rfl rfl (.cons rfl rfl .nil)))

end Go.Proofs.Ytlkofkegbkkhbaa
