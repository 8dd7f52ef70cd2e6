/- The walk of one function. -/
import Derived.Test.YtlkofkegbkkhbaaT
namespace Go.Proofs.Ytlkofkegbkkhbaa
open Go Fw
set_option linter.unusedVariables false
set_option maxRecDepth 100000
set_option maxHeartbeats 4000000

theorem sim_crc_fours (k : Nat) (r : (Vector UInt32 16)) (hm : crc_fours k = some r) : Sim Try.prog 18 [] [] (.one (.val (A (rV 16 (rU UInt32)) r))) := by
  unfold crc_fours at hm
  refine Sim.of Try.func18 rfl rfl (Nat.le_of_ble_eq_true rfl) (fun e0 w0 => ?_)
  refine JC.at (M := HM.none) ⟨[], [], ()⟩ ?_
  refine JC.seq ?_
  refine JC.region ?_
  refine JL.cons rfl (op_alloc (ltB rfl) tZ42 zr42) ?_
  refine JL.nil ?_
  refine JQ.then ?_
  obtain ⟨f_19, hx1, hq1⟩ := bnd_inv hm
  refine JC.seqJ (stj := ⟨[(0, .one (.ptr 0 0))], [.var (Vector UInt32 16) (rV 16 (rU UInt32)) f_19], ()⟩) ?_ ?_
  · refine JC.seq ?_
    refine JC.region ?_
    refine JL.cons rfl (op_loadA (ltB rfl) tA42 (.tmp rfl) rfl (Comp.self (rV 16 (rU UInt32)) f_19)) ?_
    refine JL.cons rfl (op_storeA tA42 (.tmp rfl) (.tmp rfl) rfl (Upd.self (rV 16 (rU UInt32)) f_19 _)) ?_
    refine JL.nil ?_
    refine JQ.then ?_
    refine JC.ret ?_
    replace hq1 := Option.some.inj hq1
    subst hq1
    exact JQ.doneV (ss := [.val (A (rV 16 (rU UInt32)) f_19)]) (.inl rfl) rfl rfl (.cons (.cellA tA42 rfl rfl) .nil) rfl
  · refine JC.seq ?_
    refine JC.region ?_
    refine JL.cons rfl (op_move (ltB rfl) (HasO.cU (x := (0 : UInt32)) rfl (by decide))) ?_
    refine JL.nil ?_
    refine JQ.then ?_
    refine JC.block ?_
    refine JC.pre ?_ (JC.loop (stf := fun s => ⟨[(0, .one (.ptr 0 0)), (3, .one (.val (S (rU UInt32) s.1)))], [.var (Vector UInt32 16) (rV 16 (rU UInt32)) s.2], ()⟩) hx1 ?_)
    · exact (Imp.norm (n := 1) rfl (.cons rfl rfl (.cons rfl rfl .nil)))
    · intro s x hx hr
      obtain ⟨v_1, f_2⟩ := s
      change crc_fours.b1 k v_1 f_2 = some x at hx
      unfold crc_fours.b1 at hx
      refine JC.at (M := HM.none) ⟨[(0, .one (.ptr 0 0)), (3, .one (.val (S (rU UInt32) v_1)))], [.var (Vector UInt32 16) (rV 16 (rU UInt32)) f_2], ()⟩ ?_
      refine JC.seq ?_
      refine JC.region ?_
      obtain ⟨v_3, hv_v_3, hx⟩ := lt1_inv hx
      refine JL.cons rfl (op_cmpU (ltB rfl) (.tmp rfl) (HasO.cU (x := (16 : UInt32)) rfl (by decide)) (congrArg some hv_v_3)) ?_
      refine JL.nil ?_
      refine JQ.then ?_
      refine JC.seq ?_
      rcases iteB_inv hx with ⟨hc3, hx⟩ | ⟨hc3, hx⟩
      · refine JC.condT (.tmp rfl) hc3 ?_
        refine JC.skip ?_
        refine JQ.then ?_
        obtain ⟨f_17, hx4, hq4⟩ := bnd_inv hx
        refine JC.seqJ (stj := ⟨[(0, .one (.ptr 0 0)), (3, .one (.val (S (rU UInt32) v_1)))], [.var (Vector UInt32 16) (rV 16 (rU UInt32)) f_17], ()⟩) ?_ ?_
        · refine JC.region ?_
          obtain ⟨v_18, hv_v_18, hq4⟩ := lt1_inv hq4
          refine JL.cons rfl (op_arU (ltB rfl) (.tmp rfl) (HasO.cU (x := (1 : UInt32)) rfl (by decide)) (congrArg some hv_v_18)) ?_
          refine JL.cons rfl (op_move (ltB rfl) (.tmp rfl)) ?_
          refine JL.nil ?_
          replace hq4 := Option.some.inj hq4
          subst hq4
          exact JQ.next rfl (Imp.norm (n := 1) rfl (.cons rfl rfl (.cons rfl rfl .nil)))
        · refine JC.block ?_
          refine JC.seq ?_
          refine JC.region ?_
          refine JL.cons rfl (op_move (ltB rfl) (.tmp rfl)) ?_
          refine JL.cons rfl (op_assign (ltB rfl) (.tmp rfl)) ?_
          refine JL.nil ?_
          refine JQ.then ?_
          refine JC.seq ?_
          refine JC.region ?_
          refine JL.cons rfl (op_move (ltB rfl) (.tmp rfl)) ?_
          refine JL.cons rfl (op_assign (ltB rfl) (.tmp rfl)) ?_
          refine JL.nil ?_
          refine JQ.then ?_
          obtain ⟨x_14, hx5, hq5⟩ := bnd_inv hx4
          refine JC.seqJ (stj := ⟨[(0, .one (.ptr 0 0)), (1, .one (.val (S (rU UInt32) v_1))), (2, .one (.val (S (rU UInt32) x_14))), (3, .one (.val (S (rU UInt32) v_1)))], [.var (Vector UInt32 16) (rV 16 (rU UInt32)) f_2], ()⟩) ?_ ?_
          · refine JC.region ?_
            refine JL.cons rfl (op_move (ltB rfl) (.tmp rfl)) ?_
            refine JL.cons rfl (op_move (ltB rfl) (.tmp rfl)) ?_
            obtain ⟨i_15, hv_i_15, hq5⟩ := bnd_inv hq5
            refine JL.cons rfl (op_indexAddrUF (ltB rfl) tr42 (.tmp rfl) (.tmp rfl) hv_i_15) ?_
            obtain ⟨f_16, hv_f_16, hq5⟩ := lt1_inv hq5
            refine JL.cons rfl (op_storeSg tS26 (.tmp rfl) (.tmp rfl) rfl rfl (Upd.at (Comp.self (rV 16 (rU UInt32)) f_2) i_15.2 rfl (Upd.self (rV 16 (rU UInt32)) f_2 _)) hv_f_16) ?_
            refine JL.nil ?_
            refine JQ.outNB ?_
            replace hq5 := Option.some.inj hq5
            subst hq5
            exact JQ.join (Imp.norm (n := 1) rfl (.cons rfl rfl (.cons rfl rfl .nil)))
          · refine JC.seq ?_
            refine JC.region ?_
            refine JL.cons rfl (op_move (ltB rfl) .cI) ?_
            refine JL.nil ?_
            refine JQ.then ?_
            refine JC.block ?_
            refine JC.pre ?_ (JC.loop (stf := fun s => ⟨[(0, .one (.ptr 0 0)), (1, .one (.val (S (rU UInt32) v_1))), (2, .one (.val (S (rU UInt32) s.1))), (3, .one (.val (S (rU UInt32) v_1))), (7, .one (.val (S (rI .i64) s.2)))], [.var (Vector UInt32 16) (rV 16 (rU UInt32)) f_2], ()⟩) hx5 ?_)
            · exact (Imp.norm (n := 1) rfl (.cons rfl rfl (.cons rfl rfl (.cons rfl rfl (.cons rfl rfl (.cons rfl rfl .nil))))))
            · intro s x hx hr
              obtain ⟨x_4, v_5⟩ := s
              change crc_fours.b2 k x_4 v_5 = some x at hx
              unfold crc_fours.b2 at hx
              refine JC.at (M := HM.none) ⟨[(0, .one (.ptr 0 0)), (1, .one (.val (S (rU UInt32) v_1))), (2, .one (.val (S (rU UInt32) x_4))), (3, .one (.val (S (rU UInt32) v_1))), (7, .one (.val (S (rI .i64) v_5)))], [.var (Vector UInt32 16) (rV 16 (rU UInt32)) f_2], ()⟩ ?_
              refine JC.seq ?_
              refine JC.region ?_
              obtain ⟨v_6, hv_v_6, hx⟩ := lt1_inv hx
              refine JL.cons rfl (op_cmpI (ltB rfl) (.tmp rfl) .cI (congrArg some hv_v_6)) ?_
              refine JL.nil ?_
              refine JQ.then ?_
              refine JC.seq ?_
              rcases iteB_inv hx with ⟨hc7, hx⟩ | ⟨hc7, hx⟩
              · refine JC.condT (.tmp rfl) hc7 ?_
                refine JC.skip ?_
                refine JQ.then ?_
                obtain ⟨x_12, hx8, hq8⟩ := bnd_inv hx
                refine JC.seqJ (stj := ⟨[(0, .one (.ptr 0 0)), (1, .one (.val (S (rU UInt32) v_1))), (2, .one (.val (S (rU UInt32) x_12))), (3, .one (.val (S (rU UInt32) v_1))), (7, .one (.val (S (rI .i64) v_5)))], [.var (Vector UInt32 16) (rV 16 (rU UInt32)) f_2], ()⟩) ?_ ?_
                · refine JC.region ?_
                  obtain ⟨v_13, hv_v_13, hq8⟩ := lt1_inv hq8
                  refine JL.cons rfl (op_arI (ltB rfl) (.tmp rfl) .cI (congrArg some hv_v_13)) ?_
                  refine JL.cons rfl (op_move (ltB rfl) (.tmp rfl)) ?_
                  refine JL.nil ?_
                  replace hq8 := Option.some.inj hq8
                  subst hq8
                  exact JQ.next rfl (Imp.norm (n := 1) rfl (.cons rfl rfl (.cons rfl rfl (.cons rfl rfl (.cons rfl rfl (.cons rfl rfl .nil))))))
                · refine JC.block ?_
                  refine JC.seq ?_
                  refine JC.region ?_
                  refine JL.cons rfl (op_move (ltB rfl) (.tmp rfl)) ?_
                  obtain ⟨v_7, hv_v_7, hx8⟩ := lt1_inv hx8
                  refine JL.cons rfl (op_arU (ltB rfl) (.tmp rfl) (HasO.cU (x := (1 : UInt32)) rfl (by decide)) (congrArg some hv_v_7)) ?_
                  obtain ⟨v_8, hv_v_8, hx8⟩ := lt1_inv hx8
                  refine JL.cons rfl (op_cmpU (ltB rfl) (.tmp rfl) (HasO.cU (x := (1 : UInt32)) rfl (by decide)) (congrArg some hv_v_8)) ?_
                  refine JL.nil ?_
                  refine JQ.then ?_
                  rcases iteB_inv hx8 with ⟨hc9, hx8⟩ | ⟨hc9, hx8⟩
                  · refine JC.condT (.tmp rfl) hc9 ?_
                    refine JC.region ?_
                    refine JL.cons rfl (op_move (ltB rfl) (.tmp rfl)) ?_
                    obtain ⟨v_9, hv_v_9, hx8⟩ := lt1_inv hx8
                    refine JL.cons rfl (op_shrUU (ltB rfl) (.tmp rfl) (HasO.cU (x := (1 : UInt64)) rfl (by decide)) hv_v_9) ?_
                    refine JL.pre (Imp.norm (n := 1) (ρ' := [(0, .one (.ptr 0 0)), (1, .one (.val (S (rU UInt32) v_1))), (2, .one (.val (S (rU UInt32) x_4))), (3, .one (.val (S (rU UInt32) v_1))), (7, .one (.val (S (rI .i64) v_5))), (13, .one (.val (S (rU UInt32) v_9)))]) (X' := [.var (Vector UInt32 16) (rV 16 (rU UInt32)) f_2]) rfl (.cons rfl rfl (.cons rfl rfl (.cons rfl rfl (.cons rfl rfl (.cons rfl rfl (.cons rfl rfl .nil))))))) ?_
                    refine JL.at (M := HM.none) ⟨[(0, .one (.ptr 0 0)), (1, .one (.val (S (rU UInt32) v_1))), (2, .one (.val (S (rU UInt32) x_4))), (3, .one (.val (S (rU UInt32) v_1))), (7, .one (.val (S (rI .i64) v_5))), (13, .one (.val (S (rU UInt32) v_9)))], [.var (Vector UInt32 16) (rV 16 (rU UInt32)) f_2], ()⟩ ?_
                    obtain ⟨v_10, hv_v_10, hx8⟩ := lt1_inv hx8
                    refine JL.cons rfl (op_arU (ltB rfl) (.tmp rfl) (HasO.cU (x := (2197175160 : UInt32)) rfl (by decide)) (congrArg some hv_v_10)) ?_
                    refine JL.cons rfl (op_assign (ltB rfl) (.tmp rfl)) ?_
                    refine JL.nil ?_
                    refine JQ.outNB ?_
                    replace hx8 := Option.some.inj hx8
                    subst hx8
                    exact JQ.join (Imp.norm (n := 1) rfl (.cons rfl rfl (.cons rfl rfl (.cons rfl rfl (.cons rfl rfl (.cons rfl rfl .nil))))))
                  · refine JC.condF (.tmp rfl) hc9 ?_
                    refine JC.region ?_
                    refine JL.cons rfl (op_move (ltB rfl) (.tmp rfl)) ?_
                    obtain ⟨v_11, hv_v_11, hx8⟩ := lt1_inv hx8
                    refine JL.cons rfl (op_shrUU (ltB rfl) (.tmp rfl) (HasO.cU (x := (1 : UInt64)) rfl (by decide)) hv_v_11) ?_
                    refine JL.pre (Imp.norm (n := 1) (ρ' := [(0, .one (.ptr 0 0)), (1, .one (.val (S (rU UInt32) v_1))), (2, .one (.val (S (rU UInt32) x_4))), (3, .one (.val (S (rU UInt32) v_1))), (7, .one (.val (S (rI .i64) v_5))), (16, .one (.val (S (rU UInt32) v_11)))]) (X' := [.var (Vector UInt32 16) (rV 16 (rU UInt32)) f_2]) rfl (.cons rfl rfl (.cons rfl rfl (.cons rfl rfl (.cons rfl rfl (.cons rfl rfl (.cons rfl rfl .nil))))))) ?_
                    refine JL.at (M := HM.none) ⟨[(0, .one (.ptr 0 0)), (1, .one (.val (S (rU UInt32) v_1))), (2, .one (.val (S (rU UInt32) x_4))), (3, .one (.val (S (rU UInt32) v_1))), (7, .one (.val (S (rI .i64) v_5))), (16, .one (.val (S (rU UInt32) v_11)))], [.var (Vector UInt32 16) (rV 16 (rU UInt32)) f_2], ()⟩ ?_
                    refine JL.cons rfl (op_assign (ltB rfl) (.tmp rfl)) ?_
                    refine JL.nil ?_
                    refine JQ.outNB ?_
                    replace hx8 := Option.some.inj hx8
                    subst hx8
                    exact JQ.join (Imp.norm (n := 1) rfl (.cons rfl rfl (.cons rfl rfl (.cons rfl rfl (.cons rfl rfl (.cons rfl rfl .nil))))))
              · refine JC.condF (.tmp rfl) hc7 ?_
                refine JC.exit ?_
                refine JQ.outX ?_
                replace hx := Option.some.inj hx
                subst hx
                have ht := hr _ rfl
                have hq6 := congrArg some ht
                clear hr ht
                refine JQ.outX ?_
                refine JQ.here ?_
                replace hq6 := Option.some.inj hq6
                subst hq6
                exact JQ.join (Imp.norm (n := 1) rfl (.cons rfl rfl (.cons rfl rfl (.cons rfl rfl (.cons rfl rfl .nil)))))
      · refine JC.condF (.tmp rfl) hc3 ?_
        refine JC.exit ?_
        refine JQ.outX ?_
        replace hx := Option.some.inj hx
        subst hx
        have ht := hr _ rfl
        have hq2 := congrArg some ht
        clear hr ht
        refine JQ.outX ?_
        refine JQ.here ?_
        replace hq2 := Option.some.inj hq2
        subst hq2
        exact JQ.join (Imp.norm (n := 1) rfl (.cons rfl rfl .nil))

end Go.Proofs.Ytlkofkegbkkhbaa
