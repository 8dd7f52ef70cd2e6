/- The walk of one function. -/
import Derived.Test.YtlkofkegbkkhbaaT
import Derived.Test.YtlkofkegbkkhbaaW8
import Derived.Test.YtlkofkegbkkhbaaW10
import Derived.Test.YtlkofkegbkkhbaaW13
import Derived.Test.YtlkofkegbkkhbaaW14
import Derived.Test.YtlkofkegbkkhbaaW15
namespace Go.Proofs.Ytlkofkegbkkhbaa
open Go Fw
set_option linter.unusedVariables false
set_option maxRecDepth 100000
set_option maxHeartbeats 4000000

theorem sim_law02_FramesOpen (k : Nat) (t_1 : (List UInt8)) (r : Bool) (hm : law02_FramesOpen k t_1 = some r) : Sim Try.prog 4 [S (rL (rU UInt8)) t_1] [] (.one (.val (S rB r))) := by
  unfold law02_FramesOpen at hm
  refine Sim.of Try.func4 rfl rfl (Nat.le_of_ble_eq_true rfl) (fun e0 w0 => ?_)
  refine JC.at (M := HM.none) ⟨[(0, .one (.val (S (rL (rU UInt8)) t_1)))], [], ()⟩ ?_
  refine JC.seq ?_
  refine JC.region ?_
  refine JL.cons rfl (op_assign (ltB rfl) .cB) ?_
  refine JL.nil ?_
  refine JQ.then ?_
  refine JC.seq ?_
  refine JC.seq ?_
  refine JC.region ?_
  refine JL.cons rfl (op_move (ltB rfl) (.tmp rfl)) ?_
  refine JL.cons rfl (op_lenL (ltB rfl) tu23 (.tmp rfl)) ?_
  obtain ⟨v_2, hv_v_2, hm⟩ := lt1_inv hm
  refine JL.cons rfl (op_cmpI (ltB rfl) (.tmp rfl) .cI (congrArg some hv_v_2)) ?_
  refine JL.nil ?_
  refine JQ.then ?_
  rcases iteB_inv hm with ⟨hc1, hm⟩ | ⟨hc1, hm⟩
  · refine JC.condT (.tmp rfl) hc1 ?_
    refine JC.seq ?_
    refine JC.region ?_
    obtain ⟨v_3, hv_v_3, hm⟩ := bnd_inv hm
    refine JL.cons rfl (op_call (ltB rfl) cl8 (sim_law02_known k v_3 hv_v_3) .nil) ?_
    refine JL.cons rfl (op_assign (ltB rfl) (.tmp rfl)) ?_
    refine JL.nil ?_
    refine JQ.then ?_
    refine JC.ret ?_
    refine JQ.outR ?_
    replace hm := Option.some.inj hm
    subst hm
    exact JQ.doneV (ss := [.val (S rB v_3)]) (.inl rfl) rfl rfl (.cons (.tmp rfl) .nil) rfl
  · refine JC.condF (.tmp rfl) hc1 ?_
    refine JC.skip ?_
    refine JQ.then ?_
    refine JC.seq ?_
    refine JC.region ?_
    refine JL.cons rfl (op_move (ltB rfl) (.tmp rfl)) ?_
    refine JL.cons rfl (op_convBS (ltB rfl) tu23 tu5 tu9 (.tmp rfl)) ?_
    refine JL.pre (Imp.norm (n := 0) (ρ' := [(0, .one (.val (S (rL (rU UInt8)) t_1))), (14, .one (.val (S rS t_1)))]) (X' := []) rfl (.cons rfl rfl (.cons rfl rfl .nil))) ?_
    refine JL.at (M := HM.none) ⟨[(0, .one (.val (S (rL (rU UInt8)) t_1))), (14, .one (.val (S rS t_1)))], [], ()⟩ ?_
    refine JL.cons rfl (op_assign (ltB rfl) (.tmp rfl)) ?_
    refine JL.nil ?_
    refine JQ.then ?_
    refine JC.seq ?_
    refine JC.region ?_
    refine JL.cons rfl (op_move (ltB rfl) (.tmp rfl)) ?_
    obtain ⟨⟨v_4, v_5⟩, hv_v_4, hm⟩ := bnd_inv hm
    refine JL.cons rfl (op_call (ltB rfl) cl14 (sim_crc_Open k t_1 (v_4, v_5) hv_v_4) (.cons (.tmp rfl) .nil)) ?_
    refine JL.pre (Imp.norm (n := 1) (ρ' := [(0, .one (.val (S (rL (rU UInt8)) t_1))), (3, .one (.val (S rS t_1))), (17, .tup [.own 0, .val (S rB v_5)])]) (X' := [.own UInt8 (rU UInt8) v_4 0]) rfl (.cons rfl rfl (.cons rfl rfl (.cons rfl rfl .nil)))) ?_
    refine JL.at (M := HM.none) ⟨[(0, .one (.val (S (rL (rU UInt8)) t_1))), (3, .one (.val (S rS t_1))), (17, .tup [.own 0, .val (S rB v_5)])], [.own UInt8 (rU UInt8) v_4 0], ()⟩ ?_
    refine JL.cons rfl (op_move (ltB rfl) (.tmp rfl)) ?_
    refine JL.cons rfl (op_extract (i := 0) (ltB rfl) (.tmp rfl) rfl) ?_
    refine JL.cons rfl (op_extract (i := 1) (ltB rfl) (.tmp rfl) rfl) ?_
    refine JL.cons rfl (op_assign (ltB rfl) (.tmp rfl)) ?_
    refine JL.cons rfl (op_assign (ltB rfl) (.tmp rfl)) ?_
    refine JL.nil ?_
    refine JQ.then ?_
    refine JC.seq ?_
    refine JC.region ?_
    refine JL.cons rfl (op_move (ltB rfl) (.tmp rfl)) ?_
    refine JL.pre (Imp.norm (n := 1) (ρ' := [(0, .one (.val (S (rL (rU UInt8)) t_1))), (3, .one (.val (S rS t_1))), (4, .one (.own 0)), (5, .one (.val (S rB v_5))), (21, .one (.val (S (rL (rU UInt8)) t_1)))]) (X' := [.own UInt8 (rU UInt8) v_4 0]) rfl (.cons rfl rfl (.cons rfl rfl (.cons rfl rfl (.cons rfl rfl (.cons rfl rfl .nil)))))) ?_
    refine JL.at (M := HM.none) ⟨[(0, .one (.val (S (rL (rU UInt8)) t_1))), (3, .one (.val (S rS t_1))), (4, .one (.own 0)), (5, .one (.val (S rB v_5))), (21, .one (.val (S (rL (rU UInt8)) t_1)))], [.own UInt8 (rU UInt8) v_4 0], ()⟩ ?_
    obtain ⟨⟨v_6, v_7⟩, hv_v_6, hm⟩ := bnd_inv hm
    refine JL.cons rfl (op_call (ltB rfl) cl15 (sim_ref02_Open k t_1 (v_6, v_7) hv_v_6) (.cons (.tmp rfl) .nil)) ?_
    refine JL.cons rfl (op_move (ltB rfl) (.tmp rfl)) ?_
    refine JL.cons rfl (op_extract (i := 0) (ltB rfl) (.tmp rfl) rfl) ?_
    refine JL.cons rfl (op_extract (i := 1) (ltB rfl) (.tmp rfl) rfl) ?_
    refine JL.cons rfl (op_assign (ltB rfl) (.tmp rfl)) ?_
    refine JL.cons rfl (op_assign (ltB rfl) (.tmp rfl)) ?_
    refine JL.nil ?_
    refine JQ.then ?_
    refine JC.seq ?_
    obtain ⟨v_16, hx2, hq2⟩ := bnd_inv hm
    refine JC.seqJ (stj := ⟨[(0, .one (.val (S (rL (rU UInt8)) t_1))), (3, .one (.val (S rS t_1))), (4, .one (.own 0)), (48, .one (.val (S rB v_16)))], [.own UInt8 (rU UInt8) v_4 0], ()⟩) ?_ ?_
    · rcases iteB_inv hq2 with ⟨hc6, hq2⟩ | ⟨hc6, hq2⟩
      · refine JC.condT (.tmp rfl) hc6 ?_
        refine JC.seq ?_
        refine JC.region ?_
        refine JL.cons rfl (op_assign (ltB rfl) .cB) ?_
        refine JL.nil ?_
        refine JQ.then ?_
        refine JC.ret ?_
        refine JQ.outR ?_
        replace hq2 := Option.some.inj hq2
        subst hq2
        exact JQ.doneV (ss := [.val (S rB false)]) (.inl rfl) rfl rfl (.cons (.tmp rfl) .nil) rfl
      · refine JC.condF (.tmp rfl) hc6 ?_
        refine JC.skip ?_
        refine JQ.then ?_
        obtain ⟨_u, hx7, hq7⟩ := bnd_inv hq2
        refine JC.seqJ (stj := ⟨[(0, .one (.val (S (rL (rU UInt8)) t_1))), (3, .one (.val (S rS t_1)))], [], ()⟩) ?_ ?_
        · obtain ⟨v_28, hx10, hq10⟩ := bnd_inv hq7
          refine JC.seqJ (stj := ⟨[(2, .one (.val (S rB v_28)))], [], ()⟩) ?_ ?_
          · refine JC.ret ?_
            replace hq10 := Option.some.inj hq10
            subst hq10
            exact JQ.doneV (ss := [.val (S rB v_28)]) (.inl rfl) rfl rfl (.cons (.tmp rfl) .nil) rfl
          · refine JC.region ?_
            refine JL.cons rfl (op_move (ltB rfl) (.tmp rfl)) ?_
            refine JL.cons rfl (op_convBS (ltB rfl) tu23 tu5 tu9 (.tmp rfl)) ?_
            refine JL.cons rfl (op_move (ltB rfl) (.tmp rfl)) ?_
            obtain ⟨v_26, hv_v_26, hx10⟩ := lt1_inv hx10
            refine JL.cons rfl (op_cmpS (ltB rfl) (.tmp rfl) (.tmp rfl) (congrArg some hv_v_26)) ?_
            refine JL.cons rfl (op_move (ltB rfl) (.tmp rfl)) ?_
            rcases iteB_inv hx10 with ⟨hc11, hx10⟩ | ⟨hc11, hx10⟩
            · obtain ⟨v_27, hv_v_27, hx10⟩ := bnd_inv hx10
              refine JL.run (.yes rfl (ltB rfl) rfl hc11) (op_call (ltB rfl) cl8 (sim_law02_known k v_27 hv_v_27) .nil) ?_
              refine JL.pre (Imp.norm (n := 0) (ρ' := [(67, .one (.val (S rB v_26))), (68, .one (.val (S rB v_27)))]) (X' := []) rfl (.cons rfl rfl (.cons rfl rfl .nil))) ?_
              refine JL.at (M := HM.none) ⟨[(67, .one (.val (S rB v_26))), (68, .one (.val (S rB v_27)))], [], ()⟩ ?_
              refine JL.cons rfl (op_pickT (ltB rfl) (.tmp rfl) hc11 (.tmp rfl)) ?_
              refine JL.cons rfl (op_assign (ltB rfl) (.tmp rfl)) ?_
              refine JL.nil ?_
              replace hx10 := Option.some.inj hx10
              subst hx10
              exact JQ.join (Imp.norm (n := 0) rfl (.cons rfl rfl .nil))
            · refine JL.skip (.no rfl (ltB rfl) rfl hc11) (fun d h => by cases h; exact ltB rfl) ?_
              refine JL.cons rfl (op_pickF (ltB rfl) (.tmp rfl) hc11 .cB) ?_
              refine JL.pre (Imp.norm (n := 0) (ρ' := [(69, .one (.val (S rB false)))]) (X' := []) rfl (.cons rfl rfl .nil)) ?_
              refine JL.at (M := HM.none) ⟨[(69, .one (.val (S rB false)))], [], ()⟩ ?_
              refine JL.cons rfl (op_assign (ltB rfl) (.tmp rfl)) ?_
              refine JL.nil ?_
              replace hx10 := Option.some.inj hx10
              subst hx10
              exact JQ.join (Imp.norm (n := 0) rfl (.cons rfl rfl .nil))
        · refine JC.seq ?_
          refine JC.region ?_
          refine JL.cons rfl (op_assign (ltB rfl) .cI) ?_
          refine JL.nil ?_
          refine JQ.then ?_
          refine JC.block ?_
          refine JC.pre ?_ (JC.loop (stf := fun s => ⟨[(0, .one (.val (S (rL (rU UInt8)) t_1))), (3, .one (.val (S rS t_1))), (4, .one (.own 0)), (8, .one (.val (S (rI .i64) s.1)))], [.own UInt8 (rU UInt8) s.2 0], ()⟩) hx7 ?_)
          · exact (Imp.norm (n := 1) rfl (.cons rfl rfl (.cons rfl rfl (.cons rfl rfl (.cons rfl rfl .nil)))))
          · intro s x hx hr
            obtain ⟨v_17, x_18⟩ := s
            change law02_FramesOpen.b1 k v_17 x_18 = some x at hx
            unfold law02_FramesOpen.b1 at hx
            refine JC.at (M := HM.none) ⟨[(0, .one (.val (S (rL (rU UInt8)) t_1))), (3, .one (.val (S rS t_1))), (4, .one (.own 0)), (8, .one (.val (S (rI .i64) v_17)))], [.own UInt8 (rU UInt8) x_18 0], ()⟩ ?_
            refine JC.seq ?_
            refine JC.seq ?_
            refine JC.region ?_
            refine JL.cons rfl (op_move (ltB rfl) (.tmp rfl)) ?_
            refine JL.cons rfl (op_move (ltB rfl) (.tmp rfl)) ?_
            refine JL.cons rfl (op_lenO (ltB rfl) tu23 rfl (.tmp rfl)) ?_
            obtain ⟨v_19, hv_v_19, hx⟩ := lt1_inv hx
            refine JL.cons rfl (op_cmpI (ltB rfl) (.tmp rfl) (.tmp rfl) (congrArg some hv_v_19)) ?_
            refine JL.nil ?_
            refine JQ.then ?_
            rcases iteB_inv hx with ⟨hc9, hx⟩ | ⟨hc9, hx⟩
            · refine JC.condT (.tmp rfl) hc9 ?_
              refine JC.skip ?_
              refine JQ.then ?_
              refine JC.seq ?_
              refine JC.block ?_
              refine JC.region ?_
              refine JL.cons rfl (op_move (ltB rfl) (.tmp rfl)) ?_
              refine JL.cons rfl (op_move (ltB rfl) (.tmp rfl)) ?_
              refine JL.pre (Imp.norm (n := 1) (ρ' := [(0, .one (.val (S (rL (rU UInt8)) t_1))), (3, .one (.val (S rS t_1))), (4, .one (.own 0)), (8, .one (.val (S (rI .i64) v_17))), (55, .one (.own 0)), (56, .one (.val (S (rI .i64) v_17)))]) (X' := [.own UInt8 (rU UInt8) x_18 0]) rfl (.cons rfl rfl (.cons rfl rfl (.cons rfl rfl (.cons rfl rfl (.cons rfl rfl (.cons rfl rfl .nil))))))) ?_
              refine JL.at (M := HM.none) ⟨[(0, .one (.val (S (rL (rU UInt8)) t_1))), (3, .one (.val (S rS t_1))), (4, .one (.own 0)), (8, .one (.val (S (rI .i64) v_17))), (55, .one (.own 0)), (56, .one (.val (S (rI .i64) v_17)))], [.own UInt8 (rU UInt8) x_18 0], ()⟩ ?_
              refine JL.cons rfl (op_move (ltB rfl) (.tmp rfl)) ?_
              refine JL.cons rfl (op_move (ltB rfl) (.tmp rfl)) ?_
              obtain ⟨i_20, hv_i_20, hx⟩ := bnd_inv hx
              refine JL.cons rfl (op_indexAddrOF (ltB rfl) tu23 tz5 rfl (.tmp rfl) (.tmp rfl) hv_i_20) ?_
              obtain ⟨v_21, hv_v_21, hx⟩ := bnd_inv hx
              refine JL.cons rfl (op_loadOSg (r := (rU UInt8)) (ltB rfl) tS5 rfl rfl (.tmp rfl) hv_v_21) ?_
              obtain ⟨v_22, hv_v_22, hx⟩ := lt1_inv hx
              refine JL.cons rfl (op_arU (ltB rfl) (.tmp rfl) (HasO.cU (x := (1 : UInt8)) rfl (by decide)) (congrArg some hv_v_22)) ?_
              obtain ⟨i_23, hv_i_23, hx⟩ := bnd_inv hx
              refine JL.cons rfl (op_indexAddrOF (ltB rfl) tu23 tz5 rfl (.tmp rfl) (.tmp rfl) hv_i_23) ?_
              refine JL.pre (Imp.norm (n := 1) (ρ' := [(0, .one (.val (S (rL (rU UInt8)) t_1))), (3, .one (.val (S rS t_1))), (4, .one (.own 0)), (8, .one (.val (S (rI .i64) v_17))), (61, .one (.val (S (rU UInt8) v_22))), (62, .one (.ptr 0 (i_23 * 1)))]) (X' := [.own UInt8 (rU UInt8) x_18 0]) rfl (.cons rfl rfl (.cons rfl rfl (.cons rfl rfl (.cons rfl rfl (.cons rfl rfl (.cons rfl rfl .nil))))))) ?_
              refine JL.at (M := HM.none) ⟨[(0, .one (.val (S (rL (rU UInt8)) t_1))), (3, .one (.val (S rS t_1))), (4, .one (.own 0)), (8, .one (.val (S (rI .i64) v_17))), (61, .one (.val (S (rU UInt8) v_22))), (62, .one (.ptr 0 (i_23 * 1)))], [.own UInt8 (rU UInt8) x_18 0], ()⟩ ?_
              obtain ⟨x_24, hv_x_24, hx⟩ := bnd_inv hx
              refine JL.cons rfl (op_storeOSg (r := (rU UInt8)) tS5 rfl rfl (.tmp rfl) (.tmp rfl) hv_x_24) ?_
              refine JL.nil ?_
              refine JQ.outNB ?_
              refine JQ.then ?_
              refine JC.region ?_
              refine JL.cons rfl (op_move (ltB rfl) (.tmp rfl)) ?_
              obtain ⟨v_25, hv_v_25, hx⟩ := lt1_inv hx
              refine JL.cons rfl (op_arI (ltB rfl) (.tmp rfl) .cI (congrArg some hv_v_25)) ?_
              refine JL.cons rfl (op_assign (ltB rfl) (.tmp rfl)) ?_
              refine JL.nil ?_
              replace hx := Option.some.inj hx
              subst hx
              exact JQ.next rfl (Imp.norm (n := 1) rfl (.cons rfl rfl (.cons rfl rfl (.cons rfl rfl (.cons rfl rfl .nil)))))
            · refine JC.condF (.tmp rfl) hc9 ?_
              refine JC.exit ?_
              refine JQ.outX ?_
              replace hx := Option.some.inj hx
              subst hx
              have ht := hr _ rfl
              have hq8 := congrArg some ht
              clear hr ht
              refine JQ.outX ?_
              refine JQ.here ?_
              exact JQ.join (Imp.norm (n := 0) rfl (.cons rfl rfl (.cons rfl rfl .nil)))
    · refine JC.region ?_
      refine JL.cons rfl (op_move (ltB rfl) (.tmp rfl)) ?_
      refine JL.pre (Imp.norm (n := 1) (ρ' := [(0, .one (.val (S (rL (rU UInt8)) t_1))), (3, .one (.val (S rS t_1))), (4, .one (.own 0)), (5, .one (.val (S rB v_5))), (6, .one (.val (S (rL (rU UInt8)) v_6))), (7, .one (.val (S rB v_7))), (25, .one (.val (S rB v_5)))]) (X' := [.own UInt8 (rU UInt8) v_4 0]) rfl (.cons rfl rfl (.cons rfl rfl (.cons rfl rfl (.cons rfl rfl (.cons rfl rfl (.cons rfl rfl (.cons rfl rfl .nil)))))))) ?_
      refine JL.at (M := HM.none) ⟨[(0, .one (.val (S (rL (rU UInt8)) t_1))), (3, .one (.val (S rS t_1))), (4, .one (.own 0)), (5, .one (.val (S rB v_5))), (6, .one (.val (S (rL (rU UInt8)) v_6))), (7, .one (.val (S rB v_7))), (25, .one (.val (S rB v_5)))], [.own UInt8 (rU UInt8) v_4 0], ()⟩ ?_
      refine JL.cons rfl (op_move (ltB rfl) (.tmp rfl)) ?_
      obtain ⟨v_8, hv_v_8, hx2⟩ := lt1_inv hx2
      refine JL.cons rfl (op_neB (ltB rfl) tu4 (.tmp rfl) (.tmp rfl) hv_v_8) ?_
      refine JL.cons rfl (op_move (ltB rfl) (.tmp rfl)) ?_
      rcases iteB_inv hx2 with ⟨hc3, hx2⟩ | ⟨hc3, hx2⟩
      · refine JL.skip (.no rfl (ltB rfl) rfl hc3) (fun d h => by cases h; exact ltB rfl) ?_
        refine JL.skip (.no rfl (ltB rfl) rfl hc3) (fun d h => by cases h; exact ltB rfl) ?_
        refine JL.skip (.no rfl (ltB rfl) rfl hc3) (fun d h => by cases h; exact ltB rfl) ?_
        refine JL.skip (.no rfl (ltB rfl) rfl hc3) (fun d h => by cases h; exact ltB rfl) ?_
        refine JL.skip (.no rfl (ltB rfl) rfl hc3) (fun d h => by cases h; exact ltB rfl) ?_
        refine JL.cons rfl (op_pickT (ltB rfl) (.tmp rfl) hc3 .cB) ?_
        refine JL.cons rfl (op_move (ltB rfl) (.tmp rfl)) ?_
        refine JL.skip (.no rfl (ltB rfl) rfl rfl) (fun d h => by cases h; exact ltB rfl) ?_
        refine JL.skip (.no rfl (ltB rfl) rfl rfl) (fun d h => by cases h; exact ltB rfl) ?_
        refine JL.skip (.no rfl (ltB rfl) rfl rfl) (fun d h => by cases h; exact ltB rfl) ?_
        refine JL.skip (.no rfl (ltB rfl) rfl rfl) (fun d h => by cases h; exact ltB rfl) ?_
        refine JL.skip (.no rfl (ltB rfl) rfl rfl) (fun d h => by cases h; exact ltB rfl) ?_
        refine JL.skip (.und rfl (ltB rfl) rfl) (fun d h => by cases h; exact ltB rfl) ?_
        refine JL.skip (.und rfl (ltB rfl) rfl) (fun d h => by cases h; exact ltB rfl) ?_
        refine JL.skip (.und rfl (ltB rfl) rfl) (fun d h => by cases h; exact ltB rfl) ?_
        refine JL.skip (.und rfl (ltB rfl) rfl) (fun d h => by cases h; exact ltB rfl) ?_
        refine JL.skip (.und rfl (ltB rfl) rfl) (fun d h => by cases h; exact ltB rfl) ?_
        refine JL.skip (.no rfl (ltB rfl) rfl rfl) (fun d h => by cases h; exact ltB rfl) ?_
        refine JL.skip (.no rfl (ltB rfl) rfl rfl) (fun d h => by cases h; exact ltB rfl) ?_
        refine JL.cons rfl (op_pickT (ltB rfl) (.tmp rfl) rfl .cB) ?_
        refine JL.nil ?_
        replace hx2 := Option.some.inj hx2
        subst hx2
        exact JQ.join (Imp.norm (n := 1) rfl (.cons rfl rfl (.cons rfl rfl (.cons rfl rfl (.cons rfl rfl .nil)))))
      · refine JL.run (.yes rfl (ltB rfl) rfl hc3) (op_move (ltB rfl) (.tmp rfl)) ?_
        refine JL.run (.yes rfl (ltB rfl) rfl hc3) (op_convOS (ltB rfl) tu23 tu5 tu9 rfl (.tmp rfl)) ?_
        refine JL.run (.yes rfl (ltB rfl) rfl hc3) (op_move (ltB rfl) (.tmp rfl)) ?_
        refine JL.pre (Imp.norm (n := 1) (ρ' := [(0, .one (.val (S (rL (rU UInt8)) t_1))), (3, .one (.val (S rS t_1))), (4, .one (.own 0)), (5, .one (.val (S rB v_5))), (28, .one (.val (S rB v_8))), (30, .one (.val (S rS v_4))), (31, .one (.val (S (rL (rU UInt8)) v_6)))]) (X' := [.own UInt8 (rU UInt8) v_4 0]) rfl (.cons rfl rfl (.cons rfl rfl (.cons rfl rfl (.cons rfl rfl (.cons rfl rfl (.cons rfl rfl (.cons rfl rfl .nil)))))))) ?_
        refine JL.at (M := HM.none) ⟨[(0, .one (.val (S (rL (rU UInt8)) t_1))), (3, .one (.val (S rS t_1))), (4, .one (.own 0)), (5, .one (.val (S rB v_5))), (28, .one (.val (S rB v_8))), (30, .one (.val (S rS v_4))), (31, .one (.val (S (rL (rU UInt8)) v_6)))], [.own UInt8 (rU UInt8) v_4 0], ()⟩ ?_
        refine JL.run (.yes rfl (ltB rfl) rfl hc3) (op_convBS (ltB rfl) tu23 tu5 tu9 (.tmp rfl)) ?_
        obtain ⟨v_9, hv_v_9, hx2⟩ := lt1_inv hx2
        refine JL.run (.yes rfl (ltB rfl) rfl hc3) (op_cmpS (ltB rfl) (.tmp rfl) (.tmp rfl) (congrArg some hv_v_9)) ?_
        refine JL.cons rfl (op_pickF (ltB rfl) (.tmp rfl) hc3 (.tmp rfl)) ?_
        refine JL.cons rfl (op_move (ltB rfl) (.tmp rfl)) ?_
        rcases iteB_inv hx2 with ⟨hc4, hx2⟩ | ⟨hc4, hx2⟩
        · refine JL.skip (.no rfl (ltB rfl) rfl hc4) (fun d h => by cases h; exact ltB rfl) ?_
          refine JL.skip (.no rfl (ltB rfl) rfl hc4) (fun d h => by cases h; exact ltB rfl) ?_
          refine JL.skip (.no rfl (ltB rfl) rfl hc4) (fun d h => by cases h; exact ltB rfl) ?_
          refine JL.skip (.no rfl (ltB rfl) rfl hc4) (fun d h => by cases h; exact ltB rfl) ?_
          refine JL.skip (.no rfl (ltB rfl) rfl hc4) (fun d h => by cases h; exact ltB rfl) ?_
          refine JL.skip (.und rfl (ltB rfl) rfl) (fun d h => by cases h; exact ltB rfl) ?_
          refine JL.skip (.und rfl (ltB rfl) rfl) (fun d h => by cases h; exact ltB rfl) ?_
          refine JL.skip (.und rfl (ltB rfl) rfl) (fun d h => by cases h; exact ltB rfl) ?_
          refine JL.skip (.und rfl (ltB rfl) rfl) (fun d h => by cases h; exact ltB rfl) ?_
          refine JL.skip (.und rfl (ltB rfl) rfl) (fun d h => by cases h; exact ltB rfl) ?_
          refine JL.skip (.no rfl (ltB rfl) rfl hc4) (fun d h => by cases h; exact ltB rfl) ?_
          refine JL.skip (.no rfl (ltB rfl) rfl hc4) (fun d h => by cases h; exact ltB rfl) ?_
          refine JL.cons rfl (op_pickT (ltB rfl) (.tmp rfl) hc4 .cB) ?_
          refine JL.nil ?_
          replace hx2 := Option.some.inj hx2
          subst hx2
          exact JQ.join (Imp.norm (n := 1) rfl (.cons rfl rfl (.cons rfl rfl (.cons rfl rfl (.cons rfl rfl .nil)))))
        · refine JL.run (.yes rfl (ltB rfl) rfl hc4) (op_move (ltB rfl) (.tmp rfl)) ?_
          refine JL.run (.yes rfl (ltB rfl) rfl hc4) (op_move (ltB rfl) (.tmp rfl)) ?_
          refine JL.pre (Imp.norm (n := 1) (ρ' := [(0, .one (.val (S (rL (rU UInt8)) t_1))), (3, .one (.val (S rS t_1))), (4, .one (.own 0)), (35, .one (.val (S rB v_9))), (36, .one (.val (S rB v_5))), (37, .one (.val (S (rL (rU UInt8)) t_1)))]) (X' := [.own UInt8 (rU UInt8) v_4 0]) rfl (.cons rfl rfl (.cons rfl rfl (.cons rfl rfl (.cons rfl rfl (.cons rfl rfl (.cons rfl rfl .nil))))))) ?_
          refine JL.at (M := HM.none) ⟨[(0, .one (.val (S (rL (rU UInt8)) t_1))), (3, .one (.val (S rS t_1))), (4, .one (.own 0)), (35, .one (.val (S rB v_9))), (36, .one (.val (S rB v_5))), (37, .one (.val (S (rL (rU UInt8)) t_1)))], [.own UInt8 (rU UInt8) v_4 0], ()⟩ ?_
          refine JL.run (.yes rfl (ltB rfl) rfl hc4) (op_lenL (ltB rfl) tu23 (.tmp rfl)) ?_
          obtain ⟨v_10, hv_v_10, hx2⟩ := lt1_inv hx2
          refine JL.run (.yes rfl (ltB rfl) rfl hc4) (op_cmpI (ltB rfl) (.tmp rfl) .cI (congrArg some hv_v_10)) ?_
          refine JL.run (.yes rfl (ltB rfl) rfl hc4) (op_move (ltB rfl) (.tmp rfl)) ?_
          rcases iteB_inv hx2 with ⟨hc5, hx2⟩ | ⟨hc5, hx2⟩
          · refine JL.run (.yes rfl (ltB rfl) rfl hc5) (op_move (ltB rfl) (.tmp rfl)) ?_
            refine JL.run (.yes rfl (ltB rfl) rfl hc5) (op_buildF (r := (rL (rU UInt8))) (ltB rfl) tu22 tz23 tZ23 rfl (Nat.le_of_ble_eq_true rfl) (.S rfl (.tmp rfl) .nil) rfl) ?_
            obtain ⟨v_11, hv_v_11, hx2⟩ := bnd_inv hx2
            refine JL.run (.yes rfl (ltB rfl) rfl hc5) (op_call (ltB rfl) cl10 (sim_crc_Sum k ([t_1] : (List (List UInt8))) v_11 hv_v_11) (.cons (.tmp rfl) .nil)) ?_
            refine JL.pre (Imp.norm (n := 1) (ρ' := [(0, .one (.val (S (rL (rU UInt8)) t_1))), (3, .one (.val (S rS t_1))), (4, .one (.own 0)), (35, .one (.val (S rB v_9))), (36, .one (.val (S rB v_5))), (40, .one (.val (S rB v_10))), (43, .one (.val (S (rU UInt32) v_11)))]) (X' := [.own UInt8 (rU UInt8) v_4 0]) rfl (.cons rfl rfl (.cons rfl rfl (.cons rfl rfl (.cons rfl rfl (.cons rfl rfl (.cons rfl rfl (.cons rfl rfl .nil)))))))) ?_
            refine JL.at (M := HM.none) ⟨[(0, .one (.val (S (rL (rU UInt8)) t_1))), (3, .one (.val (S rS t_1))), (4, .one (.own 0)), (35, .one (.val (S rB v_9))), (36, .one (.val (S rB v_5))), (40, .one (.val (S rB v_10))), (43, .one (.val (S (rU UInt32) v_11)))], [.own UInt8 (rU UInt8) v_4 0], ()⟩ ?_
            obtain ⟨v_12, hv_v_12, hx2⟩ := bnd_inv hx2
            refine JL.run (.yes rfl (ltB rfl) rfl hc5) (op_call (ltB rfl) cl13 (sim_crc_Residue k v_12 hv_v_12) .nil) ?_
            obtain ⟨v_13, hv_v_13, hx2⟩ := lt1_inv hx2
            refine JL.run (.yes rfl (ltB rfl) rfl hc5) (op_cmpU (ltB rfl) (.tmp rfl) (.tmp rfl) (congrArg some hv_v_13)) ?_
            refine JL.run (.yes rfl (ltB rfl) rfl hc4) (op_pickT (ltB rfl) (.tmp rfl) hc5 (.tmp rfl)) ?_
            obtain ⟨v_14, hv_v_14, hx2⟩ := lt1_inv hx2
            refine JL.run (.yes rfl (ltB rfl) rfl hc4) (op_neB (ltB rfl) tu4 (.tmp rfl) (.tmp rfl) hv_v_14) ?_
            refine JL.cons rfl (op_pickF (ltB rfl) (.tmp rfl) hc4 (.tmp rfl)) ?_
            refine JL.nil ?_
            replace hx2 := Option.some.inj hx2
            subst hx2
            exact JQ.join (Imp.norm (n := 1) rfl (.cons rfl rfl (.cons rfl rfl (.cons rfl rfl (.cons rfl rfl .nil)))))
          · refine JL.skip (.no rfl (ltB rfl) rfl hc5) (fun d h => by cases h; exact ltB rfl) ?_
            refine JL.skip (.no rfl (ltB rfl) rfl hc5) (fun d h => by cases h; exact ltB rfl) ?_
            refine JL.skip (.no rfl (ltB rfl) rfl hc5) (fun d h => by cases h; exact ltB rfl) ?_
            refine JL.skip (.no rfl (ltB rfl) rfl hc5) (fun d h => by cases h; exact ltB rfl) ?_
            refine JL.skip (.no rfl (ltB rfl) rfl hc5) (fun d h => by cases h; exact ltB rfl) ?_
            refine JL.run (.yes rfl (ltB rfl) rfl hc4) (op_pickF (ltB rfl) (.tmp rfl) hc5 .cB) ?_
            obtain ⟨v_15, hv_v_15, hx2⟩ := lt1_inv hx2
            refine JL.run (.yes rfl (ltB rfl) rfl hc4) (op_neB (ltB rfl) tu4 (.tmp rfl) (.tmp rfl) hv_v_15) ?_
            refine JL.cons rfl (op_pickF (ltB rfl) (.tmp rfl) hc4 (.tmp rfl)) ?_
            refine JL.nil ?_
            replace hx2 := Option.some.inj hx2
            subst hx2
            exact JQ.join (Imp.norm (n := 1) rfl (.cons rfl rfl (.cons rfl rfl (.cons rfl rfl (.cons rfl rfl .nil)))))

end Go.Proofs.Ytlkofkegbkkhbaa
