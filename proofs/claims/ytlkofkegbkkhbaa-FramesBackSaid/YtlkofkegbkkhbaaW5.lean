/- The walk of one function. -/
import Derived.Test.YtlkofkegbkkhbaaT
import Derived.Test.YtlkofkegbkkhbaaW8
import Derived.Test.YtlkofkegbkkhbaaW9
import Derived.Test.YtlkofkegbkkhbaaW14
namespace Go.Proofs.Ytlkofkegbkkhbaa
open Go Fw
set_option linter.unusedVariables false
set_option maxRecDepth 100000
set_option maxHeartbeats 4000000

theorem sim_law02_FramesBack (k : Nat) (b_1 : (List UInt8)) (times_2 : Int) (r : Bool) (hm : law02_FramesBack k b_1 times_2 = some r) : Sim Try.prog 5 [S (rL (rU UInt8)) b_1, S (rI .i64) times_2] [] (.one (.val (S rB r))) := by
  unfold law02_FramesBack at hm
  refine Sim.of Try.func5 rfl rfl (Nat.le_of_ble_eq_true rfl) (fun e0 w0 => ?_)
  refine JC.at (M := HM.none) ⟨[(0, .one (.val (S (rL (rU UInt8)) b_1))), (1, .one (.val (S (rI .i64) times_2)))], [], ()⟩ ?_
  refine JC.seq ?_
  refine JC.region ?_
  refine JL.cons rfl (op_assign (ltB rfl) .cB) ?_
  refine JL.nil ?_
  refine JQ.then ?_
  refine JC.seq ?_
  obtain ⟨v_6, hx1, hq1⟩ := bnd_inv hm
  refine JC.seqJ (stj := ⟨[(0, .one (.val (S (rL (rU UInt8)) b_1))), (1, .one (.val (S (rI .i64) times_2))), (20, .one (.val (S rB v_6)))], [], ()⟩) ?_ ?_
  · rcases iteB_inv hq1 with ⟨hc4, hq1⟩ | ⟨hc4, hq1⟩
    · refine JC.condT (.tmp rfl) hc4 ?_
      refine JC.seq ?_
      refine JC.region ?_
      obtain ⟨v_7, hv_v_7, hq1⟩ := bnd_inv hq1
      refine JL.cons rfl (op_call (ltB rfl) cl8 (sim_law02_known k v_7 hv_v_7) .nil) ?_
      refine JL.cons rfl (op_assign (ltB rfl) (.tmp rfl)) ?_
      refine JL.nil ?_
      refine JQ.then ?_
      refine JC.ret ?_
      refine JQ.outR ?_
      replace hq1 := Option.some.inj hq1
      subst hq1
      exact JQ.doneV (ss := [.val (S rB v_7)]) (.inl rfl) rfl rfl (.cons (.tmp rfl) .nil) rfl
    · refine JC.condF (.tmp rfl) hc4 ?_
      refine JC.skip ?_
      refine JQ.then ?_
      refine JC.seq ?_
      refine JC.region ?_
      refine JL.cons rfl (op_move (ltB rfl) (.tmp rfl)) ?_
      refine JL.cons rfl (op_assign (ltB rfl) (.tmp rfl)) ?_
      refine JL.nil ?_
      refine JQ.then ?_
      obtain ⟨x_13, hx5, hq5⟩ := bnd_inv hq1
      refine JC.seqJ (stj := ⟨[(0, .one (.val (S (rL (rU UInt8)) b_1))), (1, .one (.val (S (rI .i64) times_2))), (5, .one (.val (S (rL (rU UInt8)) x_13)))], [], ()⟩) ?_ ?_
      · refine JC.seq ?_
        refine JC.seq ?_
        refine JC.region ?_
        refine JL.cons rfl (op_move (ltB rfl) (.tmp rfl)) ?_
        refine JL.cons rfl (op_lenL (ltB rfl) tu23 (.tmp rfl)) ?_
        refine JL.cons rfl (op_move (ltB rfl) (.tmp rfl)) ?_
        refine JL.cons rfl (op_lenL (ltB rfl) tu23 (.tmp rfl)) ?_
        refine JL.cons rfl (op_move (ltB rfl) (.tmp rfl)) ?_
        obtain ⟨v_14, hv_v_14, hq5⟩ := lt1_inv hq5
        refine JL.cons rfl (op_arI (ltB rfl) .cI (.tmp rfl) (congrArg some hv_v_14)) ?_
        refine JL.pre (Imp.norm (n := 0) (ρ' := [(0, .one (.val (S (rL (rU UInt8)) b_1))), (1, .one (.val (S (rI .i64) times_2))), (5, .one (.val (S (rL (rU UInt8)) x_13))), (32, .one (.val (S (rI .i64) (List.length x_13 : Int)))), (34, .one (.val (S (rI .i64) (List.length b_1 : Int)))), (36, .one (.val (S (rI .i64) v_14)))]) (X' := []) rfl (.cons rfl rfl (.cons rfl rfl (.cons rfl rfl (.cons rfl rfl (.cons rfl rfl (.cons rfl rfl .nil))))))) ?_
        refine JL.at (M := HM.none) ⟨[(0, .one (.val (S (rL (rU UInt8)) b_1))), (1, .one (.val (S (rI .i64) times_2))), (5, .one (.val (S (rL (rU UInt8)) x_13))), (32, .one (.val (S (rI .i64) (List.length x_13 : Int)))), (34, .one (.val (S (rI .i64) (List.length b_1 : Int)))), (36, .one (.val (S (rI .i64) v_14)))], [], ()⟩ ?_
        obtain ⟨v_15, hv_v_15, hq5⟩ := lt1_inv hq5
        refine JL.cons rfl (op_arI (ltB rfl) (.tmp rfl) (.tmp rfl) (congrArg some hv_v_15)) ?_
        obtain ⟨v_16, hv_v_16, hq5⟩ := lt1_inv hq5
        refine JL.cons rfl (op_cmpI (ltB rfl) (.tmp rfl) (.tmp rfl) (congrArg some hv_v_16)) ?_
        refine JL.nil ?_
        refine JQ.then ?_
        rcases iteB_inv hq5 with ⟨hc8, hq5⟩ | ⟨hc8, hq5⟩
        · refine JC.condT (.tmp rfl) hc8 ?_
          refine JC.seq ?_
          refine JC.region ?_
          refine JL.cons rfl (op_assign (ltB rfl) .cB) ?_
          refine JL.nil ?_
          refine JQ.then ?_
          refine JC.ret ?_
          refine JQ.outR ?_
          replace hq5 := Option.some.inj hq5
          subst hq5
          exact JQ.doneV (ss := [.val (S rB false)]) (.inl rfl) rfl rfl (.cons (.tmp rfl) .nil) rfl
        · refine JC.condF (.tmp rfl) hc8 ?_
          refine JC.skip ?_
          refine JQ.then ?_
          obtain ⟨tv9, hx9, hq9⟩ := bnd_inv hq5
          refine JC.seqK (α := (List UInt8)) (stj := fun v => ⟨[(0, .one (.val (S (rL (rU UInt8)) b_1))), (5, .one (.val (S (rL (rU UInt8)) v)))], [], ()⟩) (p := fun v => tv9 = (.inl v)) (fun v hv => ?_) ?_
          · subst hv
            obtain ⟨x_25, hvv⟩ : ∃ z, z = v := ⟨_, rfl⟩
            subst hvv
            dsimp only at hq9
            refine JC.at (M := HM.none) ⟨[(0, .one (.val (S (rL (rU UInt8)) b_1))), (5, .one (.val (S (rL (rU UInt8)) x_25)))], [], ()⟩ ?_
            obtain ⟨v_28, hx13, hq13⟩ := bnd_inv hq9
            refine JC.seqJ (stj := ⟨[(4, .one (.val (S rB v_28)))], [], ()⟩) ?_ ?_
            · refine JC.ret ?_
              replace hq13 := Option.some.inj hq13
              subst hq13
              exact JQ.doneV (ss := [.val (S rB v_28)]) (.inl rfl) rfl rfl (.cons (.tmp rfl) .nil) rfl
            · refine JC.region ?_
              refine JL.cons rfl (op_move (ltB rfl) (.tmp rfl)) ?_
              refine JL.cons rfl (op_convBS (ltB rfl) tu23 tu5 tu9 (.tmp rfl)) ?_
              refine JL.cons rfl (op_move (ltB rfl) (.tmp rfl)) ?_
              refine JL.cons rfl (op_convBS (ltB rfl) tu23 tu5 tu9 (.tmp rfl)) ?_
              obtain ⟨v_26, hv_v_26, hx13⟩ := lt1_inv hx13
              refine JL.cons rfl (op_cmpS (ltB rfl) (.tmp rfl) (.tmp rfl) (congrArg some hv_v_26)) ?_
              refine JL.cons rfl (op_move (ltB rfl) (.tmp rfl)) ?_
              refine JL.pre (Imp.norm (n := 0) (ρ' := [(57, .one (.val (S rB v_26)))]) (X' := []) rfl (.cons rfl rfl .nil)) ?_
              refine JL.at (M := HM.none) ⟨[(57, .one (.val (S rB v_26)))], [], ()⟩ ?_
              rcases iteB_inv hx13 with ⟨hc14, hx13⟩ | ⟨hc14, hx13⟩
              · obtain ⟨v_27, hv_v_27, hx13⟩ := bnd_inv hx13
                refine JL.run (.yes rfl (ltB rfl) rfl hc14) (op_call (ltB rfl) cl8 (sim_law02_known k v_27 hv_v_27) .nil) ?_
                refine JL.cons rfl (op_pickT (ltB rfl) (.tmp rfl) hc14 (.tmp rfl)) ?_
                refine JL.cons rfl (op_assign (ltB rfl) (.tmp rfl)) ?_
                refine JL.nil ?_
                replace hx13 := Option.some.inj hx13
                subst hx13
                exact JQ.join (Imp.norm (n := 0) rfl (.cons rfl rfl .nil))
              · refine JL.skip (.no rfl (ltB rfl) rfl hc14) (fun d h => by cases h; exact ltB rfl) ?_
                refine JL.cons rfl (op_pickF (ltB rfl) (.tmp rfl) hc14 .cB) ?_
                refine JL.cons rfl (op_assign (ltB rfl) (.tmp rfl)) ?_
                refine JL.nil ?_
                replace hx13 := Option.some.inj hx13
                subst hx13
                exact JQ.join (Imp.norm (n := 0) rfl (.cons rfl rfl .nil))
          · refine JC.seq ?_
            refine JC.region ?_
            refine JL.cons rfl (op_assign (ltB rfl) .cI) ?_
            refine JL.nil ?_
            refine JQ.then ?_
            refine JC.block ?_
            obtain ⟨tv10, hL10, hq10⟩ := bnd_inv hx9
            refine JC.pre ?_ (JC.loop (stf := fun s => ⟨[(0, .one (.val (S (rL (rU UInt8)) b_1))), (1, .one (.val (S (rI .i64) times_2))), (5, .one (.val (S (rL (rU UInt8)) s.1))), (7, .one (.val (S (rI .i64) s.2)))], [], ()⟩) hL10 ?_)
            · exact (Imp.norm (n := 0) rfl (.cons rfl rfl (.cons rfl rfl (.cons rfl rfl (.cons rfl rfl .nil)))))
            · intro s x hx hr
              obtain ⟨x_17, i_18⟩ := s
              change law02_FramesBack.b2 k times_2 x_17 i_18 = some x at hx
              unfold law02_FramesBack.b2 at hx
              refine JC.at (M := HM.none) ⟨[(0, .one (.val (S (rL (rU UInt8)) b_1))), (1, .one (.val (S (rI .i64) times_2))), (5, .one (.val (S (rL (rU UInt8)) x_17))), (7, .one (.val (S (rI .i64) i_18)))], [], ()⟩ ?_
              refine JC.seq ?_
              refine JC.seq ?_
              refine JC.region ?_
              refine JL.cons rfl (op_move (ltB rfl) (.tmp rfl)) ?_
              refine JL.cons rfl (op_move (ltB rfl) (.tmp rfl)) ?_
              obtain ⟨v_19, hv_v_19, hx⟩ := lt1_inv hx
              refine JL.cons rfl (op_cmpI (ltB rfl) (.tmp rfl) (.tmp rfl) (congrArg some hv_v_19)) ?_
              refine JL.nil ?_
              refine JQ.then ?_
              rcases iteB_inv hx with ⟨hc11, hx⟩ | ⟨hc11, hx⟩
              · refine JC.condT (.tmp rfl) hc11 ?_
                refine JC.skip ?_
                refine JQ.then ?_
                refine JC.seq ?_
                refine JC.block ?_
                refine JC.seq ?_
                refine JC.region ?_
                refine JL.cons rfl (op_move (ltB rfl) (.tmp rfl)) ?_
                obtain ⟨⟨v_20, v_21⟩, hv_v_20, hx⟩ := bnd_inv hx
                refine JL.cons rfl (op_call (ltB rfl) cl14 (sim_crc_Open k x_17 (v_20, v_21) hv_v_20) (.cons (.tmp rfl) .nil)) ?_
                refine JL.pre (Imp.norm (n := 1) (ρ' := [(0, .one (.val (S (rL (rU UInt8)) b_1))), (1, .one (.val (S (rI .i64) times_2))), (7, .one (.val (S (rI .i64) i_18))), (46, .tup [.own 0, .val (S rB v_21)])]) (X' := [.own UInt8 (rU UInt8) v_20 0]) rfl (.cons rfl rfl (.cons rfl rfl (.cons rfl rfl (.cons rfl rfl .nil))))) ?_
                refine JL.at (M := HM.none) ⟨[(0, .one (.val (S (rL (rU UInt8)) b_1))), (1, .one (.val (S (rI .i64) times_2))), (7, .one (.val (S (rI .i64) i_18))), (46, .tup [.own 0, .val (S rB v_21)])], [.own UInt8 (rU UInt8) v_20 0], ()⟩ ?_
                refine JL.cons rfl (op_move (ltB rfl) (.tmp rfl)) ?_
                refine JL.cons rfl (op_extract (i := 0) (ltB rfl) (.tmp rfl) rfl) ?_
                refine JL.cons rfl (op_extract (i := 1) (ltB rfl) (.tmp rfl) rfl) ?_
                refine JL.cons rfl (op_assign (ltB rfl) (.tmp rfl)) ?_
                refine JL.cons rfl (op_assign (ltB rfl) (.tmp rfl)) ?_
                refine JL.nil ?_
                refine JQ.then ?_
                refine JC.seq ?_
                refine JC.seq ?_
                refine JC.region ?_
                refine JL.cons rfl (op_move (ltB rfl) (.tmp rfl)) ?_
                refine JL.pre (Imp.norm (n := 1) (ρ' := [(0, .one (.val (S (rL (rU UInt8)) b_1))), (1, .one (.val (S (rI .i64) times_2))), (7, .one (.val (S (rI .i64) i_18))), (8, .one (.own 0)), (49, .one (.val (S rB v_21)))]) (X' := [.own UInt8 (rU UInt8) v_20 0]) rfl (.cons rfl rfl (.cons rfl rfl (.cons rfl rfl (.cons rfl rfl (.cons rfl rfl .nil)))))) ?_
                refine JL.at (M := HM.none) ⟨[(0, .one (.val (S (rL (rU UInt8)) b_1))), (1, .one (.val (S (rI .i64) times_2))), (7, .one (.val (S (rI .i64) i_18))), (8, .one (.own 0)), (49, .one (.val (S rB v_21)))], [.own UInt8 (rU UInt8) v_20 0], ()⟩ ?_
                obtain ⟨v_22, hv_v_22, hx⟩ := lt1_inv hx
                refine JL.cons rfl (op_not (ltB rfl) (.tmp rfl) hv_v_22) ?_
                refine JL.nil ?_
                refine JQ.then ?_
                rcases iteB_inv hx with ⟨hc12, hx⟩ | ⟨hc12, hx⟩
                · refine JC.condT (.tmp rfl) hc12 ?_
                  refine JC.seq ?_
                  refine JC.region ?_
                  refine JL.cons rfl (op_assign (ltB rfl) .cB) ?_
                  refine JL.nil ?_
                  refine JQ.then ?_
                  refine JC.ret ?_
                  refine JQ.outR ?_
                  refine JQ.outRB ?_
                  refine JQ.outR ?_
                  replace hx := Option.some.inj hx
                  subst hx
                  have ht := hr _ rfl
                  clear hr
                  subst ht
                  dsimp only at hq10
                  refine JQ.outR ?_
                  refine JQ.outRB ?_
                  replace hq10 := Option.some.inj hq10
                  subst hq10
                  dsimp only at hq9
                  refine JQ.outR ?_
                  replace hq9 := Option.some.inj hq9
                  subst hq9
                  exact JQ.doneV (ss := [.val (S rB false)]) (.inl rfl) rfl rfl (.cons (.tmp rfl) .nil) rfl
                · refine JC.condF (.tmp rfl) hc12 ?_
                  refine JC.skip ?_
                  refine JQ.then ?_
                  refine JC.region ?_
                  refine JL.cons rfl (op_move (ltB rfl) (.tmp rfl)) ?_
                  refine JL.cons rfl (op_assign (ltB rfl) (.tmp rfl)) ?_
                  refine JL.nil ?_
                  refine JQ.outNB ?_
                  refine JQ.then ?_
                  refine JC.region ?_
                  refine JL.cons rfl (op_move (ltB rfl) (.tmp rfl)) ?_
                  obtain ⟨v_23, hv_v_23, hx⟩ := lt1_inv hx
                  refine JL.cons rfl (op_arI (ltB rfl) (.tmp rfl) .cI (congrArg some hv_v_23)) ?_
                  refine JL.cons rfl (op_assign (ltB rfl) (.tmp rfl)) ?_
                  refine JL.nil ?_
                  replace hx := Option.some.inj hx
                  subst hx
                  refine JQ.pre (Imp.freeze (s := 5) rfl rfl) ?_
                  exact JQ.next rfl (Imp.norm (n := 0) rfl (.cons rfl rfl (.cons rfl rfl (.cons rfl rfl (.cons rfl rfl .nil)))))
              · refine JC.condF (.tmp rfl) hc11 ?_
                refine JC.exit ?_
                refine JQ.outX ?_
                replace hx := Option.some.inj hx
                subst hx
                have ht := hr _ rfl
                clear hr
                subst ht
                dsimp only at hq10
                refine JQ.outX ?_
                refine JQ.here ?_
                replace hq10 := Option.some.inj hq10
                subst hq10
                exact JQ.joinK x_17 rfl (Imp.norm (n := 0) rfl (.cons rfl rfl (.cons rfl rfl .nil)))
      · refine JC.seq ?_
        refine JC.region ?_
        refine JL.cons rfl (op_assign (ltB rfl) .cI) ?_
        refine JL.nil ?_
        refine JQ.then ?_
        refine JC.block ?_
        refine JC.pre ?_ (JC.loop (stf := fun s => ⟨[(0, .one (.val (S (rL (rU UInt8)) b_1))), (1, .one (.val (S (rI .i64) times_2))), (5, .one (.val (S (rL (rU UInt8)) s.1))), (6, .one (.val (S (rI .i64) s.2)))], [], ()⟩) hx5 ?_)
        · exact (Imp.norm (n := 0) rfl (.cons rfl rfl (.cons rfl rfl (.cons rfl rfl (.cons rfl rfl .nil)))))
        · intro s x hx hr
          obtain ⟨x_8, i_9⟩ := s
          change law02_FramesBack.b1 k times_2 x_8 i_9 = some x at hx
          unfold law02_FramesBack.b1 at hx
          refine JC.at (M := HM.none) ⟨[(0, .one (.val (S (rL (rU UInt8)) b_1))), (1, .one (.val (S (rI .i64) times_2))), (5, .one (.val (S (rL (rU UInt8)) x_8))), (6, .one (.val (S (rI .i64) i_9)))], [], ()⟩ ?_
          refine JC.seq ?_
          refine JC.seq ?_
          refine JC.region ?_
          refine JL.cons rfl (op_move (ltB rfl) (.tmp rfl)) ?_
          refine JL.cons rfl (op_move (ltB rfl) (.tmp rfl)) ?_
          obtain ⟨v_10, hv_v_10, hx⟩ := lt1_inv hx
          refine JL.cons rfl (op_cmpI (ltB rfl) (.tmp rfl) (.tmp rfl) (congrArg some hv_v_10)) ?_
          refine JL.nil ?_
          refine JQ.then ?_
          rcases iteB_inv hx with ⟨hc7, hx⟩ | ⟨hc7, hx⟩
          · refine JC.condT (.tmp rfl) hc7 ?_
            refine JC.skip ?_
            refine JQ.then ?_
            refine JC.seq ?_
            refine JC.block ?_
            refine JC.region ?_
            refine JL.cons rfl (op_move (ltB rfl) (.tmp rfl)) ?_
            refine JL.cons rfl (op_buildF (r := (rL (rU UInt8))) (ltB rfl) tu22 tz23 tZ23 rfl (Nat.le_of_ble_eq_true rfl) (.S rfl (.tmp rfl) .nil) rfl) ?_
            obtain ⟨v_11, hv_v_11, hx⟩ := bnd_inv hx
            refine JL.cons rfl (op_call (ltB rfl) cl9 (sim_crc_Close k ([x_8] : (List (List UInt8))) v_11 hv_v_11) (.cons (.tmp rfl) .nil)) ?_
            refine JL.pre (Imp.norm (n := 1) (ρ' := [(0, .one (.val (S (rL (rU UInt8)) b_1))), (1, .one (.val (S (rI .i64) times_2))), (5, .one (.val (S (rL (rU UInt8)) x_8))), (6, .one (.val (S (rI .i64) i_9))), (30, .one (.own 0))]) (X' := [.own UInt8 (rU UInt8) v_11 0]) rfl (.cons rfl rfl (.cons rfl rfl (.cons rfl rfl (.cons rfl rfl (.cons rfl rfl .nil)))))) ?_
            refine JL.at (M := HM.none) ⟨[(0, .one (.val (S (rL (rU UInt8)) b_1))), (1, .one (.val (S (rI .i64) times_2))), (5, .one (.val (S (rL (rU UInt8)) x_8))), (6, .one (.val (S (rI .i64) i_9))), (30, .one (.own 0))], [.own UInt8 (rU UInt8) v_11 0], ()⟩ ?_
            refine JL.cons rfl (op_assign (ltB rfl) (.tmp rfl)) ?_
            refine JL.nil ?_
            refine JQ.outNB ?_
            refine JQ.then ?_
            refine JC.region ?_
            refine JL.cons rfl (op_move (ltB rfl) (.tmp rfl)) ?_
            obtain ⟨v_12, hv_v_12, hx⟩ := lt1_inv hx
            refine JL.cons rfl (op_arI (ltB rfl) (.tmp rfl) .cI (congrArg some hv_v_12)) ?_
            refine JL.cons rfl (op_assign (ltB rfl) (.tmp rfl)) ?_
            refine JL.nil ?_
            replace hx := Option.some.inj hx
            subst hx
            refine JQ.pre (Imp.freeze (s := 5) rfl rfl) ?_
            exact JQ.next rfl (Imp.norm (n := 0) rfl (.cons rfl rfl (.cons rfl rfl (.cons rfl rfl (.cons rfl rfl .nil)))))
          · refine JC.condF (.tmp rfl) hc7 ?_
            refine JC.exit ?_
            refine JQ.outX ?_
            replace hx := Option.some.inj hx
            subst hx
            have ht := hr _ rfl
            have hq6 := congrArg some ht
            clear hr ht
            refine JQ.outX ?_
            refine JQ.here ?_
            replace hq6 := Option.some.inj hq6
            subst hq6
            exact JQ.join (Imp.norm (n := 0) rfl (.cons rfl rfl (.cons rfl rfl (.cons rfl rfl .nil))))
  · refine JC.region ?_
    refine JL.cons rfl (op_move (ltB rfl) (.tmp rfl)) ?_
    refine JL.cons rfl (op_lenL (ltB rfl) tu23 (.tmp rfl)) ?_
    obtain ⟨v_3, hv_v_3, hx1⟩ := lt1_inv hx1
    refine JL.cons rfl (op_cmpI (ltB rfl) (.tmp rfl) .cI (congrArg some hv_v_3)) ?_
    refine JL.cons rfl (op_move (ltB rfl) (.tmp rfl)) ?_
    rcases iteB_inv hx1 with ⟨hc2, hx1⟩ | ⟨hc2, hx1⟩
    · refine JL.skip (.no rfl (ltB rfl) rfl hc2) (fun d h => by cases h; exact ltB rfl) ?_
      refine JL.skip (.no rfl (ltB rfl) rfl hc2) (fun d h => by cases h; exact ltB rfl) ?_
      refine JL.cons rfl (op_pickT (ltB rfl) (.tmp rfl) hc2 .cB) ?_
      refine JL.pre (Imp.norm (n := 0) (ρ' := [(0, .one (.val (S (rL (rU UInt8)) b_1))), (1, .one (.val (S (rI .i64) times_2))), (16, .one (.val (S rB true)))]) (X' := []) rfl (.cons rfl rfl (.cons rfl rfl (.cons rfl rfl .nil)))) ?_
      refine JL.at (M := HM.none) ⟨[(0, .one (.val (S (rL (rU UInt8)) b_1))), (1, .one (.val (S (rI .i64) times_2))), (16, .one (.val (S rB true)))], [], ()⟩ ?_
      refine JL.cons rfl (op_move (ltB rfl) (.tmp rfl)) ?_
      refine JL.skip (.no rfl (ltB rfl) rfl rfl) (fun d h => by cases h; exact ltB rfl) ?_
      refine JL.skip (.no rfl (ltB rfl) rfl rfl) (fun d h => by cases h; exact ltB rfl) ?_
      refine JL.cons rfl (op_pickT (ltB rfl) (.tmp rfl) rfl .cB) ?_
      refine JL.nil ?_
      replace hx1 := Option.some.inj hx1
      subst hx1
      exact JQ.join (Imp.norm (n := 0) rfl (.cons rfl rfl (.cons rfl rfl (.cons rfl rfl .nil))))
    · refine JL.run (.yes rfl (ltB rfl) rfl hc2) (op_move (ltB rfl) (.tmp rfl)) ?_
      refine JL.pre (Imp.norm (n := 0) (ρ' := [(0, .one (.val (S (rL (rU UInt8)) b_1))), (1, .one (.val (S (rI .i64) times_2))), (13, .one (.val (S rB v_3))), (14, .one (.val (S (rI .i64) times_2)))]) (X' := []) rfl (.cons rfl rfl (.cons rfl rfl (.cons rfl rfl (.cons rfl rfl .nil))))) ?_
      refine JL.at (M := HM.none) ⟨[(0, .one (.val (S (rL (rU UInt8)) b_1))), (1, .one (.val (S (rI .i64) times_2))), (13, .one (.val (S rB v_3))), (14, .one (.val (S (rI .i64) times_2)))], [], ()⟩ ?_
      obtain ⟨v_4, hv_v_4, hx1⟩ := lt1_inv hx1
      refine JL.run (.yes rfl (ltB rfl) rfl hc2) (op_cmpI (ltB rfl) (.tmp rfl) .cI (congrArg some hv_v_4)) ?_
      refine JL.cons rfl (op_pickF (ltB rfl) (.tmp rfl) hc2 (.tmp rfl)) ?_
      refine JL.cons rfl (op_move (ltB rfl) (.tmp rfl)) ?_
      rcases iteB_inv hx1 with ⟨hc3, hx1⟩ | ⟨hc3, hx1⟩
      · refine JL.skip (.no rfl (ltB rfl) rfl hc3) (fun d h => by cases h; exact ltB rfl) ?_
        refine JL.skip (.no rfl (ltB rfl) rfl hc3) (fun d h => by cases h; exact ltB rfl) ?_
        refine JL.cons rfl (op_pickT (ltB rfl) (.tmp rfl) hc3 .cB) ?_
        refine JL.nil ?_
        replace hx1 := Option.some.inj hx1
        subst hx1
        exact JQ.join (Imp.norm (n := 0) rfl (.cons rfl rfl (.cons rfl rfl (.cons rfl rfl .nil))))
      · refine JL.run (.yes rfl (ltB rfl) rfl hc3) (op_move (ltB rfl) (.tmp rfl)) ?_
        obtain ⟨v_5, hv_v_5, hx1⟩ := lt1_inv hx1
        refine JL.run (.yes rfl (ltB rfl) rfl hc3) (op_cmpI (ltB rfl) (.tmp rfl) .cI (congrArg some hv_v_5)) ?_
        refine JL.cons rfl (op_pickF (ltB rfl) (.tmp rfl) hc3 (.tmp rfl)) ?_
        refine JL.nil ?_
        replace hx1 := Option.some.inj hx1
        subst hx1
        exact JQ.join (Imp.norm (n := 0) rfl (.cons rfl rfl (.cons rfl rfl (.cons rfl rfl .nil))))

end Go.Proofs.Ytlkofkegbkkhbaa
