/- The walk of one function. -/
import Derived.Test.YtlkofkegbkkhbaaT
import Derived.Test.YtlkofkegbkkhbaaW8
import Derived.Test.YtlkofkegbkkhbaaW9
import Derived.Test.YtlkofkegbkkhbaaW14
import Derived.Test.YtlkofkegbkkhbaaW15
namespace Go.Proofs.Ytlkofkegbkkhbaa
open Go Fw
set_option linter.unusedVariables false
set_option maxRecDepth 100000
set_option maxHeartbeats 4000000

theorem sim_law02_FramesShort (k : Nat) (t_1 : (List UInt8)) (a_2 : Int) (r : Bool) (hm : law02_FramesShort k t_1 a_2 = some r) : Sim Try.prog 7 [S (rL (rU UInt8)) t_1, S (rI .i64) a_2] [] (.one (.val (S rB r))) := by
  unfold law02_FramesShort at hm
  refine Sim.of Try.func7 rfl rfl (Nat.le_of_ble_eq_true rfl) (fun e0 w0 => ?_)
  refine JC.at (M := HM.none) ⟨[(0, .one (.val (S (rL (rU UInt8)) t_1))), (1, .one (.val (S (rI .i64) a_2)))], [], ()⟩ ?_
  refine JC.seq ?_
  refine JC.region ?_
  refine JL.cons rfl (op_assign (ltB rfl) .cB) ?_
  refine JL.nil ?_
  refine JQ.then ?_
  refine JC.seq ?_
  refine JC.region ?_
  refine JL.cons rfl (op_move (ltB rfl) (.tmp rfl)) ?_
  refine JL.cons rfl (op_buildF (r := (rL (rU UInt8))) (ltB rfl) tu22 tz23 tZ23 rfl (Nat.le_of_ble_eq_true rfl) (.S rfl (.tmp rfl) .nil) rfl) ?_
  obtain ⟨v_3, hv_v_3, hm⟩ := bnd_inv hm
  refine JL.cons rfl (op_call (ltB rfl) cl9 (sim_crc_Close k ([t_1] : (List (List UInt8))) v_3 hv_v_3) (.cons (.tmp rfl) .nil)) ?_
  refine JL.pre (Imp.norm (n := 1) (ρ' := [(0, .one (.val (S (rL (rU UInt8)) t_1))), (1, .one (.val (S (rI .i64) a_2))), (18, .one (.own 0))]) (X' := [.own UInt8 (rU UInt8) v_3 0]) rfl (.cons rfl rfl (.cons rfl rfl (.cons rfl rfl .nil)))) ?_
  refine JL.at (M := HM.none) ⟨[(0, .one (.val (S (rL (rU UInt8)) t_1))), (1, .one (.val (S (rI .i64) a_2))), (18, .one (.own 0))], [.own UInt8 (rU UInt8) v_3 0], ()⟩ ?_
  refine JL.cons rfl (op_assign (ltB rfl) (.tmp rfl)) ?_
  refine JL.nil ?_
  refine JQ.then ?_
  refine JC.seq ?_
  obtain ⟨v_7, hx1, hq1⟩ := bnd_inv hm
  refine JC.seqJ (stj := ⟨[(1, .one (.val (S (rI .i64) a_2))), (5, .one (.own 0)), (31, .one (.val (S rB v_7)))], [.own UInt8 (rU UInt8) v_3 0], ()⟩) ?_ ?_
  · rcases iteB_inv hq1 with ⟨hc4, hq1⟩ | ⟨hc4, hq1⟩
    · refine JC.condT (.tmp rfl) hc4 ?_
      refine JC.seq ?_
      refine JC.region ?_
      obtain ⟨v_8, hv_v_8, hq1⟩ := bnd_inv hq1
      refine JL.cons rfl (op_call (ltB rfl) cl8 (sim_law02_known k v_8 hv_v_8) .nil) ?_
      refine JL.cons rfl (op_assign (ltB rfl) (.tmp rfl)) ?_
      refine JL.nil ?_
      refine JQ.then ?_
      refine JC.ret ?_
      refine JQ.outR ?_
      replace hq1 := Option.some.inj hq1
      subst hq1
      exact JQ.doneV (ss := [.val (S rB v_8)]) (.inl rfl) rfl rfl (.cons (.tmp rfl) .nil) rfl
    · refine JC.condF (.tmp rfl) hc4 ?_
      refine JC.skip ?_
      refine JQ.then ?_
      refine JC.seq ?_
      refine JC.pre (Imp.freeze (s := 5) rfl rfl) ?_
      obtain ⟨v_9, hv_v_9, hq1⟩ := bnd_inv hq1
      obtain ⟨v_10, hv_v_10, hq1⟩ := lt1_inv hq1
      obtain ⟨v_11, hv_v_11, hq1⟩ := bnd_inv hq1
      refine JC.anyG (base := [(1, .one (.val (S (rI .i64) a_2))), (5, .one (.val (S (rL (rU UInt8)) v_3)))])
          (fs := [⟨some 33, .one (.val (S (rL (rU UInt8)) v_3))⟩, ⟨some 34, .one (.val (S (rI .i64) a_2))⟩, ⟨some 35, .one (.val (S (rL (rU UInt8)) v_9))⟩, ⟨some 36, .one (.val (S (rL (rU UInt8)) v_3))⟩, ⟨some 37, .one (.val (S (rL (rU UInt8)) v_3))⟩, ⟨some 38, .one (.val (S (rI .i64) (List.length v_3 : Int)))⟩, ⟨some 39, .one (.val (S (rI .i64) a_2))⟩, ⟨some 40, .one (.val (S (rI .i64) v_10))⟩, ⟨some 41, .one (.val (S (rL (rU UInt8)) v_11))⟩, ⟨some 6, .one (.val (S (rL (rU UInt8)) v_9))⟩, ⟨some 7, .one (.val (S (rL (rU UInt8)) v_11))⟩])
          (ds := [33, 34, 35, 36, 37, 38, 39, 40, 41, 6, 7]) (bs := [1, 5]) mixed (.cons rfl (.cons rfl .nil))
          (.cons rfl (FStep.go (fun ρ hb hd => .none) (fun ρ hb hd => op_move (ltB rfl) (.tmp (hb 5 _ rfl)))) 
    (.cons rfl (FStep.go (fun ρ hb hd => .none) (fun ρ hb hd => op_move (ltB rfl) (.tmp (hb 1 _ rfl)))) 
    (.cons rfl (FStep.go (fun ρ hb hd => .none) (fun ρ hb hd => op_sliceLg (ltB rfl) tu23 tz5 (.tmp (hdl hd 0 33 rfl (by decide +kernel))) (.some (.tmp (hdl hd 1 34 rfl (by decide +kernel)))) .none hv_v_9)) 
    (.cons rfl (FStep.go (fun ρ hb hd => .none) (fun ρ hb hd => op_move (ltB rfl) (.tmp (hb 5 _ rfl)))) 
    (.cons rfl (FStep.go (fun ρ hb hd => .none) (fun ρ hb hd => op_move (ltB rfl) (.tmp (hb 5 _ rfl)))) 
    (.cons rfl (FStep.go (fun ρ hb hd => .none) (fun ρ hb hd => op_lenL (ltB rfl) tu23 (.tmp (hdl hd 4 37 rfl (by decide +kernel))))) 
    (.cons rfl (FStep.go (fun ρ hb hd => .none) (fun ρ hb hd => op_move (ltB rfl) (.tmp (hb 1 _ rfl)))) 
    (.cons rfl (FStep.go (fun ρ hb hd => .none) (fun ρ hb hd => op_arI (ltB rfl) (.tmp (hdl hd 5 38 rfl (by decide +kernel))) (.tmp (hdl hd 6 39 rfl (by decide +kernel))) (congrArg some hv_v_10))) 
    (.cons rfl (FStep.go (fun ρ hb hd => .none) (fun ρ hb hd => op_sliceLg (ltB rfl) tu23 tz5 (.tmp (hdl hd 3 36 rfl (by decide +kernel))) .none (.some (.tmp (hdl hd 7 40 rfl (by decide +kernel)))) hv_v_11)) 
    (.cons rfl (FStep.go (fun ρ hb hd => .none) (fun ρ hb hd => op_assign (ltB rfl) (.tmp (hdl hd 2 35 rfl (by decide +kernel))))) 
    (.cons rfl (FStep.go (fun ρ hb hd => .none) (fun ρ hb hd => op_assign (ltB rfl) (.tmp (hdl hd 8 41 rfl (by decide +kernel))))) .nil)))))))))))
          (by decide +kernel) rfl rfl (by decide) (by decide)
          (ρ' := [(6, .one (.val (S (rL (rU UInt8)) v_9))), (7, .one (.val (S (rL (rU UInt8)) v_11)))])
          (fun ρ hb hd => (.cons (hdq hd 9 6 rfl) (.cons (hdq hd 10 7 rfl) .nil))) ?_
      refine JQ.then ?_
      refine JC.seq ?_
      refine JC.region ?_
      refine JL.cons rfl (op_move (ltB rfl) (.tmp rfl)) ?_
      obtain ⟨⟨v_12, v_13⟩, hv_v_12, hq1⟩ := bnd_inv hq1
      refine JL.cons rfl (op_call (ltB rfl) cl14 (sim_crc_Open k v_9 (v_12, v_13) hv_v_12) (.cons (.tmp rfl) .nil)) ?_
      refine JL.pre (Imp.norm (n := 2) (ρ' := [(6, .one (.val (S (rL (rU UInt8)) v_9))), (7, .one (.val (S (rL (rU UInt8)) v_11))), (44, .tup [.own 1, .val (S rB v_13)])]) (X' := [.own UInt8 (rU UInt8) v_3 (List.length v_3), .own UInt8 (rU UInt8) v_12 0]) rfl (.cons rfl rfl (.cons rfl rfl (.cons rfl rfl .nil)))) ?_
      refine JL.at (M := HM.none) ⟨[(6, .one (.val (S (rL (rU UInt8)) v_9))), (7, .one (.val (S (rL (rU UInt8)) v_11))), (44, .tup [.own 1, .val (S rB v_13)])], [.own UInt8 (rU UInt8) v_3 (List.length v_3), .own UInt8 (rU UInt8) v_12 0], ()⟩ ?_
      refine JL.cons rfl (op_move (ltB rfl) (.tmp rfl)) ?_
      refine JL.cons rfl (op_extract (i := 0) (ltB rfl) (.tmp rfl) rfl) ?_
      refine JL.cons rfl (op_extract (i := 1) (ltB rfl) (.tmp rfl) rfl) ?_
      refine JL.cons rfl (op_assign (ltB rfl) (.tmp rfl)) ?_
      refine JL.cons rfl (op_assign (ltB rfl) (.tmp rfl)) ?_
      refine JL.nil ?_
      refine JQ.then ?_
      refine JC.seq ?_
      refine JC.region ?_
      refine JL.cons rfl (op_move (ltB rfl) (.tmp rfl)) ?_
      refine JL.pre (Imp.norm (n := 0) (ρ' := [(6, .one (.val (S (rL (rU UInt8)) v_9))), (7, .one (.val (S (rL (rU UInt8)) v_11))), (9, .one (.val (S rB v_13))), (48, .one (.val (S (rL (rU UInt8)) v_11)))]) (X' := []) rfl (.cons rfl rfl (.cons rfl rfl (.cons rfl rfl (.cons rfl rfl .nil))))) ?_
      refine JL.at (M := HM.none) ⟨[(6, .one (.val (S (rL (rU UInt8)) v_9))), (7, .one (.val (S (rL (rU UInt8)) v_11))), (9, .one (.val (S rB v_13))), (48, .one (.val (S (rL (rU UInt8)) v_11)))], [], ()⟩ ?_
      obtain ⟨⟨v_14, v_15⟩, hv_v_14, hq1⟩ := bnd_inv hq1
      refine JL.cons rfl (op_call (ltB rfl) cl14 (sim_crc_Open k v_11 (v_14, v_15) hv_v_14) (.cons (.tmp rfl) .nil)) ?_
      refine JL.pre (Imp.norm (n := 1) (ρ' := [(6, .one (.val (S (rL (rU UInt8)) v_9))), (7, .one (.val (S (rL (rU UInt8)) v_11))), (9, .one (.val (S rB v_13))), (49, .tup [.own 0, .val (S rB v_15)])]) (X' := [.own UInt8 (rU UInt8) v_14 0]) rfl (.cons rfl rfl (.cons rfl rfl (.cons rfl rfl (.cons rfl rfl .nil))))) ?_
      refine JL.at (M := HM.none) ⟨[(6, .one (.val (S (rL (rU UInt8)) v_9))), (7, .one (.val (S (rL (rU UInt8)) v_11))), (9, .one (.val (S rB v_13))), (49, .tup [.own 0, .val (S rB v_15)])], [.own UInt8 (rU UInt8) v_14 0], ()⟩ ?_
      refine JL.cons rfl (op_move (ltB rfl) (.tmp rfl)) ?_
      refine JL.cons rfl (op_extract (i := 0) (ltB rfl) (.tmp rfl) rfl) ?_
      refine JL.cons rfl (op_extract (i := 1) (ltB rfl) (.tmp rfl) rfl) ?_
      refine JL.cons rfl (op_assign (ltB rfl) (.tmp rfl)) ?_
      refine JL.cons rfl (op_assign (ltB rfl) (.tmp rfl)) ?_
      refine JL.nil ?_
      refine JQ.then ?_
      refine JC.seq ?_
      refine JC.region ?_
      refine JL.cons rfl (op_move (ltB rfl) (.tmp rfl)) ?_
      refine JL.pre (Imp.norm (n := 0) (ρ' := [(7, .one (.val (S (rL (rU UInt8)) v_11))), (9, .one (.val (S rB v_13))), (11, .one (.val (S rB v_15))), (53, .one (.val (S (rL (rU UInt8)) v_9)))]) (X' := []) rfl (.cons rfl rfl (.cons rfl rfl (.cons rfl rfl (.cons rfl rfl .nil))))) ?_
      refine JL.at (M := HM.none) ⟨[(7, .one (.val (S (rL (rU UInt8)) v_11))), (9, .one (.val (S rB v_13))), (11, .one (.val (S rB v_15))), (53, .one (.val (S (rL (rU UInt8)) v_9)))], [], ()⟩ ?_
      obtain ⟨⟨v_16, v_17⟩, hv_v_16, hq1⟩ := bnd_inv hq1
      refine JL.cons rfl (op_call (ltB rfl) cl15 (sim_ref02_Open k v_9 (v_16, v_17) hv_v_16) (.cons (.tmp rfl) .nil)) ?_
      refine JL.cons rfl (op_move (ltB rfl) (.tmp rfl)) ?_
      refine JL.cons rfl (op_extract (i := 0) (ltB rfl) (.tmp rfl) rfl) ?_
      refine JL.cons rfl (op_extract (i := 1) (ltB rfl) (.tmp rfl) rfl) ?_
      refine JL.cons rfl (op_assign (ltB rfl) (.tmp rfl)) ?_
      refine JL.cons rfl (op_assign (ltB rfl) (.tmp rfl)) ?_
      refine JL.nil ?_
      refine JQ.then ?_
      refine JC.seq ?_
      refine JC.region ?_
      refine JL.cons rfl (op_move (ltB rfl) (.tmp rfl)) ?_
      refine JL.pre (Imp.norm (n := 0) (ρ' := [(9, .one (.val (S rB v_13))), (11, .one (.val (S rB v_15))), (13, .one (.val (S rB v_17))), (58, .one (.val (S (rL (rU UInt8)) v_11)))]) (X' := []) rfl (.cons rfl rfl (.cons rfl rfl (.cons rfl rfl (.cons rfl rfl .nil))))) ?_
      refine JL.at (M := HM.none) ⟨[(9, .one (.val (S rB v_13))), (11, .one (.val (S rB v_15))), (13, .one (.val (S rB v_17))), (58, .one (.val (S (rL (rU UInt8)) v_11)))], [], ()⟩ ?_
      obtain ⟨⟨v_18, v_19⟩, hv_v_18, hq1⟩ := bnd_inv hq1
      refine JL.cons rfl (op_call (ltB rfl) cl15 (sim_ref02_Open k v_11 (v_18, v_19) hv_v_18) (.cons (.tmp rfl) .nil)) ?_
      refine JL.cons rfl (op_move (ltB rfl) (.tmp rfl)) ?_
      refine JL.cons rfl (op_extract (i := 0) (ltB rfl) (.tmp rfl) rfl) ?_
      refine JL.cons rfl (op_extract (i := 1) (ltB rfl) (.tmp rfl) rfl) ?_
      refine JL.cons rfl (op_assign (ltB rfl) (.tmp rfl)) ?_
      refine JL.cons rfl (op_assign (ltB rfl) (.tmp rfl)) ?_
      refine JL.nil ?_
      refine JQ.then ?_
      obtain ⟨v_23, hx5, hq5⟩ := bnd_inv hq1
      refine JC.seqJ (stj := ⟨[(4, .one (.val (S rB v_23)))], [], ()⟩) ?_ ?_
      · refine JC.ret ?_
        replace hq5 := Option.some.inj hq5
        subst hq5
        exact JQ.doneV (ss := [.val (S rB v_23)]) (.inl rfl) rfl rfl (.cons (.tmp rfl) .nil) rfl
      · refine JC.region ?_
        refine JL.cons rfl (op_move (ltB rfl) (.tmp rfl)) ?_
        refine JL.pre (Imp.norm (n := 0) (ρ' := [(11, .one (.val (S rB v_15))), (13, .one (.val (S rB v_17))), (15, .one (.val (S rB v_19))), (62, .one (.val (S rB v_13)))]) (X' := []) rfl (.cons rfl rfl (.cons rfl rfl (.cons rfl rfl (.cons rfl rfl .nil))))) ?_
        refine JL.at (M := HM.none) ⟨[(11, .one (.val (S rB v_15))), (13, .one (.val (S rB v_17))), (15, .one (.val (S rB v_19))), (62, .one (.val (S rB v_13)))], [], ()⟩ ?_
        refine JL.cons rfl (op_move (ltB rfl) (.tmp rfl)) ?_
        obtain ⟨v_20, hv_v_20, hx5⟩ := lt1_inv hx5
        refine JL.cons rfl (op_eqB (ltB rfl) tu4 (.tmp rfl) (.tmp rfl) hv_v_20) ?_
        refine JL.cons rfl (op_move (ltB rfl) (.tmp rfl)) ?_
        rcases iteB_inv hx5 with ⟨hc6, hx5⟩ | ⟨hc6, hx5⟩
        · refine JL.run (.yes rfl (ltB rfl) rfl hc6) (op_move (ltB rfl) (.tmp rfl)) ?_
          refine JL.run (.yes rfl (ltB rfl) rfl hc6) (op_move (ltB rfl) (.tmp rfl)) ?_
          obtain ⟨v_21, hv_v_21, hx5⟩ := lt1_inv hx5
          refine JL.run (.yes rfl (ltB rfl) rfl hc6) (op_eqB (ltB rfl) tu4 (.tmp rfl) (.tmp rfl) hv_v_21) ?_
          refine JL.pre (Imp.norm (n := 0) (ρ' := [(65, .one (.val (S rB v_20))), (68, .one (.val (S rB v_21)))]) (X' := []) rfl (.cons rfl rfl (.cons rfl rfl .nil))) ?_
          refine JL.at (M := HM.none) ⟨[(65, .one (.val (S rB v_20))), (68, .one (.val (S rB v_21)))], [], ()⟩ ?_
          refine JL.cons rfl (op_pickT (ltB rfl) (.tmp rfl) hc6 (.tmp rfl)) ?_
          refine JL.cons rfl (op_move (ltB rfl) (.tmp rfl)) ?_
          rcases iteB_inv hx5 with ⟨hc7, hx5⟩ | ⟨hc7, hx5⟩
          · obtain ⟨v_22, hv_v_22, hx5⟩ := bnd_inv hx5
            refine JL.run (.yes rfl (ltB rfl) rfl hc7) (op_call (ltB rfl) cl8 (sim_law02_known k v_22 hv_v_22) .nil) ?_
            refine JL.cons rfl (op_pickT (ltB rfl) (.tmp rfl) hc7 (.tmp rfl)) ?_
            refine JL.cons rfl (op_assign (ltB rfl) (.tmp rfl)) ?_
            refine JL.nil ?_
            replace hx5 := Option.some.inj hx5
            subst hx5
            exact JQ.join (Imp.norm (n := 0) rfl (.cons rfl rfl .nil))
          · refine JL.skip (.no rfl (ltB rfl) rfl hc7) (fun d h => by cases h; exact ltB rfl) ?_
            refine JL.cons rfl (op_pickF (ltB rfl) (.tmp rfl) hc7 .cB) ?_
            refine JL.cons rfl (op_assign (ltB rfl) (.tmp rfl)) ?_
            refine JL.nil ?_
            replace hx5 := Option.some.inj hx5
            subst hx5
            exact JQ.join (Imp.norm (n := 0) rfl (.cons rfl rfl .nil))
        · refine JL.skip (.no rfl (ltB rfl) rfl hc6) (fun d h => by cases h; exact ltB rfl) ?_
          refine JL.skip (.no rfl (ltB rfl) rfl hc6) (fun d h => by cases h; exact ltB rfl) ?_
          refine JL.skip (.no rfl (ltB rfl) rfl hc6) (fun d h => by cases h; exact ltB rfl) ?_
          refine JL.cons rfl (op_pickF (ltB rfl) (.tmp rfl) hc6 .cB) ?_
          refine JL.cons rfl (op_move (ltB rfl) (.tmp rfl)) ?_
          refine JL.skip (.no rfl (ltB rfl) rfl rfl) (fun d h => by cases h; exact ltB rfl) ?_
          refine JL.cons rfl (op_pickF (ltB rfl) (.tmp rfl) rfl .cB) ?_
          refine JL.pre (Imp.norm (n := 0) (ρ' := [(72, .one (.val (S rB false)))]) (X' := []) rfl (.cons rfl rfl .nil)) ?_
          refine JL.at (M := HM.none) ⟨[(72, .one (.val (S rB false)))], [], ()⟩ ?_
          refine JL.cons rfl (op_assign (ltB rfl) (.tmp rfl)) ?_
          refine JL.nil ?_
          replace hx5 := Option.some.inj hx5
          subst hx5
          exact JQ.join (Imp.norm (n := 0) rfl (.cons rfl rfl .nil))
  · refine JC.region ?_
    refine JL.cons rfl (op_move (ltB rfl) (.tmp rfl)) ?_
    refine JL.cons rfl (op_lenL (ltB rfl) tu23 (.tmp rfl)) ?_
    obtain ⟨v_4, hv_v_4, hx1⟩ := lt1_inv hx1
    refine JL.cons rfl (op_cmpI (ltB rfl) (.tmp rfl) .cI (congrArg some hv_v_4)) ?_
    refine JL.cons rfl (op_move (ltB rfl) (.tmp rfl)) ?_
    rcases iteB_inv hx1 with ⟨hc2, hx1⟩ | ⟨hc2, hx1⟩
    · refine JL.skip (.no rfl (ltB rfl) rfl hc2) (fun d h => by cases h; exact ltB rfl) ?_
      refine JL.skip (.no rfl (ltB rfl) rfl hc2) (fun d h => by cases h; exact ltB rfl) ?_
      refine JL.cons rfl (op_pickT (ltB rfl) (.tmp rfl) hc2 .cB) ?_
      refine JL.pre (Imp.norm (n := 1) (ρ' := [(1, .one (.val (S (rI .i64) a_2))), (5, .one (.own 0)), (25, .one (.val (S rB true)))]) (X' := [.own UInt8 (rU UInt8) v_3 0]) rfl (.cons rfl rfl (.cons rfl rfl (.cons rfl rfl .nil)))) ?_
      refine JL.at (M := HM.none) ⟨[(1, .one (.val (S (rI .i64) a_2))), (5, .one (.own 0)), (25, .one (.val (S rB true)))], [.own UInt8 (rU UInt8) v_3 0], ()⟩ ?_
      refine JL.cons rfl (op_move (ltB rfl) (.tmp rfl)) ?_
      refine JL.skip (.no rfl (ltB rfl) rfl rfl) (fun d h => by cases h; exact ltB rfl) ?_
      refine JL.skip (.no rfl (ltB rfl) rfl rfl) (fun d h => by cases h; exact ltB rfl) ?_
      refine JL.skip (.no rfl (ltB rfl) rfl rfl) (fun d h => by cases h; exact ltB rfl) ?_
      refine JL.skip (.no rfl (ltB rfl) rfl rfl) (fun d h => by cases h; exact ltB rfl) ?_
      refine JL.cons rfl (op_pickT (ltB rfl) (.tmp rfl) rfl .cB) ?_
      refine JL.nil ?_
      replace hx1 := Option.some.inj hx1
      subst hx1
      exact JQ.join (Imp.norm (n := 1) rfl (.cons rfl rfl (.cons rfl rfl (.cons rfl rfl .nil))))
    · refine JL.run (.yes rfl (ltB rfl) rfl hc2) (op_move (ltB rfl) (.tmp rfl)) ?_
      refine JL.pre (Imp.norm (n := 1) (ρ' := [(1, .one (.val (S (rI .i64) a_2))), (5, .one (.own 0)), (22, .one (.val (S rB v_4))), (23, .one (.val (S (rI .i64) a_2)))]) (X' := [.own UInt8 (rU UInt8) v_3 0]) rfl (.cons rfl rfl (.cons rfl rfl (.cons rfl rfl (.cons rfl rfl .nil))))) ?_
      refine JL.at (M := HM.none) ⟨[(1, .one (.val (S (rI .i64) a_2))), (5, .one (.own 0)), (22, .one (.val (S rB v_4))), (23, .one (.val (S (rI .i64) a_2)))], [.own UInt8 (rU UInt8) v_3 0], ()⟩ ?_
      obtain ⟨v_5, hv_v_5, hx1⟩ := lt1_inv hx1
      refine JL.run (.yes rfl (ltB rfl) rfl hc2) (op_cmpI (ltB rfl) (.tmp rfl) .cI (congrArg some hv_v_5)) ?_
      refine JL.cons rfl (op_pickF (ltB rfl) (.tmp rfl) hc2 (.tmp rfl)) ?_
      refine JL.cons rfl (op_move (ltB rfl) (.tmp rfl)) ?_
      rcases iteB_inv hx1 with ⟨hc3, hx1⟩ | ⟨hc3, hx1⟩
      · refine JL.skip (.no rfl (ltB rfl) rfl hc3) (fun d h => by cases h; exact ltB rfl) ?_
        refine JL.skip (.no rfl (ltB rfl) rfl hc3) (fun d h => by cases h; exact ltB rfl) ?_
        refine JL.skip (.no rfl (ltB rfl) rfl hc3) (fun d h => by cases h; exact ltB rfl) ?_
        refine JL.skip (.no rfl (ltB rfl) rfl hc3) (fun d h => by cases h; exact ltB rfl) ?_
        refine JL.cons rfl (op_pickT (ltB rfl) (.tmp rfl) hc3 .cB) ?_
        refine JL.nil ?_
        replace hx1 := Option.some.inj hx1
        subst hx1
        exact JQ.join (Imp.norm (n := 1) rfl (.cons rfl rfl (.cons rfl rfl (.cons rfl rfl .nil))))
      · refine JL.run (.yes rfl (ltB rfl) rfl hc3) (op_move (ltB rfl) (.tmp rfl)) ?_
        refine JL.run (.yes rfl (ltB rfl) rfl hc3) (op_move (ltB rfl) (.tmp rfl)) ?_
        refine JL.run (.yes rfl (ltB rfl) rfl hc3) (op_lenO (ltB rfl) tu23 rfl (.tmp rfl)) ?_
        refine JL.pre (Imp.norm (n := 1) (ρ' := [(1, .one (.val (S (rI .i64) a_2))), (5, .one (.own 0)), (26, .one (.val (S rB v_5))), (27, .one (.val (S (rI .i64) a_2))), (29, .one (.val (S (rI .i64) (List.length v_3 : Int))))]) (X' := [.own UInt8 (rU UInt8) v_3 0]) rfl (.cons rfl rfl (.cons rfl rfl (.cons rfl rfl (.cons rfl rfl (.cons rfl rfl .nil)))))) ?_
        refine JL.at (M := HM.none) ⟨[(1, .one (.val (S (rI .i64) a_2))), (5, .one (.own 0)), (26, .one (.val (S rB v_5))), (27, .one (.val (S (rI .i64) a_2))), (29, .one (.val (S (rI .i64) (List.length v_3 : Int))))], [.own UInt8 (rU UInt8) v_3 0], ()⟩ ?_
        obtain ⟨v_6, hv_v_6, hx1⟩ := lt1_inv hx1
        refine JL.run (.yes rfl (ltB rfl) rfl hc3) (op_cmpI (ltB rfl) (.tmp rfl) (.tmp rfl) (congrArg some hv_v_6)) ?_
        refine JL.cons rfl (op_pickF (ltB rfl) (.tmp rfl) hc3 (.tmp rfl)) ?_
        refine JL.nil ?_
        replace hx1 := Option.some.inj hx1
        subst hx1
        exact JQ.join (Imp.norm (n := 1) rfl (.cons rfl rfl (.cons rfl rfl (.cons rfl rfl .nil))))

end Go.Proofs.Ytlkofkegbkkhbaa
