/- The walk of one function. -/
import Derived.Test.YtlkofkegbkkhbaaT
import Derived.Test.YtlkofkegbkkhbaaW19
namespace Go.Proofs.Ytlkofkegbkkhbaa
open Go Fw
set_option linter.unusedVariables false
set_option maxRecDepth 100000
set_option maxHeartbeats 4000000

theorem sim_ref02_Bits_in (k : Nat) (x_1 : (Vector Bool 32)) (bit_2 : Bool) (r : (Vector Bool 32)) (hm : ref02_Bits_in k x_1 bit_2 = some r) : Sim Try.prog 17 [A (rV 32 rB) x_1, S rB bit_2] [] (.one (.val (A (rV 32 rB) r))) := by
  unfold ref02_Bits_in at hm
  refine Sim.of Try.func17 rfl rfl (Nat.le_of_ble_eq_true rfl) (fun e0 w0 => ?_)
  refine JC.at (M := HM.none) ⟨[(0, .one (.val (A (rV 32 rB) x_1))), (1, .one (.val (S rB bit_2)))], [], ()⟩ ?_
  refine JC.seq ?_
  refine JC.region ?_
  refine JL.cons rfl (op_boxA (ltB rfl) (.tmp rfl)) ?_
  refine JL.pre (Imp.norm (n := 1) (ρ' := [(1, .one (.val (S rB bit_2))), (2, .one (.ptr 0 0))]) (X' := [.var (Vector Bool 32) (rV 32 rB) x_1]) rfl (.cons rfl rfl (.cons rfl rfl .nil))) ?_
  refine JL.at (M := HM.none) ⟨[(1, .one (.val (S rB bit_2))), (2, .one (.ptr 0 0))], [.var (Vector Bool 32) (rV 32 rB) x_1], ()⟩ ?_
  refine JL.cons rfl (op_alloc (ltB rfl) tZ40 zr40) ?_
  refine JL.nil ?_
  refine JQ.then ?_
  refine JC.seq ?_
  refine JC.region ?_
  refine JL.cons rfl (op_alloc (ltB rfl) tZ40 zr40) ?_
  refine JL.nil ?_
  refine JQ.then ?_
  refine JC.seq ?_
  refine JC.region ?_
  obtain ⟨i_3, hv_i_3, hm⟩ := bnd_inv hm
  refine JL.cons rfl (op_indexAddrIF (ltB rfl) tr40 (.tmp rfl) .cI hv_i_3) ?_
  obtain ⟨v_4, hv_v_4, hm⟩ := lt1_inv hm
  refine JL.cons rfl (op_loadSg (ltB rfl) tS4 (.tmp rfl) rfl (Comp.at (Comp.self (rV 32 rB) x_1) i_3.2 rfl) rfl hv_v_4) ?_
  refine JL.cons rfl (op_move (ltB rfl) (.tmp rfl)) ?_
  obtain ⟨v_5, hv_v_5, hm⟩ := lt1_inv hm
  refine JL.cons rfl (op_neB (ltB rfl) tu4 (.tmp rfl) (.tmp rfl) hv_v_5) ?_
  refine JL.pre (Imp.norm (n := 3) (ρ' := [(2, .one (.ptr 0 0)), (4, .one (.ptr 1 0)), (5, .one (.ptr 2 0)), (13, .one (.val (S rB v_5)))]) (X' := [.var (Vector Bool 32) (rV 32 rB) x_1, .var (Vector Bool 32) (rV 32 rB) (Vector.replicate 32 false), .var (Vector Bool 32) (rV 32 rB) (Vector.replicate 32 false)]) rfl (.cons rfl rfl (.cons rfl rfl (.cons rfl rfl (.cons rfl rfl .nil))))) ?_
  refine JL.at (M := HM.none) ⟨[(2, .one (.ptr 0 0)), (4, .one (.ptr 1 0)), (5, .one (.ptr 2 0)), (13, .one (.val (S rB v_5)))], [.var (Vector Bool 32) (rV 32 rB) x_1, .var (Vector Bool 32) (rV 32 rB) (Vector.replicate 32 false), .var (Vector Bool 32) (rV 32 rB) (Vector.replicate 32 false)], ()⟩ ?_
  refine JL.cons rfl (op_assign (ltB rfl) (.tmp rfl)) ?_
  refine JL.nil ?_
  refine JQ.then ?_
  refine JC.seq ?_
  refine JC.region ?_
  obtain ⟨v_6, hv_v_6, hm⟩ := bnd_inv hm
  refine JL.cons rfl (op_call (ltB rfl) cl19 (sim_ref02_taps k v_6 hv_v_6) .nil) ?_
  refine JL.cons rfl (op_assign (ltB rfl) (.tmp rfl)) ?_
  refine JL.nil ?_
  refine JQ.then ?_
  obtain ⟨o_25, hx1, hq1⟩ := bnd_inv hm
  refine JC.seqJ (stj := ⟨[(4, .one (.ptr 1 0)), (5, .one (.ptr 2 0))], [.var (Vector Bool 32) (rV 32 rB) x_1, .var (Vector Bool 32) (rV 32 rB) (Vector.replicate 32 false), .var (Vector Bool 32) (rV 32 rB) o_25], ()⟩) ?_ ?_
  · refine JC.seq ?_
    refine JC.region ?_
    refine JL.cons rfl (op_loadA (ltB rfl) tA40 (.tmp rfl) rfl (Comp.self (rV 32 rB) o_25)) ?_
    refine JL.cons rfl (op_storeA tA40 (.tmp rfl) (.tmp rfl) rfl (Upd.self (rV 32 rB) (Vector.replicate 32 false) _)) ?_
    refine JL.nil ?_
    refine JQ.then ?_
    refine JC.ret ?_
    replace hq1 := Option.some.inj hq1
    subst hq1
    exact JQ.doneV (ss := [.val (A (rV 32 rB) o_25)]) (.inl rfl) rfl rfl (.cons (.cellA tA40 rfl rfl) .nil) rfl
  · refine JC.seq ?_
    refine JC.region ?_
    refine JL.cons rfl (op_assign (ltB rfl) .cI) ?_
    refine JL.nil ?_
    refine JQ.then ?_
    refine JC.block ?_
    refine JC.pre ?_ (JC.loop (stf := fun s => ⟨[(2, .one (.ptr 0 0)), (4, .one (.ptr 1 0)), (5, .one (.ptr 2 0)), (6, .one (.val (S rB v_5))), (7, .one (.val (S rS v_6))), (8, .one (.val (S (rI .i64) s.1)))], [.var (Vector Bool 32) (rV 32 rB) x_1, .var (Vector Bool 32) (rV 32 rB) (Vector.replicate 32 false), .var (Vector Bool 32) (rV 32 rB) s.2], ()⟩) hx1 ?_)
    · exact (Imp.norm (n := 3) rfl (.cons rfl rfl (.cons rfl rfl (.cons rfl rfl (.cons rfl rfl (.cons rfl rfl (.cons rfl rfl .nil)))))))
    · intro s x hx hr
      obtain ⟨i_7, o_8⟩ := s
      change ref02_Bits_in.b1 k x_1 v_5 v_6 i_7 o_8 = some x at hx
      unfold ref02_Bits_in.b1 at hx
      refine JC.at (M := HM.none) ⟨[(2, .one (.ptr 0 0)), (4, .one (.ptr 1 0)), (5, .one (.ptr 2 0)), (6, .one (.val (S rB v_5))), (7, .one (.val (S rS v_6))), (8, .one (.val (S (rI .i64) i_7)))], [.var (Vector Bool 32) (rV 32 rB) x_1, .var (Vector Bool 32) (rV 32 rB) (Vector.replicate 32 false), .var (Vector Bool 32) (rV 32 rB) o_8], ()⟩ ?_
      refine JC.seq ?_
      refine JC.seq ?_
      refine JC.region ?_
      refine JL.cons rfl (op_move (ltB rfl) (.tmp rfl)) ?_
      obtain ⟨v_9, hv_v_9, hx⟩ := lt1_inv hx
      refine JL.cons rfl (op_cmpI (ltB rfl) (.tmp rfl) .cI (congrArg some hv_v_9)) ?_
      refine JL.nil ?_
      refine JQ.then ?_
      rcases iteB_inv hx with ⟨hc3, hx⟩ | ⟨hc3, hx⟩
      · refine JC.condT (.tmp rfl) hc3 ?_
        refine JC.skip ?_
        refine JQ.then ?_
        obtain ⟨o_23, hx4, hq4⟩ := bnd_inv hx
        refine JC.seqJ (stj := ⟨[(2, .one (.ptr 0 0)), (4, .one (.ptr 1 0)), (5, .one (.ptr 2 0)), (6, .one (.val (S rB v_5))), (7, .one (.val (S rS v_6))), (8, .one (.val (S (rI .i64) i_7)))], [.var (Vector Bool 32) (rV 32 rB) x_1, .var (Vector Bool 32) (rV 32 rB) (Vector.replicate 32 false), .var (Vector Bool 32) (rV 32 rB) o_23], ()⟩) ?_ ?_
        · refine JC.region ?_
          refine JL.cons rfl (op_move (ltB rfl) (.tmp rfl)) ?_
          obtain ⟨v_24, hv_v_24, hq4⟩ := lt1_inv hq4
          refine JL.cons rfl (op_arI (ltB rfl) (.tmp rfl) .cI (congrArg some hv_v_24)) ?_
          refine JL.cons rfl (op_assign (ltB rfl) (.tmp rfl)) ?_
          refine JL.nil ?_
          replace hq4 := Option.some.inj hq4
          subst hq4
          exact JQ.next rfl (Imp.norm (n := 3) rfl (.cons rfl rfl (.cons rfl rfl (.cons rfl rfl (.cons rfl rfl (.cons rfl rfl (.cons rfl rfl .nil)))))))
        · refine JC.block ?_
          obtain ⟨next_14, hx5, hq5⟩ := bnd_inv hx4
          refine JC.seqJ (stj := ⟨[(2, .one (.ptr 0 0)), (4, .one (.ptr 1 0)), (5, .one (.ptr 2 0)), (6, .one (.val (S rB v_5))), (7, .one (.val (S rS v_6))), (8, .one (.val (S (rI .i64) i_7))), (9, .one (.val (S rB next_14)))], [.var (Vector Bool 32) (rV 32 rB) x_1, .var (Vector Bool 32) (rV 32 rB) (Vector.replicate 32 false), .var (Vector Bool 32) (rV 32 rB) o_8], ()⟩) ?_ ?_
          · refine JC.region ?_
            refine JL.cons rfl (op_move (ltB rfl) (.tmp rfl)) ?_
            refine JL.cons rfl (op_move (ltB rfl) (.tmp rfl)) ?_
            refine JL.cons rfl (op_move (ltB rfl) (.tmp rfl)) ?_
            refine JL.cons rfl (op_move (ltB rfl) (.tmp rfl)) ?_
            rcases iteB_inv hq5 with ⟨hc7, hq5⟩ | ⟨hc7, hq5⟩
            · refine JL.run (.yes rfl (ltB rfl) rfl hc7) (op_move (ltB rfl) (.tmp rfl)) ?_
              refine JL.run (.yes rfl (ltB rfl) rfl hc7) (op_move (ltB rfl) (.tmp rfl)) ?_
              refine JL.pre (Imp.norm (n := 3) (ρ' := [(2, .one (.ptr 0 0)), (4, .one (.ptr 1 0)), (5, .one (.ptr 2 0)), (6, .one (.val (S rB v_5))), (7, .one (.val (S rS v_6))), (8, .one (.val (S (rI .i64) i_7))), (27, .one (.val (S (rI .i64) i_7))), (28, .one (.val (S rB next_14))), (30, .one (.val (S rB v_5))), (31, .one (.val (S rS v_6))), (32, .one (.val (S (rI .i64) i_7)))]) (X' := [.var (Vector Bool 32) (rV 32 rB) x_1, .var (Vector Bool 32) (rV 32 rB) (Vector.replicate 32 false), .var (Vector Bool 32) (rV 32 rB) o_8]) rfl (.cons rfl rfl (.cons rfl rfl (.cons rfl rfl (.cons rfl rfl (.cons rfl rfl (.cons rfl rfl (.cons rfl rfl (.cons rfl rfl (.cons rfl rfl (.cons rfl rfl (.cons rfl rfl .nil)))))))))))) ?_
              refine JL.at (M := HM.none) ⟨[(2, .one (.ptr 0 0)), (4, .one (.ptr 1 0)), (5, .one (.ptr 2 0)), (6, .one (.val (S rB v_5))), (7, .one (.val (S rS v_6))), (8, .one (.val (S (rI .i64) i_7))), (27, .one (.val (S (rI .i64) i_7))), (28, .one (.val (S rB next_14))), (30, .one (.val (S rB v_5))), (31, .one (.val (S rS v_6))), (32, .one (.val (S (rI .i64) i_7)))], [.var (Vector Bool 32) (rV 32 rB) x_1, .var (Vector Bool 32) (rV 32 rB) (Vector.replicate 32 false), .var (Vector Bool 32) (rV 32 rB) o_8], ()⟩ ?_
              obtain ⟨v_15, hv_v_15, hq5⟩ := bnd_inv hq5
              refine JL.run (.yes rfl (ltB rfl) rfl hc7) (op_indexStrg (ltB rfl) tu9 (.tmp rfl) (.tmp rfl) hv_v_15) ?_
              obtain ⟨v_16, hv_v_16, hq5⟩ := lt1_inv hq5
              refine JL.run (.yes rfl (ltB rfl) rfl hc7) (op_cmpU (ltB rfl) (.tmp rfl) (HasO.cU (x := (49 : UInt8)) rfl (by decide)) (congrArg some hv_v_16)) ?_
              refine JL.cons rfl (op_pickT (ltB rfl) (.tmp rfl) hc7 (.tmp rfl)) ?_
              obtain ⟨v_17, hv_v_17, hq5⟩ := lt1_inv hq5
              refine JL.cons rfl (op_neB (ltB rfl) tu4 (.tmp rfl) (.tmp rfl) hv_v_17) ?_
              obtain ⟨i_18, hv_i_18, hq5⟩ := bnd_inv hq5
              refine JL.cons rfl (op_indexAddrIF (ltB rfl) tr40 (.tmp rfl) (.tmp rfl) hv_i_18) ?_
              obtain ⟨o_19, hv_o_19, hq5⟩ := lt1_inv hq5
              refine JL.cons rfl (op_storeSg tS4 (.tmp rfl) (.tmp rfl) rfl rfl (Upd.at (Comp.self (rV 32 rB) o_8) i_18.2 rfl (Upd.self (rV 32 rB) o_8 _)) hv_o_19) ?_
              refine JL.nil ?_
              refine JQ.outNB ?_
              replace hq5 := Option.some.inj hq5
              subst hq5
              exact JQ.join (Imp.norm (n := 3) rfl (.cons rfl rfl (.cons rfl rfl (.cons rfl rfl (.cons rfl rfl (.cons rfl rfl (.cons rfl rfl .nil)))))))
            · refine JL.skip (.no rfl (ltB rfl) rfl hc7) (fun d h => by cases h; exact ltB rfl) ?_
              refine JL.skip (.no rfl (ltB rfl) rfl hc7) (fun d h => by cases h; exact ltB rfl) ?_
              refine JL.skip (.no rfl (ltB rfl) rfl hc7) (fun d h => by cases h; exact ltB rfl) ?_
              refine JL.skip (.no rfl (ltB rfl) rfl hc7) (fun d h => by cases h; exact ltB rfl) ?_
              refine JL.cons rfl (op_pickF (ltB rfl) (.tmp rfl) hc7 .cB) ?_
              obtain ⟨v_20, hv_v_20, hq5⟩ := lt1_inv hq5
              refine JL.cons rfl (op_neB (ltB rfl) tu4 (.tmp rfl) (.tmp rfl) hv_v_20) ?_
              refine JL.pre (Imp.norm (n := 3) (ρ' := [(2, .one (.ptr 0 0)), (4, .one (.ptr 1 0)), (5, .one (.ptr 2 0)), (6, .one (.val (S rB v_5))), (7, .one (.val (S rS v_6))), (8, .one (.val (S (rI .i64) i_7))), (27, .one (.val (S (rI .i64) i_7))), (36, .one (.val (S rB v_20)))]) (X' := [.var (Vector Bool 32) (rV 32 rB) x_1, .var (Vector Bool 32) (rV 32 rB) (Vector.replicate 32 false), .var (Vector Bool 32) (rV 32 rB) o_8]) rfl (.cons rfl rfl (.cons rfl rfl (.cons rfl rfl (.cons rfl rfl (.cons rfl rfl (.cons rfl rfl (.cons rfl rfl (.cons rfl rfl .nil))))))))) ?_
              refine JL.at (M := HM.none) ⟨[(2, .one (.ptr 0 0)), (4, .one (.ptr 1 0)), (5, .one (.ptr 2 0)), (6, .one (.val (S rB v_5))), (7, .one (.val (S rS v_6))), (8, .one (.val (S (rI .i64) i_7))), (27, .one (.val (S (rI .i64) i_7))), (36, .one (.val (S rB v_20)))], [.var (Vector Bool 32) (rV 32 rB) x_1, .var (Vector Bool 32) (rV 32 rB) (Vector.replicate 32 false), .var (Vector Bool 32) (rV 32 rB) o_8], ()⟩ ?_
              obtain ⟨i_21, hv_i_21, hq5⟩ := bnd_inv hq5
              refine JL.cons rfl (op_indexAddrIF (ltB rfl) tr40 (.tmp rfl) (.tmp rfl) hv_i_21) ?_
              obtain ⟨o_22, hv_o_22, hq5⟩ := lt1_inv hq5
              refine JL.cons rfl (op_storeSg tS4 (.tmp rfl) (.tmp rfl) rfl rfl (Upd.at (Comp.self (rV 32 rB) o_8) i_21.2 rfl (Upd.self (rV 32 rB) o_8 _)) hv_o_22) ?_
              refine JL.nil ?_
              refine JQ.outNB ?_
              replace hq5 := Option.some.inj hq5
              subst hq5
              exact JQ.join (Imp.norm (n := 3) rfl (.cons rfl rfl (.cons rfl rfl (.cons rfl rfl (.cons rfl rfl (.cons rfl rfl (.cons rfl rfl .nil)))))))
          · refine JC.region ?_
            refine JL.cons rfl (op_move (ltB rfl) (.tmp rfl)) ?_
            obtain ⟨v_10, hv_v_10, hx5⟩ := lt1_inv hx5
            refine JL.cons rfl (op_cmpI (ltB rfl) (.tmp rfl) .cI (congrArg some hv_v_10)) ?_
            refine JL.cons rfl (op_move (ltB rfl) (.tmp rfl)) ?_
            rcases iteB_inv hx5 with ⟨hc6, hx5⟩ | ⟨hc6, hx5⟩
            · refine JL.run (.yes rfl (ltB rfl) rfl hc6) (op_move (ltB rfl) (.tmp rfl)) ?_
              refine JL.pre (Imp.norm (n := 3) (ρ' := [(2, .one (.ptr 0 0)), (4, .one (.ptr 1 0)), (5, .one (.ptr 2 0)), (6, .one (.val (S rB v_5))), (7, .one (.val (S rS v_6))), (8, .one (.val (S (rI .i64) i_7))), (21, .one (.val (S rB v_10))), (22, .one (.val (S (rI .i64) i_7)))]) (X' := [.var (Vector Bool 32) (rV 32 rB) x_1, .var (Vector Bool 32) (rV 32 rB) (Vector.replicate 32 false), .var (Vector Bool 32) (rV 32 rB) o_8]) rfl (.cons rfl rfl (.cons rfl rfl (.cons rfl rfl (.cons rfl rfl (.cons rfl rfl (.cons rfl rfl (.cons rfl rfl (.cons rfl rfl .nil))))))))) ?_
              refine JL.at (M := HM.none) ⟨[(2, .one (.ptr 0 0)), (4, .one (.ptr 1 0)), (5, .one (.ptr 2 0)), (6, .one (.val (S rB v_5))), (7, .one (.val (S rS v_6))), (8, .one (.val (S (rI .i64) i_7))), (21, .one (.val (S rB v_10))), (22, .one (.val (S (rI .i64) i_7)))], [.var (Vector Bool 32) (rV 32 rB) x_1, .var (Vector Bool 32) (rV 32 rB) (Vector.replicate 32 false), .var (Vector Bool 32) (rV 32 rB) o_8], ()⟩ ?_
              obtain ⟨v_11, hv_v_11, hx5⟩ := lt1_inv hx5
              refine JL.run (.yes rfl (ltB rfl) rfl hc6) (op_arI (ltB rfl) (.tmp rfl) .cI (congrArg some hv_v_11)) ?_
              obtain ⟨i_12, hv_i_12, hx5⟩ := bnd_inv hx5
              refine JL.run (.yes rfl (ltB rfl) rfl hc6) (op_indexAddrIF (ltB rfl) tr40 (.tmp rfl) (.tmp rfl) hv_i_12) ?_
              obtain ⟨v_13, hv_v_13, hx5⟩ := lt1_inv hx5
              refine JL.run (.yes rfl (ltB rfl) rfl hc6) (op_loadSg (ltB rfl) tS4 (.tmp rfl) rfl (Comp.at (Comp.self (rV 32 rB) x_1) i_12.2 rfl) rfl hv_v_13) ?_
              refine JL.cons rfl (op_pickT (ltB rfl) (.tmp rfl) hc6 (.tmp rfl)) ?_
              refine JL.cons rfl (op_assign (ltB rfl) (.tmp rfl)) ?_
              refine JL.nil ?_
              replace hx5 := Option.some.inj hx5
              subst hx5
              exact JQ.join (Imp.norm (n := 3) rfl (.cons rfl rfl (.cons rfl rfl (.cons rfl rfl (.cons rfl rfl (.cons rfl rfl (.cons rfl rfl (.cons rfl rfl .nil))))))))
            · refine JL.skip (.no rfl (ltB rfl) rfl hc6) (fun d h => by cases h; exact ltB rfl) ?_
              refine JL.skip (.no rfl (ltB rfl) rfl hc6) (fun d h => by cases h; exact ltB rfl) ?_
              refine JL.skip (.no rfl (ltB rfl) rfl hc6) (fun d h => by cases h; exact ltB rfl) ?_
              refine JL.skip (.no rfl (ltB rfl) rfl hc6) (fun d h => by cases h; exact ltB rfl) ?_
              refine JL.cons rfl (op_pickF (ltB rfl) (.tmp rfl) hc6 .cB) ?_
              refine JL.pre (Imp.norm (n := 3) (ρ' := [(2, .one (.ptr 0 0)), (4, .one (.ptr 1 0)), (5, .one (.ptr 2 0)), (6, .one (.val (S rB v_5))), (7, .one (.val (S rS v_6))), (8, .one (.val (S (rI .i64) i_7))), (26, .one (.val (S rB false)))]) (X' := [.var (Vector Bool 32) (rV 32 rB) x_1, .var (Vector Bool 32) (rV 32 rB) (Vector.replicate 32 false), .var (Vector Bool 32) (rV 32 rB) o_8]) rfl (.cons rfl rfl (.cons rfl rfl (.cons rfl rfl (.cons rfl rfl (.cons rfl rfl (.cons rfl rfl (.cons rfl rfl .nil)))))))) ?_
              refine JL.at (M := HM.none) ⟨[(2, .one (.ptr 0 0)), (4, .one (.ptr 1 0)), (5, .one (.ptr 2 0)), (6, .one (.val (S rB v_5))), (7, .one (.val (S rS v_6))), (8, .one (.val (S (rI .i64) i_7))), (26, .one (.val (S rB false)))], [.var (Vector Bool 32) (rV 32 rB) x_1, .var (Vector Bool 32) (rV 32 rB) (Vector.replicate 32 false), .var (Vector Bool 32) (rV 32 rB) o_8], ()⟩ ?_
              refine JL.cons rfl (op_assign (ltB rfl) (.tmp rfl)) ?_
              refine JL.nil ?_
              replace hx5 := Option.some.inj hx5
              subst hx5
              exact JQ.join (Imp.norm (n := 3) rfl (.cons rfl rfl (.cons rfl rfl (.cons rfl rfl (.cons rfl rfl (.cons rfl rfl (.cons rfl rfl (.cons rfl rfl .nil))))))))
      · refine JC.condF (.tmp rfl) hc3 ?_
        refine JC.exit ?_
        refine JQ.outX ?_
        replace hx := Option.some.inj hx
        subst hx
        have ht := hr _ rfl
        have hq2 := congrArg some ht
        clear hr ht
        refine JQ.outX ?_
        refine JQ.here ?_
        replace hq2 := Option.some.inj hq2
        subst hq2
        exact JQ.join (Imp.norm (n := 3) rfl (.cons rfl rfl (.cons rfl rfl .nil)))

end Go.Proofs.Ytlkofkegbkkhbaa
