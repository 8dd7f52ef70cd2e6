/- Walks. -/
import Derived.Test.YtdncoiehmkcajaaT
import Derived.Test.YtdncoiehmkcajaaW1
namespace Go.Proofs.Ytdncoiehmkcajaa
open Go Fw
set_option linter.unusedVariables false
set_option maxRecDepth 100000
set_option maxHeartbeats 4000000

theorem sim_ref03_power (k : Nat) (t_1 : UInt64) (a_2 : Int) (a_3 : UInt64) (r : Bool) (hm : ref03_power k t_1 a_2 a_3 = some r) : Sim Try.prog 49 [S (rU UInt64) t_1, S (rI .i64) a_2, S (rU UInt64) a_3] [] (γ := Unit) (fun q => []) (fun q => .one (.val (S rB r))) := by
  unfold ref03_power at hm
  refine Sim.of Try.func49 rfl rfl (Nat.le_of_ble_eq_true rfl) (fun e0 w0 => ?_)
  refine JC.at ⟨[(0, .one (.val (S (rU UInt64) t_1))), (1, .one (.val (S (rI .i64) a_2))), (2, .one (.val (S (rU UInt64) a_3)))], [], []⟩ ?_
  refine JC.seq ?_
  refine JC.region ?_
  refine JL.cons rfl (op_assign (ltB rfl) .cB) ?_
  refine JL.nil ?_
  refine JQ.then ?_
  refine JC.seq ?_
  refine JC.region ?_
  refine JL.cons rfl (op_move (ltB rfl) (.tmp rfl)) ?_
  refine JL.cons rfl (op_move (ltB rfl) (.tmp rfl)) ?_
  replace hm := bnd_inv hm
  obtain ⟨⟨v_4, v_5⟩, hv_v_4, hm⟩ := hm
  refine JL.consX rfl (op_call (js := []) (ltD rfl) cl55 (sim_math_bits_Mul64 k t_1 t_1 (v_4, v_5) hv_v_4) .func (.cons (.tmp rfl) (.cons (.tmp rfl) .nil)) rfl) (fun _ => ?_)
  refine JL.cons rfl (op_move (ltB rfl) (.tmp rfl)) ?_
  refine JL.cons rfl (op_extract (i := 0) (ltB rfl) (.tmp rfl) rfl) ?_
  refine JL.pre (Imp.sub (ρ' := [(0, .one (.val (S (rU UInt64) t_1))), (1, .one (.val (S (rI .i64) a_2))), (2, .one (.val (S (rU UInt64) a_3))), (16, .tup [.val (S (rU UInt64) v_4), .val (S (rU UInt64) v_5)]), (20, .one (.val (S (rU UInt64) v_4)))]) (.cons rfl (.cons rfl (.cons rfl (.cons rfl (.cons rfl .nil)))))) ?_
  refine JL.at ⟨[(0, .one (.val (S (rU UInt64) t_1))), (1, .one (.val (S (rI .i64) a_2))), (2, .one (.val (S (rU UInt64) a_3))), (16, .tup [.val (S (rU UInt64) v_4), .val (S (rU UInt64) v_5)]), (20, .one (.val (S (rU UInt64) v_4)))], [], []⟩ ?_
  refine JL.cons rfl (op_extract (i := 1) (ltB rfl) (.tmp rfl) rfl) ?_
  refine JL.cons rfl (op_assign (ltB rfl) (.tmp rfl)) ?_
  refine JL.cons rfl (op_assign (ltB rfl) (.tmp rfl)) ?_
  refine JL.nil ?_
  refine JQ.then ?_
  refine JC.seq ?_
  refine JC.seq ?_
  refine JC.region ?_
  refine JL.cons rfl (op_move (ltB rfl) (.tmp rfl)) ?_
  replace hm := lt1_inv hm
  obtain ⟨v_6, hv_v_6, hm⟩ := hm
  refine JL.cons rfl (op_cmpI (ltB rfl) (.tmp rfl) .cI (congrArg some hv_v_6)) ?_
  refine JL.nil ?_
  refine JQ.then ?_
  replace hm := iteB_inv hm
  rcases hm with ⟨hc1, hm⟩ | ⟨hc1, hm⟩
  · refine JC.condT (.tmp rfl) hc1 ?_
    replace hm := bnd_inv hm
    obtain ⟨x_12, hx2, hq2⟩ := hm
    refine JC.seqJ (γ := Unit) (stj := fun q => ⟨[(6, .one (.val (S rB x_12)))], [], []⟩) (fun q => ?_) ?_
    · obtain _ := q
      refine JC.at ⟨[(6, .one (.val (S rB x_12)))], [], []⟩ ?_
      refine JC.ret ?_
      refine JQ.outR ?_
      replace hq2 := Option.some.inj hq2
      subst hq2
      exact JQ.done (js := []) (ss := [.val (S rB x_12)]) () (.inl rfl) (.nil rfl) rfl (.cons (.tmp rfl) .nil) rfl rfl rfl
    · refine JC.region ?_
      refine JL.cons rfl (op_move (ltB rfl) (.tmp rfl)) ?_
      refine JL.pre (Imp.sub (ρ' := [(2, .one (.val (S (rU UInt64) a_3))), (7, .one (.val (S (rU UInt64) v_4))), (8, .one (.val (S (rU UInt64) v_5))), (24, .one (.val (S (rU UInt64) v_4)))]) (.cons rfl (.cons rfl (.cons rfl (.cons rfl .nil))))) ?_
      refine JL.at ⟨[(2, .one (.val (S (rU UInt64) a_3))), (7, .one (.val (S (rU UInt64) v_4))), (8, .one (.val (S (rU UInt64) v_5))), (24, .one (.val (S (rU UInt64) v_4)))], [], []⟩ ?_
      refine JL.cons rfl (op_move (ltB rfl) (.tmp rfl)) ?_
      replace hx2 := lt1_inv hx2
      obtain ⟨v_7, hv_v_7, hx2⟩ := hx2
      refine JL.cons rfl (op_cmpU (ltB rfl) (.tmp rfl) (.tmp rfl) (congrArg some hv_v_7)) ?_
      refine JL.cons rfl (op_move (ltB rfl) (.tmp rfl)) ?_
      refine JL.cnd (sv := .one (.val (S (rU UInt64) v_4))) (Guard.isF (ltB rfl) rfl rfl) rfl (ltB rfl) (fun hq_3 => op_move (ltB rfl) (.tmp rfl)) ?_
      refine JL.cnd (sv := .one (.val (S (rU UInt64) a_3))) (Guard.isF (ltB rfl) rfl rfl) rfl (ltB rfl) (fun hq_4 => op_move (ltB rfl) (.tmp rfl)) ?_
      replace hx2 := lt1_inv hx2
      obtain ⟨v_8, hv_v_8, hx2⟩ := hx2
      refine JL.cnd (sv := .one (.val (S rB v_8))) (Guard.isF (ltB rfl) rfl rfl) rfl (ltB rfl) (fun hq_5 => op_cmpU (ltB rfl) (HasO.cnd (.tmp rfl) (notT (notF hq_5))) (HasO.cnd (.tmp rfl) (notT (notF hq_5))) (congrArg some hv_v_8)) ?_
      refine JL.pre (Imp.sub (ρ' := [(8, .one (.val (S (rU UInt64) v_5))), (27, .one (.val (S rB v_7))), (30, bif (!v_7) then .one (.val (S rB v_8)) else .one .und)]) (.cons rfl (.cons rfl (.cons rfl .nil)))) ?_
      refine JL.at ⟨[(8, .one (.val (S (rU UInt64) v_5))), (27, .one (.val (S rB v_7))), (30, bif (!v_7) then .one (.val (S rB v_8)) else .one .und)], [], []⟩ ?_
      refine JL.cnd (sv := .one (.val (S rB v_8))) (Guard.isF (ltB rfl) rfl rfl) rfl (ltB rfl) (fun hq_6 => op_move (ltB rfl) (HasO.cnd (.tmp rfl) (notT (notF hq_6)))) ?_
      refine JL.cnd (sv := .one (.val (S (rU UInt64) v_5))) (Guard.cT (q := (!v_7)) (ltB rfl) rfl rfl) rfl (ltB rfl) (fun hq_7 => op_move (ltB rfl) (.tmp rfl)) ?_
      replace hx2 := lt1_inv hx2
      obtain ⟨v_9, hv_v_9, hx2⟩ := hx2
      refine JL.cnd (sv := .one (.val (S rB v_9))) (Guard.cT (q := (!v_7)) (ltB rfl) rfl rfl) rfl (ltB rfl) (fun hq_8 => op_cmpU (ltB rfl) (HasO.cnd (.tmp rfl) (andI (notT (notF (andL hq_8))) (andR hq_8))) (HasO.cU (x := (0 : UInt64)) rfl (by decide)) (congrArg some hv_v_9)) ?_
      replace hx2 := lt1_inv hx2
      obtain ⟨v_10, hv_v_10, hx2⟩ := hx2
      refine JL.cnd (sv := .one (.val (S rB v_10))) (Guard.isF (ltB rfl) rfl rfl) rfl (ltB rfl) (fun hq_9 => op_pickCS (ltB rfl) (HasO.cnd (.tmp rfl) (notT (notF hq_9))) (fun hb10 => (HasO.cnd (.tmp rfl) (andI (notT (notF hq_9)) hb10))) (fun hb10 => .cB) hv_v_10) ?_
      replace hx2 := lt1_inv hx2
      obtain ⟨v_11, hv_v_11, hx2⟩ := hx2
      refine JL.cons rfl (op_pickCS (ltB rfl) (.tmp rfl) (fun hb11 => .cB) (fun hb11 => (HasO.cnd (.tmp rfl) (notT hb11))) hv_v_11) ?_
      refine JL.cons rfl (op_assign (ltB rfl) (.tmp rfl)) ?_
      refine JL.pre (Imp.sub (ρ' := [(6, .one (.val (S rB v_11)))]) (.cons rfl .nil)) ?_
      refine JL.at ⟨[(6, .one (.val (S rB v_11)))], [], []⟩ ?_
      refine JL.nil ?_
      replace hx2 := Option.some.inj hx2
      first | subst hx2 | clear hx2
      exact JQ.join () (Imp.norm (js := []) rfl (.cons rfl .nil))
  · refine JC.condF (.tmp rfl) hc1 ?_
    refine JC.skip ?_
    refine JQ.then ?_
    refine JC.seq ?_
    refine JC.region ?_
    refine JL.cons rfl (op_move (ltB rfl) (.tmp rfl)) ?_
    refine JL.pre (Imp.sub (ρ' := [(0, .one (.val (S (rU UInt64) t_1))), (2, .one (.val (S (rU UInt64) a_3))), (7, .one (.val (S (rU UInt64) v_4))), (37, .one (.val (S (rU UInt64) v_5)))]) (.cons rfl (.cons rfl (.cons rfl (.cons rfl .nil))))) ?_
    refine JL.at ⟨[(0, .one (.val (S (rU UInt64) t_1))), (2, .one (.val (S (rU UInt64) a_3))), (7, .one (.val (S (rU UInt64) v_4))), (37, .one (.val (S (rU UInt64) v_5)))], [], []⟩ ?_
    refine JL.cons rfl (op_move (ltB rfl) (.tmp rfl)) ?_
    replace hm := bnd_inv hm
    obtain ⟨⟨v_13, v_14⟩, hv_v_13, hm⟩ := hm
    refine JL.consX rfl (op_call (js := []) (ltD rfl) cl55 (sim_math_bits_Mul64 k v_5 t_1 (v_13, v_14) hv_v_13) .func (.cons (.tmp rfl) (.cons (.tmp rfl) .nil)) rfl) (fun _ => ?_)
    refine JL.cons rfl (op_move (ltB rfl) (.tmp rfl)) ?_
    refine JL.cons rfl (op_extract (i := 0) (ltB rfl) (.tmp rfl) rfl) ?_
    refine JL.cons rfl (op_extract (i := 1) (ltB rfl) (.tmp rfl) rfl) ?_
    refine JL.cons rfl (op_assign (ltB rfl) (.tmp rfl)) ?_
    refine JL.pre (Imp.sub (ρ' := [(0, .one (.val (S (rU UInt64) t_1))), (2, .one (.val (S (rU UInt64) a_3))), (7, .one (.val (S (rU UInt64) v_4))), (9, .one (.val (S (rU UInt64) v_13))), (41, .one (.val (S (rU UInt64) v_14)))]) (.cons rfl (.cons rfl (.cons rfl (.cons rfl (.cons rfl .nil)))))) ?_
    refine JL.at ⟨[(0, .one (.val (S (rU UInt64) t_1))), (2, .one (.val (S (rU UInt64) a_3))), (7, .one (.val (S (rU UInt64) v_4))), (9, .one (.val (S (rU UInt64) v_13))), (41, .one (.val (S (rU UInt64) v_14)))], [], []⟩ ?_
    refine JL.cons rfl (op_assign (ltB rfl) (.tmp rfl)) ?_
    refine JL.nil ?_
    refine JQ.then ?_
    refine JC.seq ?_
    refine JC.region ?_
    refine JL.cons rfl (op_move (ltB rfl) (.tmp rfl)) ?_
    refine JL.cons rfl (op_move (ltB rfl) (.tmp rfl)) ?_
    replace hm := bnd_inv hm
    obtain ⟨⟨v_15, v_16⟩, hv_v_15, hm⟩ := hm
    refine JL.consX rfl (op_call (js := []) (ltD rfl) cl55 (sim_math_bits_Mul64 k v_4 t_1 (v_15, v_16) hv_v_15) .func (.cons (.tmp rfl) (.cons (.tmp rfl) .nil)) rfl) (fun _ => ?_)
    refine JL.cons rfl (op_move (ltB rfl) (.tmp rfl)) ?_
    refine JL.cons rfl (op_extract (i := 0) (ltB rfl) (.tmp rfl) rfl) ?_
    refine JL.pre (Imp.sub (ρ' := [(2, .one (.val (S (rU UInt64) a_3))), (9, .one (.val (S (rU UInt64) v_13))), (10, .one (.val (S (rU UInt64) v_14))), (42, .tup [.val (S (rU UInt64) v_15), .val (S (rU UInt64) v_16)]), (46, .one (.val (S (rU UInt64) v_15)))]) (.cons rfl (.cons rfl (.cons rfl (.cons rfl (.cons rfl .nil)))))) ?_
    refine JL.at ⟨[(2, .one (.val (S (rU UInt64) a_3))), (9, .one (.val (S (rU UInt64) v_13))), (10, .one (.val (S (rU UInt64) v_14))), (42, .tup [.val (S (rU UInt64) v_15), .val (S (rU UInt64) v_16)]), (46, .one (.val (S (rU UInt64) v_15)))], [], []⟩ ?_
    refine JL.cons rfl (op_extract (i := 1) (ltB rfl) (.tmp rfl) rfl) ?_
    refine JL.cons rfl (op_assign (ltB rfl) (.tmp rfl)) ?_
    refine JL.cons rfl (op_assign (ltB rfl) (.tmp rfl)) ?_
    refine JL.nil ?_
    refine JQ.then ?_
    refine JC.seq ?_
    refine JC.region ?_
    refine JL.cons rfl (op_move (ltB rfl) (.tmp rfl)) ?_
    refine JL.cons rfl (op_move (ltB rfl) (.tmp rfl)) ?_
    replace hm := bnd_inv hm
    obtain ⟨⟨s_17, o_18⟩, hv_s_17, hm⟩ := hm
    refine JL.cons rfl (op_add64 (ltB rfl) ex57 .func (.tmp rfl) (.tmp rfl) (HasO.cU (x := (0 : UInt64)) rfl (by decide)) hv_s_17) ?_
    refine JL.pre (Imp.sub (ρ' := [(2, .one (.val (S (rU UInt64) a_3))), (10, .one (.val (S (rU UInt64) v_14))), (11, .one (.val (S (rU UInt64) v_15))), (51, .tup [.val (S (rU UInt64) s_17), .val (S (rU UInt64) o_18)])]) (.cons rfl (.cons rfl (.cons rfl (.cons rfl .nil))))) ?_
    refine JL.at ⟨[(2, .one (.val (S (rU UInt64) a_3))), (10, .one (.val (S (rU UInt64) v_14))), (11, .one (.val (S (rU UInt64) v_15))), (51, .tup [.val (S (rU UInt64) s_17), .val (S (rU UInt64) o_18)])], [], []⟩ ?_
    refine JL.cons rfl (op_move (ltB rfl) (.tmp rfl)) ?_
    refine JL.cons rfl (op_extract (i := 0) (ltB rfl) (.tmp rfl) rfl) ?_
    refine JL.cons rfl (op_extract (i := 1) (ltB rfl) (.tmp rfl) rfl) ?_
    refine JL.cons rfl (op_assign (ltB rfl) (.tmp rfl)) ?_
    refine JL.cons rfl (op_assign (ltB rfl) (.tmp rfl)) ?_
    refine JL.nil ?_
    refine JQ.then ?_
    refine JC.seq ?_
    refine JC.region ?_
    refine JL.cons rfl (op_move (ltB rfl) (.tmp rfl)) ?_
    refine JL.pre (Imp.sub (ρ' := [(2, .one (.val (S (rU UInt64) a_3))), (10, .one (.val (S (rU UInt64) v_14))), (13, .one (.val (S (rU UInt64) s_17))), (14, .one (.val (S (rU UInt64) o_18))), (54, .one (.val (S (rU UInt64) v_15)))]) (.cons rfl (.cons rfl (.cons rfl (.cons rfl (.cons rfl .nil)))))) ?_
    refine JL.at ⟨[(2, .one (.val (S (rU UInt64) a_3))), (10, .one (.val (S (rU UInt64) v_14))), (13, .one (.val (S (rU UInt64) s_17))), (14, .one (.val (S (rU UInt64) o_18))), (54, .one (.val (S (rU UInt64) v_15)))], [], []⟩ ?_
    refine JL.cons rfl (op_move (ltB rfl) (.tmp rfl)) ?_
    replace hm := lt1_inv hm
    obtain ⟨v_19, hv_v_19, hm⟩ := hm
    refine JL.cons rfl (op_arU (ltB rfl) (.tmp rfl) (.tmp rfl) (congrArg some hv_v_19)) ?_
    refine JL.cons rfl (op_assign (ltB rfl) (.tmp rfl)) ?_
    refine JL.nil ?_
    refine JQ.then ?_
    refine JC.seq ?_
    refine JC.seq ?_
    refine JC.region ?_
    refine JL.cons rfl (op_move (ltB rfl) (.tmp rfl)) ?_
    refine JL.cons rfl (op_move (ltB rfl) (.tmp rfl)) ?_
    replace hm := lt1_inv hm
    obtain ⟨v_20, hv_v_20, hm⟩ := hm
    refine JL.cons rfl (op_shrUU (ltB rfl) (.tmp rfl) (HasO.cU (x := (32 : UInt64)) rfl (by decide)) hv_v_20) ?_
    refine JL.pre (Imp.sub (ρ' := [(2, .one (.val (S (rU UInt64) a_3))), (10, .one (.val (S (rU UInt64) v_14))), (13, .one (.val (S (rU UInt64) s_17))), (15, .one (.val (S (rU UInt64) v_19))), (57, .one (.val (S (rU UInt64) v_19))), (59, .one (.val (S (rU UInt64) v_20)))]) (.cons rfl (.cons rfl (.cons rfl (.cons rfl (.cons rfl (.cons rfl .nil))))))) ?_
    refine JL.at ⟨[(2, .one (.val (S (rU UInt64) a_3))), (10, .one (.val (S (rU UInt64) v_14))), (13, .one (.val (S (rU UInt64) s_17))), (15, .one (.val (S (rU UInt64) v_19))), (57, .one (.val (S (rU UInt64) v_19))), (59, .one (.val (S (rU UInt64) v_20)))], [], []⟩ ?_
    replace hm := lt1_inv hm
    obtain ⟨v_21, hv_v_21, hm⟩ := hm
    refine JL.cons rfl (op_cmpU (ltB rfl) (.tmp rfl) (.tmp rfl) (congrArg some hv_v_21)) ?_
    refine JL.nil ?_
    refine JQ.then ?_
    replace hm := iteB_inv hm
    rcases hm with ⟨hc12, hm⟩ | ⟨hc12, hm⟩
    · refine JC.condT (.tmp rfl) hc12 ?_
      refine JC.seq ?_
      refine JC.region ?_
      refine JL.cons rfl (op_move (ltB rfl) (.tmp rfl)) ?_
      refine JL.cons rfl (op_move (ltB rfl) (.tmp rfl)) ?_
      replace hm := lt1_inv hm
      obtain ⟨v_22, hv_v_22, hm⟩ := hm
      refine JL.cons rfl (op_shrUU (ltB rfl) (.tmp rfl) (HasO.cU (x := (32 : UInt64)) rfl (by decide)) hv_v_22) ?_
      replace hm := lt1_inv hm
      obtain ⟨v_23, hv_v_23, hm⟩ := hm
      refine JL.cons rfl (op_cmpU (ltB rfl) (.tmp rfl) (.tmp rfl) (congrArg some hv_v_23)) ?_
      refine JL.cons rfl (op_assign (ltB rfl) (.tmp rfl)) ?_
      refine JL.pre (Imp.sub (ρ' := [(6, .one (.val (S rB v_23)))]) (.cons rfl .nil)) ?_
      refine JL.at ⟨[(6, .one (.val (S rB v_23)))], [], []⟩ ?_
      refine JL.nil ?_
      refine JQ.then ?_
      refine JC.ret ?_
      refine JQ.outR ?_
      replace hm := Option.some.inj hm
      subst hm
      exact JQ.done (js := []) (ss := [.val (S rB v_23)]) () (.inl rfl) (.nil rfl) rfl (.cons (.tmp rfl) .nil) rfl rfl rfl
    · refine JC.condF (.tmp rfl) hc12 ?_
      refine JC.skip ?_
      refine JQ.then ?_
      replace hm := bnd_inv hm
      obtain ⟨x_31, hx13, hq13⟩ := hm
      refine JC.seqJ (γ := Unit) (stj := fun q => ⟨[(6, .one (.val (S rB x_31)))], [], []⟩) (fun q => ?_) ?_
      · obtain _ := q
        refine JC.at ⟨[(6, .one (.val (S rB x_31)))], [], []⟩ ?_
        refine JC.ret ?_
        replace hq13 := Option.some.inj hq13
        subst hq13
        exact JQ.done (js := []) (ss := [.val (S rB x_31)]) () (.inl rfl) (.nil rfl) rfl (.cons (.tmp rfl) .nil) rfl rfl rfl
      · refine JC.region ?_
        refine JL.cons rfl (op_move (ltB rfl) (.tmp rfl)) ?_
        refine JL.cons rfl (op_move (ltB rfl) (.tmp rfl)) ?_
        replace hx13 := lt1_inv hx13
        obtain ⟨v_24, hv_v_24, hx13⟩ := hx13
        refine JL.cons rfl (op_shlUU (ltB rfl) (.tmp rfl) (HasO.cU (x := (32 : UInt64)) rfl (by decide)) hv_v_24) ?_
        replace hx13 := lt1_inv hx13
        obtain ⟨v_25, hv_v_25, hx13⟩ := hx13
        refine JL.cons rfl (op_cmpU (ltB rfl) (.tmp rfl) (.tmp rfl) (congrArg some hv_v_25)) ?_
        refine JL.cons rfl (op_move (ltB rfl) (.tmp rfl)) ?_
        refine JL.pre (Imp.sub (ρ' := [(2, .one (.val (S (rU UInt64) a_3))), (10, .one (.val (S (rU UInt64) v_14))), (13, .one (.val (S (rU UInt64) s_17))), (69, .one (.val (S rB v_25)))]) (.cons rfl (.cons rfl (.cons rfl (.cons rfl .nil))))) ?_
        refine JL.at ⟨[(2, .one (.val (S (rU UInt64) a_3))), (10, .one (.val (S (rU UInt64) v_14))), (13, .one (.val (S (rU UInt64) s_17))), (69, .one (.val (S rB v_25)))], [], []⟩ ?_
        refine JL.cnd (sv := .one (.val (S (rU UInt64) s_17))) (Guard.isF (ltB rfl) rfl rfl) rfl (ltB rfl) (fun hq_14 => op_move (ltB rfl) (.tmp rfl)) ?_
        refine JL.cnd (sv := .one (.val (S (rU UInt64) a_3))) (Guard.isF (ltB rfl) rfl rfl) rfl (ltB rfl) (fun hq_15 => op_move (ltB rfl) (.tmp rfl)) ?_
        replace hx13 := lt1_inv hx13
        obtain ⟨v_26, hv_v_26, hx13⟩ := hx13
        refine JL.cnd (sv := .one (.val (S (rU UInt64) v_26))) (Guard.isF (ltB rfl) rfl rfl) rfl (ltB rfl) (fun hq_16 => op_shlUU (ltB rfl) (HasO.cnd (.tmp rfl) (notT (notF hq_16))) (HasO.cU (x := (32 : UInt64)) rfl (by decide)) hv_v_26) ?_
        replace hx13 := lt1_inv hx13
        obtain ⟨v_27, hv_v_27, hx13⟩ := hx13
        refine JL.cnd (sv := .one (.val (S rB v_27))) (Guard.isF (ltB rfl) rfl rfl) rfl (ltB rfl) (fun hq_17 => op_cmpU (ltB rfl) (HasO.cnd (.tmp rfl) (notT (notF hq_17))) (HasO.cnd (.tmp rfl) (notT (notF hq_17))) (congrArg some hv_v_27)) ?_
        refine JL.cnd (sv := .one (.val (S rB v_27))) (Guard.isF (ltB rfl) rfl rfl) rfl (ltB rfl) (fun hq_18 => op_move (ltB rfl) (HasO.cnd (.tmp rfl) (notT (notF hq_18)))) ?_
        refine JL.cnd (sv := .one (.val (S (rU UInt64) v_14))) (Guard.cT (q := (!v_25)) (ltB rfl) rfl rfl) rfl (ltB rfl) (fun hq_19 => op_move (ltB rfl) (.tmp rfl)) ?_
        refine JL.pre (Imp.sub (ρ' := [(69, .one (.val (S rB v_25))), (74, bif (!v_25) then .one (.val (S rB v_27)) else .one .und), (75, bif ((!v_25) && v_27) then .one (.val (S (rU UInt64) v_14)) else .one .und)]) (.cons rfl (.cons rfl (.cons rfl .nil)))) ?_
        refine JL.at ⟨[(69, .one (.val (S rB v_25))), (74, bif (!v_25) then .one (.val (S rB v_27)) else .one .und), (75, bif ((!v_25) && v_27) then .one (.val (S (rU UInt64) v_14)) else .one .und)], [], []⟩ ?_
        replace hx13 := lt1_inv hx13
        obtain ⟨v_28, hv_v_28, hx13⟩ := hx13
        refine JL.cnd (sv := .one (.val (S rB v_28))) (Guard.cT (q := (!v_25)) (ltB rfl) rfl rfl) rfl (ltB rfl) (fun hq_20 => op_cmpU (ltB rfl) (HasO.cnd (.tmp rfl) (andI (notT (notF (andL hq_20))) (andR hq_20))) (HasO.cU (x := (0 : UInt64)) rfl (by decide)) (congrArg some hv_v_28)) ?_
        replace hx13 := lt1_inv hx13
        obtain ⟨v_29, hv_v_29, hx13⟩ := hx13
        refine JL.cnd (sv := .one (.val (S rB v_29))) (Guard.isF (ltB rfl) rfl rfl) rfl (ltB rfl) (fun hq_21 => op_pickCS (ltB rfl) (HasO.cnd (.tmp rfl) (notT (notF hq_21))) (fun hb22 => (HasO.cnd (.tmp rfl) (andI (notT (notF hq_21)) hb22))) (fun hb22 => .cB) hv_v_29) ?_
        replace hx13 := lt1_inv hx13
        obtain ⟨v_30, hv_v_30, hx13⟩ := hx13
        refine JL.cons rfl (op_pickCS (ltB rfl) (.tmp rfl) (fun hb23 => .cB) (fun hb23 => (HasO.cnd (.tmp rfl) (notT hb23))) hv_v_30) ?_
        refine JL.cons rfl (op_assign (ltB rfl) (.tmp rfl)) ?_
        refine JL.nil ?_
        replace hx13 := Option.some.inj hx13
        first | subst hx13 | clear hx13
        exact JQ.join () (Imp.norm (js := []) rfl (.cons rfl .nil))

theorem sim_ref03_root (k : Nat) (p_1 : UInt64) (n_2 : Int) (r : UInt32) (hm : ref03_root k p_1 n_2 = some r) : Sim Try.prog 35 [S (rU UInt64) p_1, S (rI .i64) n_2] [] (γ := Unit) (fun q => []) (fun q => .one (.val (S (rU UInt32) r))) := by
  unfold ref03_root at hm
  refine Sim.of Try.func35 rfl rfl (Nat.le_of_ble_eq_true rfl) (fun e0 w0 => ?_)
  refine JC.at ⟨[(0, .one (.val (S (rU UInt64) p_1))), (1, .one (.val (S (rI .i64) n_2)))], [], []⟩ ?_
  refine JC.seq ?_
  refine JC.region ?_
  refine JL.cons rfl (op_assign (ltB rfl) (HasO.cU (x := (0 : UInt32)) rfl (by decide))) ?_
  refine JL.nil ?_
  refine JQ.then ?_
  refine JC.seq ?_
  refine JC.region ?_
  refine JL.cons rfl (op_assign (ltB rfl) (HasO.cU (x := (0 : UInt64)) rfl (by decide))) ?_
  refine JL.nil ?_
  refine JQ.then ?_
  replace hm := bnd_inv hm
  obtain ⟨x_12, hx1, hq1⟩ := hm
  refine JC.seqJ (γ := Unit) (stj := fun q => ⟨[(5, .one (.val (S (rU UInt64) x_12)))], [], []⟩) (fun q => ?_) ?_
  · obtain _ := q
    refine JC.at ⟨[(5, .one (.val (S (rU UInt64) x_12)))], [], []⟩ ?_
    refine JC.seq ?_
    refine JC.region ?_
    refine JL.cons rfl (op_move (ltB rfl) (.tmp rfl)) ?_
    replace hq1 := lt1_inv hq1
    obtain ⟨v_13, hv_v_13, hq1⟩ := hq1
    refine JL.cons rfl (op_convUU (ltB rfl) tu65 tu46 (.tmp rfl) hv_v_13) ?_
    refine JL.cons rfl (op_assign (ltB rfl) (.tmp rfl)) ?_
    refine JL.nil ?_
    refine JQ.then ?_
    refine JC.ret ?_
    replace hq1 := Option.some.inj hq1
    subst hq1
    exact JQ.done (js := []) (ss := [.val (S (rU UInt32) v_13)]) () (.inl rfl) (.nil rfl) rfl (.cons (.tmp rfl) .nil) rfl rfl rfl
  · refine JC.seq ?_
    refine JC.region ?_
    refine JL.cons rfl (op_assign (ltB rfl) .cI) ?_
    refine JL.nil ?_
    refine JQ.then ?_
    refine JC.block ?_
    refine JC.pre ?_ (JC.loop (γ := Unit) (stf := fun s q => ⟨[(0, .one (.val (S (rU UInt64) p_1))), (1, .one (.val (S (rI .i64) n_2))), (5, .one (.val (S (rU UInt64) s.1))), (6, .one (.val (S (rI .i64) s.2)))], [], []⟩) (q := ()) hx1 ?_)
    · exact (Imp.norm (js := []) rfl (.cons rfl (.cons rfl (.cons rfl (.cons rfl .nil)))))
    · intro s q x hx hr
      obtain ⟨x_3, b_4⟩ := s
      obtain _ := q
      change ref03_root.b1 k n_2 p_1 x_3 b_4 = some x at hx
      unfold ref03_root.b1 at hx
      refine JC.at ⟨[(0, .one (.val (S (rU UInt64) p_1))), (1, .one (.val (S (rI .i64) n_2))), (5, .one (.val (S (rU UInt64) x_3))), (6, .one (.val (S (rI .i64) b_4)))], [], []⟩ ?_
      refine JC.seq ?_
      refine JC.seq ?_
      refine JC.region ?_
      refine JL.cons rfl (op_move (ltB rfl) (.tmp rfl)) ?_
      replace hx := lt1_inv hx
      obtain ⟨v_5, hv_v_5, hx⟩ := hx
      refine JL.cons rfl (op_cmpI (ltB rfl) (.tmp rfl) .cI (congrArg some hv_v_5)) ?_
      refine JL.nil ?_
      refine JQ.then ?_
      replace hx := iteB_inv hx
      rcases hx with ⟨hc3, hx⟩ | ⟨hc3, hx⟩
      · refine JC.condT (.tmp rfl) hc3 ?_
        refine JC.skip ?_
        refine JQ.then ?_
        replace hx := bnd_inv hx
        obtain ⟨x_10, hx4, hq4⟩ := hx
        refine JC.seqJ (γ := Unit) (stj := fun q => ⟨[(0, .one (.val (S (rU UInt64) p_1))), (1, .one (.val (S (rI .i64) n_2))), (5, .one (.val (S (rU UInt64) x_10))), (6, .one (.val (S (rI .i64) b_4)))], [], []⟩) (fun q => ?_) ?_
        · obtain _ := q
          refine JC.at ⟨[(0, .one (.val (S (rU UInt64) p_1))), (1, .one (.val (S (rI .i64) n_2))), (5, .one (.val (S (rU UInt64) x_10))), (6, .one (.val (S (rI .i64) b_4)))], [], []⟩ ?_
          refine JC.region ?_
          refine JL.cons rfl (op_move (ltB rfl) (.tmp rfl)) ?_
          replace hq4 := lt1_inv hq4
          obtain ⟨v_11, hv_v_11, hq4⟩ := hq4
          refine JL.cons rfl (op_arI (ltB rfl) (.tmp rfl) .cI (congrArg some hv_v_11)) ?_
          refine JL.cons rfl (op_assign (ltB rfl) (.tmp rfl)) ?_
          refine JL.nil ?_
          replace hq4 := Option.some.inj hq4
          first | subst hq4 | clear hq4
          exact JQ.next () rfl (Imp.norm (js := []) rfl (.cons rfl (.cons rfl (.cons rfl (.cons rfl .nil)))))
        · refine JC.block ?_
          refine JC.seq ?_
          refine JC.region ?_
          refine JL.cons rfl (op_move (ltB rfl) (.tmp rfl)) ?_
          refine JL.cons rfl (op_move (ltB rfl) (.tmp rfl)) ?_
          replace hx4 := lt1_inv hx4
          obtain ⟨v_6, hv_v_6, hx4⟩ := hx4
          refine JL.cons rfl (op_convIU (ltB rfl) tu3 tu59 (.tmp rfl) hv_v_6) ?_
          replace hx4 := lt1_inv hx4
          obtain ⟨v_7, hv_v_7, hx4⟩ := hx4
          refine JL.cons rfl (op_shlUU (ltB rfl) (HasO.cU (x := (1 : UInt64)) rfl (by decide)) (.tmp rfl) hv_v_7) ?_
          refine JL.pre (Imp.sub (ρ' := [(0, .one (.val (S (rU UInt64) p_1))), (1, .one (.val (S (rI .i64) n_2))), (5, .one (.val (S (rU UInt64) x_3))), (6, .one (.val (S (rI .i64) b_4))), (12, .one (.val (S (rU UInt64) x_3))), (15, .one (.val (S (rU UInt64) v_7)))]) (.cons rfl (.cons rfl (.cons rfl (.cons rfl (.cons rfl (.cons rfl .nil))))))) ?_
          refine JL.at ⟨[(0, .one (.val (S (rU UInt64) p_1))), (1, .one (.val (S (rI .i64) n_2))), (5, .one (.val (S (rU UInt64) x_3))), (6, .one (.val (S (rI .i64) b_4))), (12, .one (.val (S (rU UInt64) x_3))), (15, .one (.val (S (rU UInt64) v_7)))], [], []⟩ ?_
          replace hx4 := lt1_inv hx4
          obtain ⟨v_8, hv_v_8, hx4⟩ := hx4
          refine JL.cons rfl (op_arU (ltB rfl) (.tmp rfl) (.tmp rfl) (congrArg some hv_v_8)) ?_
          refine JL.cons rfl (op_assign (ltB rfl) (.tmp rfl)) ?_
          refine JL.nil ?_
          refine JQ.then ?_
          refine JC.seq ?_
          refine JC.region ?_
          refine JL.cons rfl (op_move (ltB rfl) (.tmp rfl)) ?_
          refine JL.cons rfl (op_move (ltB rfl) (.tmp rfl)) ?_
          refine JL.cons rfl (op_move (ltB rfl) (.tmp rfl)) ?_
          replace hx4 := bnd_inv hx4
          obtain ⟨v_9, hv_v_9, hx4⟩ := hx4
          refine JL.consX rfl (op_call (js := []) (ltD rfl) cl49 (sim_ref03_power k v_8 n_2 p_1 v_9 hv_v_9) .func (.cons (.tmp rfl) (.cons (.tmp rfl) (.cons (.tmp rfl) .nil))) rfl) (fun _ => ?_)
          refine JL.pre (Imp.sub (ρ' := [(0, .one (.val (S (rU UInt64) p_1))), (1, .one (.val (S (rI .i64) n_2))), (5, .one (.val (S (rU UInt64) x_3))), (6, .one (.val (S (rI .i64) b_4))), (7, .one (.val (S (rU UInt64) v_8))), (20, .one (.val (S rB v_9)))]) (.cons rfl (.cons rfl (.cons rfl (.cons rfl (.cons rfl (.cons rfl .nil))))))) ?_
          refine JL.at ⟨[(0, .one (.val (S (rU UInt64) p_1))), (1, .one (.val (S (rI .i64) n_2))), (5, .one (.val (S (rU UInt64) x_3))), (6, .one (.val (S (rI .i64) b_4))), (7, .one (.val (S (rU UInt64) v_8))), (20, .one (.val (S rB v_9)))], [], []⟩ ?_
          refine JL.nil ?_
          refine JQ.then ?_
          replace hx4 := iteB_inv hx4
          rcases hx4 with ⟨hc5, hx4⟩ | ⟨hc5, hx4⟩
          · refine JC.condT (.tmp rfl) hc5 ?_
            refine JC.region ?_
            refine JL.cons rfl (op_move (ltB rfl) (.tmp rfl)) ?_
            refine JL.cons rfl (op_assign (ltB rfl) (.tmp rfl)) ?_
            refine JL.nil ?_
            refine JQ.outNB ?_
            replace hx4 := Option.some.inj hx4
            first | subst hx4 | clear hx4
            exact JQ.join () (Imp.norm (js := []) rfl (.cons rfl (.cons rfl (.cons rfl (.cons rfl .nil)))))
          · refine JC.condF (.tmp rfl) hc5 ?_
            refine JC.skip ?_
            refine JQ.outNB ?_
            replace hx4 := Option.some.inj hx4
            first | subst hx4 | clear hx4
            exact JQ.join () (Imp.norm (js := []) rfl (.cons rfl (.cons rfl (.cons rfl (.cons rfl .nil)))))
      · refine JC.condF (.tmp rfl) hc3 ?_
        refine JC.exit ?_
        refine JQ.outX ?_
        replace hx := Option.some.inj hx
        first | subst hx | clear hx
        have ht := hr _ rfl
        have hq2 := congrArg some ht
        clear hr ht
        refine JQ.outX ?_
        refine JQ.here ?_
        replace hq2 := Option.some.inj hq2
        first | subst hq2 | clear hq2
        exact JQ.join () (Imp.norm (js := []) rfl (.cons rfl .nil))

end Go.Proofs.Ytdncoiehmkcajaa
