/- Walks. -/
import Derived.Test.YthoggbomakolkaaT
namespace Go.Proofs.Ythoggbomakolkaa
open Go Fw
set_option linter.unusedVariables false
set_option maxRecDepth 100000
set_option maxHeartbeats 4000000

theorem sim_cmp_isNaNint (k : Nat) (x_1 : Int) (r : Bool) (hm : cmp_isNaNint k x_1 = some r) : Sim Try.prog 51 [S (rI .i64) x_1] [] (γ := Unit) (fun q => []) (fun q => .one (.val (S rB r))) := by
  unfold cmp_isNaNint at hm
  refine Sim.of Try.func51 rfl rfl (Nat.le_of_ble_eq_true rfl) (fun e0 w0 => ?_)
  refine JC.at ⟨[(0, .one (.val (S (rI .i64) x_1)))], [], []⟩ ?_
  refine JC.seq ?_
  refine JC.region ?_
  refine JL.cons rfl (op_assign (ltB rfl) .cB) ?_
  refine JL.nil ?_
  refine JQ.then ?_
  refine JC.seq ?_
  refine JC.region ?_
  refine JL.cons rfl (op_move (ltB rfl) (.tmp rfl)) ?_
  refine JL.cons rfl (op_move (ltB rfl) (.tmp rfl)) ?_
  replace hm := lt1_inv hm
  obtain ⟨v_2, hv_v_2, hm⟩ := hm
  refine JL.cons rfl (op_cmpI (ltB rfl) (.tmp rfl) (.tmp rfl) (congrArg some hv_v_2)) ?_
  refine JL.cons rfl (op_assign (ltB rfl) (.tmp rfl)) ?_
  refine JL.nil ?_
  refine JQ.then ?_
  refine JC.ret ?_
  replace hm := Option.some.inj hm
  subst hm
  exact JQ.done (js := []) (ss := [.val (S rB v_2)]) () (.inl rfl) (.nil rfl) rfl (.cons (.tmp rfl) .nil) rfl rfl rfl

theorem sim_cmp_Compareint (k : Nat) (x_1 : Int) (y_2 : Int) (r : Int) (hm : cmp_Compareint k x_1 y_2 = some r) : Sim Try.prog 25 [S (rI .i64) x_1, S (rI .i64) y_2] [] (γ := Unit) (fun q => []) (fun q => .one (.val (S (rI .i64) r))) := by
  unfold cmp_Compareint at hm
  refine Sim.of Try.func25 rfl rfl (Nat.le_of_ble_eq_true rfl) (fun e0 w0 => ?_)
  refine JC.at ⟨[(0, .one (.val (S (rI .i64) x_1))), (1, .one (.val (S (rI .i64) y_2)))], [], []⟩ ?_
  refine JC.seq ?_
  refine JC.region ?_
  refine JL.cons rfl (op_assign (ltB rfl) .cI) ?_
  refine JL.nil ?_
  refine JQ.then ?_
  refine JC.seq ?_
  refine JC.region ?_
  refine JL.cons rfl (op_move (ltB rfl) (.tmp rfl)) ?_
  replace hm := bnd_inv hm
  obtain ⟨v_3, hv_v_3, hm⟩ := hm
  refine JL.consX rfl (op_call (js := []) (ltD rfl) cl51 (sim_cmp_isNaNint k x_1 v_3 hv_v_3) .func (.cons (.tmp rfl) .nil) rfl) (fun _ => ?_)
  refine JL.cons rfl (op_assign (ltB rfl) (.tmp rfl)) ?_
  refine JL.nil ?_
  refine JQ.then ?_
  refine JC.seq ?_
  refine JC.region ?_
  refine JL.cons rfl (op_move (ltB rfl) (.tmp rfl)) ?_
  replace hm := bnd_inv hm
  obtain ⟨v_4, hv_v_4, hm⟩ := hm
  refine JL.consX rfl (op_call (js := []) (ltD rfl) cl51 (sim_cmp_isNaNint k y_2 v_4 hv_v_4) .func (.cons (.tmp rfl) .nil) rfl) (fun _ => ?_)
  refine JL.pre (Imp.sub (ρ' := [(0, .one (.val (S (rI .i64) x_1))), (1, .one (.val (S (rI .i64) y_2))), (5, .one (.val (S rB v_3))), (10, .one (.val (S rB v_4)))]) (.cons rfl (.cons rfl (.cons rfl (.cons rfl .nil))))) ?_
  refine JL.at ⟨[(0, .one (.val (S (rI .i64) x_1))), (1, .one (.val (S (rI .i64) y_2))), (5, .one (.val (S rB v_3))), (10, .one (.val (S rB v_4)))], [], []⟩ ?_
  refine JL.cons rfl (op_assign (ltB rfl) (.tmp rfl)) ?_
  refine JL.nil ?_
  refine JQ.then ?_
  refine JC.seq ?_
  refine JC.seq ?_
  refine JC.region ?_
  refine JL.cons rfl (op_move (ltB rfl) (.tmp rfl)) ?_
  refine JL.nil ?_
  refine JQ.then ?_
  rcases iteB_inv hm with ⟨hc1, hm⟩ | ⟨hc1, hm⟩
  · refine JC.condT (.tmp rfl) hc1 ?_
    refine JC.seq ?_
    refine JC.seq ?_
    refine JC.region ?_
    refine JL.cons rfl (op_move (ltB rfl) (.tmp rfl)) ?_
    refine JL.nil ?_
    refine JQ.then ?_
    rcases iteB_inv hm with ⟨hc2, hm⟩ | ⟨hc2, hm⟩
    · refine JC.condT (.tmp rfl) hc2 ?_
      refine JC.seq ?_
      refine JC.region ?_
      refine JL.cons rfl (op_assign (ltB rfl) .cI) ?_
      refine JL.nil ?_
      refine JQ.then ?_
      refine JC.ret ?_
      refine JQ.outR ?_
      refine JQ.outR ?_
      replace hm := Option.some.inj hm
      subst hm
      exact JQ.done (js := []) (ss := [.val (S (rI .i64) (0 : Int))]) () (.inl rfl) (.nil rfl) rfl (.cons (.tmp rfl) .nil) rfl rfl rfl
    · refine JC.condF (.tmp rfl) hc2 ?_
      refine JC.skip ?_
      refine JQ.then ?_
      refine JC.seq ?_
      refine JC.region ?_
      refine JL.cons rfl (op_assign (ltB rfl) .cI) ?_
      refine JL.nil ?_
      refine JQ.then ?_
      refine JC.ret ?_
      refine JQ.outR ?_
      replace hm := Option.some.inj hm
      subst hm
      exact JQ.done (js := []) (ss := [.val (S (rI .i64) (-1 : Int))]) () (.inl rfl) (.nil rfl) rfl (.cons (.tmp rfl) .nil) rfl rfl rfl
  · refine JC.condF (.tmp rfl) hc1 ?_
    refine JC.skip ?_
    refine JQ.then ?_
    refine JC.seq ?_
    refine JC.seq ?_
    refine JC.region ?_
    refine JL.cons rfl (op_move (ltB rfl) (.tmp rfl)) ?_
    refine JL.nil ?_
    refine JQ.then ?_
    rcases iteB_inv hm with ⟨hc3, hm⟩ | ⟨hc3, hm⟩
    · refine JC.condT (.tmp rfl) hc3 ?_
      refine JC.seq ?_
      refine JC.region ?_
      refine JL.cons rfl (op_assign (ltB rfl) .cI) ?_
      refine JL.nil ?_
      refine JQ.then ?_
      refine JC.ret ?_
      refine JQ.outR ?_
      replace hm := Option.some.inj hm
      subst hm
      exact JQ.done (js := []) (ss := [.val (S (rI .i64) (1 : Int))]) () (.inl rfl) (.nil rfl) rfl (.cons (.tmp rfl) .nil) rfl rfl rfl
    · refine JC.condF (.tmp rfl) hc3 ?_
      refine JC.skip ?_
      refine JQ.then ?_
      refine JC.seq ?_
      refine JC.seq ?_
      refine JC.region ?_
      refine JL.cons rfl (op_move (ltB rfl) (.tmp rfl)) ?_
      refine JL.cons rfl (op_move (ltB rfl) (.tmp rfl)) ?_
      replace hm := lt1_inv hm
      obtain ⟨v_5, hv_v_5, hm⟩ := hm
      refine JL.cons rfl (op_cmpI (ltB rfl) (.tmp rfl) (.tmp rfl) (congrArg some hv_v_5)) ?_
      refine JL.pre (Imp.sub (ρ' := [(0, .one (.val (S (rI .i64) x_1))), (1, .one (.val (S (rI .i64) y_2))), (16, .one (.val (S rB v_5)))]) (.cons rfl (.cons rfl (.cons rfl .nil)))) ?_
      refine JL.at ⟨[(0, .one (.val (S (rI .i64) x_1))), (1, .one (.val (S (rI .i64) y_2))), (16, .one (.val (S rB v_5)))], [], []⟩ ?_
      refine JL.nil ?_
      refine JQ.then ?_
      rcases iteB_inv hm with ⟨hc4, hm⟩ | ⟨hc4, hm⟩
      · refine JC.condT (.tmp rfl) hc4 ?_
        refine JC.seq ?_
        refine JC.region ?_
        refine JL.cons rfl (op_assign (ltB rfl) .cI) ?_
        refine JL.nil ?_
        refine JQ.then ?_
        refine JC.ret ?_
        refine JQ.outR ?_
        replace hm := Option.some.inj hm
        subst hm
        exact JQ.done (js := []) (ss := [.val (S (rI .i64) (-1 : Int))]) () (.inl rfl) (.nil rfl) rfl (.cons (.tmp rfl) .nil) rfl rfl rfl
      · refine JC.condF (.tmp rfl) hc4 ?_
        refine JC.skip ?_
        refine JQ.then ?_
        refine JC.seq ?_
        refine JC.seq ?_
        refine JC.region ?_
        refine JL.cons rfl (op_move (ltB rfl) (.tmp rfl)) ?_
        refine JL.cons rfl (op_move (ltB rfl) (.tmp rfl)) ?_
        replace hm := lt1_inv hm
        obtain ⟨v_6, hv_v_6, hm⟩ := hm
        refine JL.cons rfl (op_cmpI (ltB rfl) (.tmp rfl) (.tmp rfl) (congrArg some hv_v_6)) ?_
        refine JL.nil ?_
        refine JQ.then ?_
        rcases iteB_inv hm with ⟨hc5, hm⟩ | ⟨hc5, hm⟩
        · refine JC.condT (.tmp rfl) hc5 ?_
          refine JC.seq ?_
          refine JC.region ?_
          refine JL.cons rfl (op_assign (ltB rfl) .cI) ?_
          refine JL.nil ?_
          refine JQ.then ?_
          refine JC.ret ?_
          refine JQ.outR ?_
          replace hm := Option.some.inj hm
          subst hm
          exact JQ.done (js := []) (ss := [.val (S (rI .i64) (1 : Int))]) () (.inl rfl) (.nil rfl) rfl (.cons (.tmp rfl) .nil) rfl rfl rfl
        · refine JC.condF (.tmp rfl) hc5 ?_
          refine JC.skip ?_
          refine JQ.then ?_
          refine JC.seq ?_
          refine JC.region ?_
          refine JL.cons rfl (op_assign (ltB rfl) .cI) ?_
          refine JL.nil ?_
          refine JQ.then ?_
          refine JC.ret ?_
          replace hm := Option.some.inj hm
          subst hm
          exact JQ.done (js := []) (ss := [.val (S (rI .i64) (0 : Int))]) () (.inl rfl) (.nil rfl) rfl (.cons (.tmp rfl) .nil) rfl rfl rfl

theorem sim_cmp_isNaNuint64 (k : Nat) (x_1 : UInt64) (r : Bool) (hm : cmp_isNaNuint64 k x_1 = some r) : Sim Try.prog 52 [S (rU UInt64) x_1] [] (γ := Unit) (fun q => []) (fun q => .one (.val (S rB r))) := by
  unfold cmp_isNaNuint64 at hm
  refine Sim.of Try.func52 rfl rfl (Nat.le_of_ble_eq_true rfl) (fun e0 w0 => ?_)
  refine JC.at ⟨[(0, .one (.val (S (rU UInt64) x_1)))], [], []⟩ ?_
  refine JC.seq ?_
  refine JC.region ?_
  refine JL.cons rfl (op_assign (ltB rfl) .cB) ?_
  refine JL.nil ?_
  refine JQ.then ?_
  refine JC.seq ?_
  refine JC.region ?_
  refine JL.cons rfl (op_move (ltB rfl) (.tmp rfl)) ?_
  refine JL.cons rfl (op_move (ltB rfl) (.tmp rfl)) ?_
  replace hm := lt1_inv hm
  obtain ⟨v_2, hv_v_2, hm⟩ := hm
  refine JL.cons rfl (op_cmpU (ltB rfl) (.tmp rfl) (.tmp rfl) (congrArg some hv_v_2)) ?_
  refine JL.cons rfl (op_assign (ltB rfl) (.tmp rfl)) ?_
  refine JL.nil ?_
  refine JQ.then ?_
  refine JC.ret ?_
  replace hm := Option.some.inj hm
  subst hm
  exact JQ.done (js := []) (ss := [.val (S rB v_2)]) () (.inl rfl) (.nil rfl) rfl (.cons (.tmp rfl) .nil) rfl rfl rfl

theorem sim_cmp_Compareuint64 (k : Nat) (x_1 : UInt64) (y_2 : UInt64) (r : Int) (hm : cmp_Compareuint64 k x_1 y_2 = some r) : Sim Try.prog 26 [S (rU UInt64) x_1, S (rU UInt64) y_2] [] (γ := Unit) (fun q => []) (fun q => .one (.val (S (rI .i64) r))) := by
  unfold cmp_Compareuint64 at hm
  refine Sim.of Try.func26 rfl rfl (Nat.le_of_ble_eq_true rfl) (fun e0 w0 => ?_)
  refine JC.at ⟨[(0, .one (.val (S (rU UInt64) x_1))), (1, .one (.val (S (rU UInt64) y_2)))], [], []⟩ ?_
  refine JC.seq ?_
  refine JC.region ?_
  refine JL.cons rfl (op_assign (ltB rfl) .cI) ?_
  refine JL.nil ?_
  refine JQ.then ?_
  refine JC.seq ?_
  refine JC.region ?_
  refine JL.cons rfl (op_move (ltB rfl) (.tmp rfl)) ?_
  replace hm := bnd_inv hm
  obtain ⟨v_3, hv_v_3, hm⟩ := hm
  refine JL.consX rfl (op_call (js := []) (ltD rfl) cl52 (sim_cmp_isNaNuint64 k x_1 v_3 hv_v_3) .func (.cons (.tmp rfl) .nil) rfl) (fun _ => ?_)
  refine JL.cons rfl (op_assign (ltB rfl) (.tmp rfl)) ?_
  refine JL.nil ?_
  refine JQ.then ?_
  refine JC.seq ?_
  refine JC.region ?_
  refine JL.cons rfl (op_move (ltB rfl) (.tmp rfl)) ?_
  replace hm := bnd_inv hm
  obtain ⟨v_4, hv_v_4, hm⟩ := hm
  refine JL.consX rfl (op_call (js := []) (ltD rfl) cl52 (sim_cmp_isNaNuint64 k y_2 v_4 hv_v_4) .func (.cons (.tmp rfl) .nil) rfl) (fun _ => ?_)
  refine JL.pre (Imp.sub (ρ' := [(0, .one (.val (S (rU UInt64) x_1))), (1, .one (.val (S (rU UInt64) y_2))), (5, .one (.val (S rB v_3))), (10, .one (.val (S rB v_4)))]) (.cons rfl (.cons rfl (.cons rfl (.cons rfl .nil))))) ?_
  refine JL.at ⟨[(0, .one (.val (S (rU UInt64) x_1))), (1, .one (.val (S (rU UInt64) y_2))), (5, .one (.val (S rB v_3))), (10, .one (.val (S rB v_4)))], [], []⟩ ?_
  refine JL.cons rfl (op_assign (ltB rfl) (.tmp rfl)) ?_
  refine JL.nil ?_
  refine JQ.then ?_
  refine JC.seq ?_
  refine JC.seq ?_
  refine JC.region ?_
  refine JL.cons rfl (op_move (ltB rfl) (.tmp rfl)) ?_
  refine JL.nil ?_
  refine JQ.then ?_
  rcases iteB_inv hm with ⟨hc1, hm⟩ | ⟨hc1, hm⟩
  · refine JC.condT (.tmp rfl) hc1 ?_
    refine JC.seq ?_
    refine JC.seq ?_
    refine JC.region ?_
    refine JL.cons rfl (op_move (ltB rfl) (.tmp rfl)) ?_
    refine JL.nil ?_
    refine JQ.then ?_
    rcases iteB_inv hm with ⟨hc2, hm⟩ | ⟨hc2, hm⟩
    · refine JC.condT (.tmp rfl) hc2 ?_
      refine JC.seq ?_
      refine JC.region ?_
      refine JL.cons rfl (op_assign (ltB rfl) .cI) ?_
      refine JL.nil ?_
      refine JQ.then ?_
      refine JC.ret ?_
      refine JQ.outR ?_
      refine JQ.outR ?_
      replace hm := Option.some.inj hm
      subst hm
      exact JQ.done (js := []) (ss := [.val (S (rI .i64) (0 : Int))]) () (.inl rfl) (.nil rfl) rfl (.cons (.tmp rfl) .nil) rfl rfl rfl
    · refine JC.condF (.tmp rfl) hc2 ?_
      refine JC.skip ?_
      refine JQ.then ?_
      refine JC.seq ?_
      refine JC.region ?_
      refine JL.cons rfl (op_assign (ltB rfl) .cI) ?_
      refine JL.nil ?_
      refine JQ.then ?_
      refine JC.ret ?_
      refine JQ.outR ?_
      replace hm := Option.some.inj hm
      subst hm
      exact JQ.done (js := []) (ss := [.val (S (rI .i64) (-1 : Int))]) () (.inl rfl) (.nil rfl) rfl (.cons (.tmp rfl) .nil) rfl rfl rfl
  · refine JC.condF (.tmp rfl) hc1 ?_
    refine JC.skip ?_
    refine JQ.then ?_
    refine JC.seq ?_
    refine JC.seq ?_
    refine JC.region ?_
    refine JL.cons rfl (op_move (ltB rfl) (.tmp rfl)) ?_
    refine JL.nil ?_
    refine JQ.then ?_
    rcases iteB_inv hm with ⟨hc3, hm⟩ | ⟨hc3, hm⟩
    · refine JC.condT (.tmp rfl) hc3 ?_
      refine JC.seq ?_
      refine JC.region ?_
      refine JL.cons rfl (op_assign (ltB rfl) .cI) ?_
      refine JL.nil ?_
      refine JQ.then ?_
      refine JC.ret ?_
      refine JQ.outR ?_
      replace hm := Option.some.inj hm
      subst hm
      exact JQ.done (js := []) (ss := [.val (S (rI .i64) (1 : Int))]) () (.inl rfl) (.nil rfl) rfl (.cons (.tmp rfl) .nil) rfl rfl rfl
    · refine JC.condF (.tmp rfl) hc3 ?_
      refine JC.skip ?_
      refine JQ.then ?_
      refine JC.seq ?_
      refine JC.seq ?_
      refine JC.region ?_
      refine JL.cons rfl (op_move (ltB rfl) (.tmp rfl)) ?_
      refine JL.cons rfl (op_move (ltB rfl) (.tmp rfl)) ?_
      replace hm := lt1_inv hm
      obtain ⟨v_5, hv_v_5, hm⟩ := hm
      refine JL.cons rfl (op_cmpU (ltB rfl) (.tmp rfl) (.tmp rfl) (congrArg some hv_v_5)) ?_
      refine JL.pre (Imp.sub (ρ' := [(0, .one (.val (S (rU UInt64) x_1))), (1, .one (.val (S (rU UInt64) y_2))), (16, .one (.val (S rB v_5)))]) (.cons rfl (.cons rfl (.cons rfl .nil)))) ?_
      refine JL.at ⟨[(0, .one (.val (S (rU UInt64) x_1))), (1, .one (.val (S (rU UInt64) y_2))), (16, .one (.val (S rB v_5)))], [], []⟩ ?_
      refine JL.nil ?_
      refine JQ.then ?_
      rcases iteB_inv hm with ⟨hc4, hm⟩ | ⟨hc4, hm⟩
      · refine JC.condT (.tmp rfl) hc4 ?_
        refine JC.seq ?_
        refine JC.region ?_
        refine JL.cons rfl (op_assign (ltB rfl) .cI) ?_
        refine JL.nil ?_
        refine JQ.then ?_
        refine JC.ret ?_
        refine JQ.outR ?_
        replace hm := Option.some.inj hm
        subst hm
        exact JQ.done (js := []) (ss := [.val (S (rI .i64) (-1 : Int))]) () (.inl rfl) (.nil rfl) rfl (.cons (.tmp rfl) .nil) rfl rfl rfl
      · refine JC.condF (.tmp rfl) hc4 ?_
        refine JC.skip ?_
        refine JQ.then ?_
        refine JC.seq ?_
        refine JC.seq ?_
        refine JC.region ?_
        refine JL.cons rfl (op_move (ltB rfl) (.tmp rfl)) ?_
        refine JL.cons rfl (op_move (ltB rfl) (.tmp rfl)) ?_
        replace hm := lt1_inv hm
        obtain ⟨v_6, hv_v_6, hm⟩ := hm
        refine JL.cons rfl (op_cmpU (ltB rfl) (.tmp rfl) (.tmp rfl) (congrArg some hv_v_6)) ?_
        refine JL.nil ?_
        refine JQ.then ?_
        rcases iteB_inv hm with ⟨hc5, hm⟩ | ⟨hc5, hm⟩
        · refine JC.condT (.tmp rfl) hc5 ?_
          refine JC.seq ?_
          refine JC.region ?_
          refine JL.cons rfl (op_assign (ltB rfl) .cI) ?_
          refine JL.nil ?_
          refine JQ.then ?_
          refine JC.ret ?_
          refine JQ.outR ?_
          replace hm := Option.some.inj hm
          subst hm
          exact JQ.done (js := []) (ss := [.val (S (rI .i64) (1 : Int))]) () (.inl rfl) (.nil rfl) rfl (.cons (.tmp rfl) .nil) rfl rfl rfl
        · refine JC.condF (.tmp rfl) hc5 ?_
          refine JC.skip ?_
          refine JQ.then ?_
          refine JC.seq ?_
          refine JC.region ?_
          refine JL.cons rfl (op_assign (ltB rfl) .cI) ?_
          refine JL.nil ?_
          refine JQ.then ?_
          refine JC.ret ?_
          replace hm := Option.some.inj hm
          subst hm
          exact JQ.done (js := []) (ss := [.val (S (rI .i64) (0 : Int))]) () (.inl rfl) (.nil rfl) rfl (.cons (.tmp rfl) .nil) rfl rfl rfl

theorem sim_cmp_Orint (k : Nat) (vals_1 : (List Int)) (r : Int) (hm : cmp_Orint k vals_1 = some r) : Sim Try.prog 24 [S (rL (rI .i64)) vals_1] [] (γ := Unit) (fun q => []) (fun q => .one (.val (S (rI .i64) r))) := by
  unfold cmp_Orint at hm
  refine Sim.of Try.func24 rfl rfl (Nat.le_of_ble_eq_true rfl) (fun e0 w0 => ?_)
  refine JC.at ⟨[(0, .one (.val (S (rL (rI .i64)) vals_1)))], [], []⟩ ?_
  refine JC.seq ?_
  refine JC.region ?_
  refine JL.cons rfl (op_assign (ltB rfl) .cI) ?_
  refine JL.nil ?_
  refine JQ.then ?_
  refine JC.seq ?_
  refine JC.region ?_
  refine JL.cons rfl (op_assign (ltB rfl) .cI) ?_
  refine JL.nil ?_
  refine JQ.then ?_
  obtain ⟨tv1, hx1, hq1⟩ := bnd_inv hm
  refine JC.seqK (α := Unit) (γ := Unit) (stj := fun v q => ⟨[(3, .one (.val (S (rI .i64) (0 : Int))))], [], []⟩) (p := fun v => tv1 = (.inl v)) (fun v q hv => ?_) ?_
  · subst hv
    skip
    obtain _ := q
    dsimp only at hq1
    refine JC.at ⟨[(3, .one (.val (S (rI .i64) (0 : Int))))], [], []⟩ ?_
    refine JC.seq ?_
    refine JC.region ?_
    refine JL.cons rfl (op_move (ltB rfl) (.tmp rfl)) ?_
    refine JL.cons rfl (op_assign (ltB rfl) (.tmp rfl)) ?_
    refine JL.nil ?_
    refine JQ.then ?_
    refine JC.ret ?_
    replace hq1 := Option.some.inj hq1
    subst hq1
    exact JQ.done (js := []) (ss := [.val (S (rI .i64) (0 : Int))]) () (.inl rfl) (.nil rfl) rfl (.cons (.tmp rfl) .nil) rfl rfl rfl
  · refine JC.seq ?_
    refine JC.region ?_
    refine JL.cons rfl (op_move (ltB rfl) (.tmp rfl)) ?_
    refine JL.cons rfl (op_lenL (ltB rfl) tu78 (.tmp rfl)) ?_
    refine JL.cons rfl (op_move (ltB rfl) .cI) ?_
    refine JL.nil ?_
    refine JQ.then ?_
    refine JC.block ?_
    obtain ⟨tv2, hL2, hq2⟩ := bnd_inv hx1
    refine JC.pre ?_ (JC.loop (γ := Unit) (stf := fun s q => ⟨[(3, .one (.val (S (rI .i64) (0 : Int)))), (6, .one (.val (S (rL (rI .i64)) vals_1))), (7, .one (.val (S (rI .i64) (List.length vals_1 : Int)))), (8, .one (.val (S (rI .i64) s)))], [], []⟩) (q := ()) hL2 ?_)
    · exact (Imp.norm (js := []) rfl (.cons rfl (.cons rfl (.cons rfl (.cons rfl .nil)))))
    · intro x_2 q x hx hr
      obtain _ := q
      change cmp_Orint.b1 k vals_1 x_2 = some x at hx
      unfold cmp_Orint.b1 at hx
      refine JC.at ⟨[(3, .one (.val (S (rI .i64) (0 : Int)))), (6, .one (.val (S (rL (rI .i64)) vals_1))), (7, .one (.val (S (rI .i64) (List.length vals_1 : Int)))), (8, .one (.val (S (rI .i64) x_2)))], [], []⟩ ?_
      refine JC.seq ?_
      refine JC.region ?_
      replace hx := lt1_inv hx
      obtain ⟨v_3, hv_v_3, hx⟩ := hx
      refine JL.cons rfl (op_cmpI (ltB rfl) (.tmp rfl) (.tmp rfl) (congrArg some hv_v_3)) ?_
      refine JL.nil ?_
      refine JQ.then ?_
      refine JC.seq ?_
      rcases iteB_inv hx with ⟨hc3, hx⟩ | ⟨hc3, hx⟩
      · refine JC.condT (.tmp rfl) hc3 ?_
        refine JC.skip ?_
        refine JQ.then ?_
        refine JC.seq ?_
        refine JC.block ?_
        refine JC.seq ?_
        refine JC.region ?_
        replace hx := bnd_inv hx
        obtain ⟨v_4, hv_v_4, hx⟩ := hx
        refine JL.cons rfl (op_indexAddrLg (ltB rfl) tu78 tz3 (.tmp rfl) (.tmp rfl) hv_v_4) ?_
        refine JL.cons rfl (op_loadPSg (ltB rfl) tS3 rfl (.tmp rfl) rfl) ?_
        refine JL.cons rfl (op_assign (ltB rfl) (.tmp rfl)) ?_
        refine JL.nil ?_
        refine JQ.then ?_
        refine JC.seq ?_
        refine JC.region ?_
        refine JL.cons rfl (op_move (ltB rfl) (.tmp rfl)) ?_
        refine JL.cons rfl (op_move (ltB rfl) (.tmp rfl)) ?_
        refine JL.pre (Imp.sub (ρ' := [(3, .one (.val (S (rI .i64) (0 : Int)))), (5, .one (.val (S (rI .i64) v_4))), (6, .one (.val (S (rL (rI .i64)) vals_1))), (7, .one (.val (S (rI .i64) (List.length vals_1 : Int)))), (8, .one (.val (S (rI .i64) x_2))), (12, .one (.val (S (rI .i64) v_4))), (13, .one (.val (S (rI .i64) (0 : Int))))]) (.cons rfl (.cons rfl (.cons rfl (.cons rfl (.cons rfl (.cons rfl (.cons rfl .nil)))))))) ?_
        refine JL.at ⟨[(3, .one (.val (S (rI .i64) (0 : Int)))), (5, .one (.val (S (rI .i64) v_4))), (6, .one (.val (S (rL (rI .i64)) vals_1))), (7, .one (.val (S (rI .i64) (List.length vals_1 : Int)))), (8, .one (.val (S (rI .i64) x_2))), (12, .one (.val (S (rI .i64) v_4))), (13, .one (.val (S (rI .i64) (0 : Int))))], [], []⟩ ?_
        replace hx := lt1_inv hx
        obtain ⟨v_5, hv_v_5, hx⟩ := hx
        refine JL.cons rfl (op_cmpI (ltB rfl) (.tmp rfl) (.tmp rfl) (congrArg some hv_v_5)) ?_
        refine JL.nil ?_
        refine JQ.then ?_
        rcases iteB_inv hx with ⟨hc4, hx⟩ | ⟨hc4, hx⟩
        · refine JC.condT (.tmp rfl) hc4 ?_
          refine JC.seq ?_
          refine JC.region ?_
          refine JL.cons rfl (op_move (ltB rfl) (.tmp rfl)) ?_
          refine JL.cons rfl (op_assign (ltB rfl) (.tmp rfl)) ?_
          refine JL.nil ?_
          refine JQ.then ?_
          refine JC.ret ?_
          refine JQ.outRB ?_
          refine JQ.outR ?_
          replace hx := Option.some.inj hx
          subst hx
          have ht := hr _ rfl
          clear hr
          subst ht
          dsimp only at hq2
          refine JQ.outR ?_
          refine JQ.outRB ?_
          replace hq2 := Option.some.inj hq2
          subst hq2
          dsimp only at hq1
          refine JQ.outR ?_
          replace hq1 := Option.some.inj hq1
          subst hq1
          exact JQ.done (js := []) (ss := [.val (S (rI .i64) v_4)]) () (.inl rfl) (.nil rfl) rfl (.cons (.tmp rfl) .nil) rfl rfl rfl
        · refine JC.condF (.tmp rfl) hc4 ?_
          refine JC.skip ?_
          refine JQ.outNB ?_
          refine JQ.then ?_
          refine JC.region ?_
          replace hx := lt1_inv hx
          obtain ⟨v_6, hv_v_6, hx⟩ := hx
          refine JL.cons rfl (op_arI (ltB rfl) (.tmp rfl) .cI (congrArg some hv_v_6)) ?_
          refine JL.cons rfl (op_move (ltB rfl) (.tmp rfl)) ?_
          refine JL.nil ?_
          replace hx := Option.some.inj hx
          subst hx
          exact JQ.next () rfl (Imp.norm (js := []) rfl (.cons rfl (.cons rfl (.cons rfl (.cons rfl .nil)))))
      · refine JC.condF (.tmp rfl) hc3 ?_
        refine JC.exit ?_
        refine JQ.outX ?_
        replace hx := Option.some.inj hx
        subst hx
        have ht := hr _ rfl
        clear hr
        subst ht
        dsimp only at hq2
        refine JQ.outX ?_
        refine JQ.here ?_
        replace hq2 := Option.some.inj hq2
        subst hq2
        exact JQ.joinK () () rfl (Imp.norm (js := []) rfl (.cons rfl .nil))

theorem sim_event_Less (k : Nat) (a_1 : api_Dot) (b_2 : api_Dot) (r : Bool) (hm : event_Less k a_1 b_2 = some r) : Sim Try.prog 7 [A r_api_Dot a_1, A r_api_Dot b_2] [] (γ := Unit) (fun q => []) (fun q => .one (.val (S rB r))) := by
  unfold event_Less at hm
  refine Sim.of Try.func7 rfl rfl (Nat.le_of_ble_eq_true rfl) (fun e0 w0 => ?_)
  refine JC.at ⟨[(0, .one (.val (A r_api_Dot a_1))), (1, .one (.val (A r_api_Dot b_2)))], [], []⟩ ?_
  refine JC.seq ?_
  refine JC.region ?_
  refine JL.consX rfl (op_boxA (ltB rfl) (.tmp rfl)) (fun q => ?_)
  obtain ⟨gb_3, hqq⟩ : ∃ z, z = q := ⟨_, rfl⟩
  subst hqq
  refine JL.pre (Imp.sub (ρ' := [(1, .one (.val (A r_api_Dot b_2))), (2, .one (.val (PTR gb_3 0)))]) (.cons rfl (.cons rfl .nil))) ?_
  refine JL.at ⟨[(1, .one (.val (A r_api_Dot b_2))), (2, .one (.val (PTR gb_3 0)))], [cvar gb_3 r_api_Dot a_1], []⟩ ?_
  refine JL.consX rfl (op_boxA (ltB rfl) (.tmp rfl)) (fun q => ?_)
  obtain ⟨gb_4, hqq⟩ : ∃ z, z = q := ⟨_, rfl⟩
  subst hqq
  refine JL.pre (Imp.sub (ρ' := [(2, .one (.val (PTR gb_3 0))), (3, .one (.val (PTR gb_4 0)))]) (.cons rfl (.cons rfl .nil))) ?_
  refine JL.at ⟨[(2, .one (.val (PTR gb_3 0))), (3, .one (.val (PTR gb_4 0)))], [cvar gb_3 r_api_Dot a_1, cvar gb_4 r_api_Dot b_2], []⟩ ?_
  refine JL.cons rfl (op_assign (ltB rfl) .cB) ?_
  refine JL.nil ?_
  refine JQ.then ?_
  refine JC.seq ?_
  replace hm := bnd_inv hm
  obtain ⟨v_5, hv_v_5, hm⟩ := hm
  replace hm := bnd_inv hm
  obtain ⟨v_6, hv_v_6, hm⟩ := hm
  replace hm := bnd_inv hm
  obtain ⟨v_7, hv_v_7, hm⟩ := hm
  replace hm := lt1_inv hm
  obtain ⟨v_8, hv_v_8, hm⟩ := hm
  refine JC.anyE (base := [(2, .one (.val (PTR gb_3 0))), (3, .one (.val (PTR gb_4 0)))])
      (fs := fun γ => [⟨some 5, .one (.val (PTR gb_3 (0 + 0)))⟩, ⟨some 6, .one (.val (S (rI .i64) a_1.Region))⟩, ⟨some 7, .one (.val (PTR gb_4 (0 + 0)))⟩, ⟨some 8, .one (.val (S (rI .i64) b_2.Region))⟩, ⟨some 9, .one (.val (S (rI .i64) v_5))⟩, ⟨some 10, .one (.val (PTR gb_3 (0 + 1)))⟩, ⟨some 11, .one (.val (S (rU UInt64) a_1.Count))⟩, ⟨some 12, .one (.val (PTR gb_4 (0 + 1)))⟩, ⟨some 13, .one (.val (S (rU UInt64) b_2.Count))⟩, ⟨some 14, .one (.val (S (rI .i64) v_6))⟩, ⟨some 15, .one (.val (S (rL (rI .i64)) ([v_5, v_6] : (List Int))))⟩, ⟨some 16, .one (.val (S (rI .i64) v_7))⟩, ⟨some 17, .one (.val (S rB v_8))⟩, ⟨some 4, .one (.val (S rB v_8))⟩])
      (rs := fun γ => [⟨cvar gb_3 r_api_Dot a_1, none, none, [1, 6]⟩, ⟨cvar gb_4 r_api_Dot b_2, none, none, [3, 8]⟩])
      (ds := [5, 6, 7, 8, 9, 10, 11, 12, 13, 14, 15, 16, 17, 4]) (bs := [2, 3]) (afts := [[], [], [], [], [], [], [], [], [], [], [], [], [], []]) (js := [0, 0]) mixed (.cons rfl (.cons rfl .nil)) (fun _ => rfl)
      (by
      refine DSteps.cons (j := 1) rfl (fun _ => rfl) (.run (fun γ ρ B hb hd => ⟨.none, OpStep.at ⟨ρ, B, _⟩ (setO ⟨ρ, B, _⟩ (some 5) (.one (.val (PTR gb_3 (0 + 0))))) (op_fieldAddr (off := 0) (ltB rfl) tf24_0 (.tmp (hb 2 _ rfl)))⟩)) ?_
      refine DSteps.cons (j := 2) rfl (fun _ => rfl) (.run (fun γ ρ B hb hd => ⟨.none, OpStep.at ⟨ρ, (cvar gb_3 r_api_Dot a_1) :: B, _⟩ (setO ⟨ρ, (cvar gb_3 r_api_Dot a_1) :: B, _⟩ (some 6) (.one (.val (S (rI .i64) a_1.Region)))) (op_loadS (j := 0) (ltB rfl) tS3 (.tmp (hdl hd 0 5 rfl (by decide +kernel))) rfl (Comp.trans (Comp.self r_api_Dot a_1) (comp_api_Dot_Region a_1) (by decide)) rfl rfl)⟩)) ?_
      refine DSteps.cons (j := 3) rfl (fun _ => rfl) (.run (fun γ ρ B hb hd => ⟨.none, OpStep.at ⟨ρ, B, _⟩ (setO ⟨ρ, B, _⟩ (some 7) (.one (.val (PTR gb_4 (0 + 0))))) (op_fieldAddr (off := 0) (ltB rfl) tf24_0 (.tmp (hb 3 _ rfl)))⟩)) ?_
      refine DSteps.cons (j := 4) rfl (fun _ => rfl) (.run (fun γ ρ B hb hd => ⟨.none, OpStep.at ⟨ρ, (cvar gb_4 r_api_Dot b_2) :: B, _⟩ (setO ⟨ρ, (cvar gb_4 r_api_Dot b_2) :: B, _⟩ (some 8) (.one (.val (S (rI .i64) b_2.Region)))) (op_loadS (j := 0) (ltB rfl) tS3 (.tmp (hdl hd 2 7 rfl (by decide +kernel))) rfl (Comp.trans (Comp.self r_api_Dot b_2) (comp_api_Dot_Region b_2) (by decide)) rfl rfl)⟩)) ?_
      refine DSteps.cons (j := 5) rfl (fun _ => rfl) (.run (fun γ ρ B hb hd => ⟨.none, OpStep.at ⟨ρ, B, _⟩ (setO ⟨ρ, B, _⟩ (some 9) (.one (.val (S (rI .i64) v_5)))) ((op_call (js := []) (ltD rfl) cl25 (sim_cmp_Compareint k a_1.Region b_2.Region v_5 hv_v_5) .func (.cons (.tmp (hdl hd 1 6 rfl (by decide +kernel))) (.cons (.tmp (hdl hd 3 8 rfl (by decide +kernel))) .nil)) rfl).post (fun _ => Imp.refl))⟩)) ?_
      refine DSteps.cons (j := 6) rfl (fun _ => rfl) (.run (fun γ ρ B hb hd => ⟨.none, OpStep.at ⟨ρ, B, _⟩ (setO ⟨ρ, B, _⟩ (some 10) (.one (.val (PTR gb_3 (0 + 1))))) (op_fieldAddr (off := 1) (ltB rfl) tf24_1 (.tmp (hb 2 _ rfl)))⟩)) ?_
      refine DSteps.cons (j := 7) rfl (fun _ => rfl) (.run (fun γ ρ B hb hd => ⟨.none, OpStep.at ⟨ρ, (cvar gb_3 r_api_Dot a_1) :: B, _⟩ (setO ⟨ρ, (cvar gb_3 r_api_Dot a_1) :: B, _⟩ (some 11) (.one (.val (S (rU UInt64) a_1.Count)))) (op_loadS (j := 0) (ltB rfl) tS22 (.tmp (hdl hd 5 10 rfl (by decide +kernel))) rfl (Comp.trans (Comp.self r_api_Dot a_1) (comp_api_Dot_Count a_1) (by decide)) rfl rfl)⟩)) ?_
      refine DSteps.cons (j := 8) rfl (fun _ => rfl) (.run (fun γ ρ B hb hd => ⟨.none, OpStep.at ⟨ρ, B, _⟩ (setO ⟨ρ, B, _⟩ (some 12) (.one (.val (PTR gb_4 (0 + 1))))) (op_fieldAddr (off := 1) (ltB rfl) tf24_1 (.tmp (hb 3 _ rfl)))⟩)) ?_
      refine DSteps.cons (j := 9) rfl (fun _ => rfl) (.run (fun γ ρ B hb hd => ⟨.none, OpStep.at ⟨ρ, (cvar gb_4 r_api_Dot b_2) :: B, _⟩ (setO ⟨ρ, (cvar gb_4 r_api_Dot b_2) :: B, _⟩ (some 13) (.one (.val (S (rU UInt64) b_2.Count)))) (op_loadS (j := 0) (ltB rfl) tS22 (.tmp (hdl hd 7 12 rfl (by decide +kernel))) rfl (Comp.trans (Comp.self r_api_Dot b_2) (comp_api_Dot_Count b_2) (by decide)) rfl rfl)⟩)) ?_
      refine DSteps.cons (j := 10) rfl (fun _ => rfl) (.run (fun γ ρ B hb hd => ⟨.none, OpStep.at ⟨ρ, B, _⟩ (setO ⟨ρ, B, _⟩ (some 14) (.one (.val (S (rI .i64) v_6)))) ((op_call (js := []) (ltD rfl) cl26 (sim_cmp_Compareuint64 k a_1.Count b_2.Count v_6 hv_v_6) .func (.cons (.tmp (hdl hd 6 11 rfl (by decide +kernel))) (.cons (.tmp (hdl hd 8 13 rfl (by decide +kernel))) .nil)) rfl).post (fun _ => Imp.refl))⟩)) ?_
      refine DSteps.cons (j := 11) rfl (fun _ => rfl) (.run (fun γ ρ B hb hd => ⟨.none, OpStep.at ⟨ρ, B, _⟩ (setO ⟨ρ, B, _⟩ (some 15) (.one (.val (S (rL (rI .i64)) ([v_5, v_6] : (List Int)))))) (op_buildF (r := (rI .i64)) (ltB rfl) tu78 tz3 tZ3 rfl (Nat.le_of_ble_eq_true rfl) (.S rfl (.tmp (hdl hd 4 9 rfl (by decide +kernel))) (.S rfl (.tmp (hdl hd 9 14 rfl (by decide +kernel))) .nil)) rfl)⟩)) ?_
      refine DSteps.cons (j := 12) rfl (fun _ => rfl) (.run (fun γ ρ B hb hd => ⟨.none, OpStep.at ⟨ρ, B, _⟩ (setO ⟨ρ, B, _⟩ (some 16) (.one (.val (S (rI .i64) v_7)))) ((op_call (js := []) (ltD rfl) cl24 (sim_cmp_Orint k ([v_5, v_6] : (List Int)) v_7 hv_v_7) .func (.cons (.tmp (hdl hd 10 15 rfl (by decide +kernel))) .nil) rfl).post (fun _ => Imp.refl))⟩)) ?_
      refine DSteps.cons (j := 13) rfl (fun _ => rfl) (.run (fun γ ρ B hb hd => ⟨.none, OpStep.at ⟨ρ, B, _⟩ (setO ⟨ρ, B, _⟩ (some 17) (.one (.val (S rB v_8)))) (op_cmpI (ltB rfl) (.tmp (hdl hd 11 16 rfl (by decide +kernel))) .cI (congrArg some hv_v_8))⟩)) ?_
      refine DSteps.cons (j := 14) rfl (fun _ => rfl) (.run (fun γ ρ B hb hd => ⟨.none, OpStep.at ⟨ρ, B, _⟩ (setO ⟨ρ, B, _⟩ (some 4) (.one (.val (S rB v_8)))) (op_assign (ltB rfl) (.tmp (hdl hd 12 17 rfl (by decide +kernel))))⟩)) ?_
      exact DSteps.nil)
      (by decide +kernel) (fun _ => rfl) rfl (fun _ => rfl) (fun _ => rfl) rfl (by decide) (by decide)
      (ρ' := fun γ => [(4, .one (.val (S rB v_8)))])
      (X' := fun γ => [cvar gb_3 r_api_Dot a_1, cvar gb_4 r_api_Dot b_2])
      (fun γ ρ hb hd => (.cons (hdq hd 13 4 rfl) .nil)) (fun _ => rfl) (fun γ => ?_)
  refine JQ.at ⟨[(4, .one (.val (S rB v_8)))], [cvar gb_3 r_api_Dot a_1, cvar gb_4 r_api_Dot b_2], []⟩ ?_
  refine JQ.then ?_
  refine JC.ret ?_
  replace hm := Option.some.inj hm
  subst hm
  exact JQ.done (js := []) (ss := [.val (S rB v_8)]) () (.inl rfl) (.nil rfl) rfl (.cons (.tmp rfl) .nil) rfl rfl rfl

theorem sim_event_Join (k : Nat) (a_1 : (Vector UInt64 16)) (b_2 : (Vector UInt64 16)) (r : (Vector UInt64 16)) (hm : event_Join k a_1 b_2 = some r) : Sim Try.prog 8 [A (rV 16 (rU UInt64)) a_1, A (rV 16 (rU UInt64)) b_2] [] (γ := Unit) (fun q => []) (fun q => .one (.val (A (rV 16 (rU UInt64)) r))) := by
  unfold event_Join at hm
  refine Sim.of Try.func8 rfl rfl (Nat.le_of_ble_eq_true rfl) (fun e0 w0 => ?_)
  refine JC.at ⟨[(0, .one (.val (A (rV 16 (rU UInt64)) a_1))), (1, .one (.val (A (rV 16 (rU UInt64)) b_2)))], [], []⟩ ?_
  refine JC.seq ?_
  refine JC.region ?_
  refine JL.consX rfl (op_boxA (ltB rfl) (.tmp rfl)) (fun q => ?_)
  obtain ⟨gb_3, hqq⟩ : ∃ z, z = q := ⟨_, rfl⟩
  subst hqq
  refine JL.pre (Imp.sub (ρ' := [(1, .one (.val (A (rV 16 (rU UInt64)) b_2))), (2, .one (.val (PTR gb_3 0)))]) (.cons rfl (.cons rfl .nil))) ?_
  refine JL.at ⟨[(1, .one (.val (A (rV 16 (rU UInt64)) b_2))), (2, .one (.val (PTR gb_3 0)))], [cvar gb_3 (rV 16 (rU UInt64)) a_1], []⟩ ?_
  refine JL.consX rfl (op_boxA (ltB rfl) (.tmp rfl)) (fun q => ?_)
  obtain ⟨gb_4, hqq⟩ : ∃ z, z = q := ⟨_, rfl⟩
  subst hqq
  refine JL.pre (Imp.sub (ρ' := [(2, .one (.val (PTR gb_3 0))), (3, .one (.val (PTR gb_4 0)))]) (.cons rfl (.cons rfl .nil))) ?_
  refine JL.at ⟨[(2, .one (.val (PTR gb_3 0))), (3, .one (.val (PTR gb_4 0)))], [cvar gb_3 (rV 16 (rU UInt64)) a_1, cvar gb_4 (rV 16 (rU UInt64)) b_2], []⟩ ?_
  refine JL.consX rfl (op_alloc (ltB rfl) tZ26 zr26) (fun q => ?_)
  obtain ⟨gb_5, hqq⟩ : ∃ z, z = q := ⟨_, rfl⟩
  subst hqq
  refine JL.pre (Imp.sub (ρ' := [(2, .one (.val (PTR gb_3 0))), (3, .one (.val (PTR gb_4 0))), (4, .one (.val (PTR gb_5 0)))]) (.cons rfl (.cons rfl (.cons rfl .nil)))) ?_
  refine JL.at ⟨[(2, .one (.val (PTR gb_3 0))), (3, .one (.val (PTR gb_4 0))), (4, .one (.val (PTR gb_5 0)))], [cvar gb_3 (rV 16 (rU UInt64)) a_1, cvar gb_4 (rV 16 (rU UInt64)) b_2, cvar gb_5 (rV 16 (rU UInt64)) (Vector.replicate 16 (0 : UInt64))], []⟩ ?_
  refine JL.nil ?_
  refine JQ.then ?_
  obtain ⟨a_16, hx1, hq1⟩ := bnd_inv hm
  refine JC.seqJ (γ := Unit) (stj := fun q => ⟨[(2, .one (.val (PTR gb_3 0))), (4, .one (.val (PTR gb_5 0)))], [cvar gb_3 (rV 16 (rU UInt64)) a_16, cvar gb_5 (rV 16 (rU UInt64)) (Vector.replicate 16 (0 : UInt64))], []⟩) (fun q => ?_) ?_
  · obtain _ := q
    refine JC.at ⟨[(2, .one (.val (PTR gb_3 0))), (4, .one (.val (PTR gb_5 0)))], [cvar gb_3 (rV 16 (rU UInt64)) a_16, cvar gb_5 (rV 16 (rU UInt64)) (Vector.replicate 16 (0 : UInt64))], []⟩ ?_
    refine JC.seq ?_
    refine JC.region ?_
    refine JL.cons rfl (op_loadA (j := 0) (ltB rfl) tA26 (.tmp rfl) rfl (Comp.self (rV 16 (rU UInt64)) a_16) rfl) ?_
    refine JL.cons rfl (op_storeA (j := 1) tA26 (.tmp rfl) (.tmp rfl) rfl (UpdR.self rfl) rfl) ?_
    refine JL.pre (Imp.norm (ρ' := [(4, .one (.val (PTR gb_5 0)))]) (js := [1]) rfl (.cons rfl .nil)) ?_
    refine JL.at ⟨[(4, .one (.val (PTR gb_5 0)))], [cvar gb_5 (rV 16 (rU UInt64)) a_16], []⟩ ?_
    refine JL.nil ?_
    refine JQ.then ?_
    refine JC.ret ?_
    replace hq1 := Option.some.inj hq1
    subst hq1
    exact JQ.done (js := []) (ss := [.val (A (rV 16 (rU UInt64)) a_16)]) () (.inl rfl) (.nil rfl) rfl (.cons (.cellA (j := 0) tA26 rfl rfl) .nil) rfl rfl rfl
  · refine JC.seq ?_
    refine JC.region ?_
    refine JL.cons rfl (op_loadA (j := 1) (ltB rfl) tA26 (.tmp rfl) rfl (Comp.self (rV 16 (rU UInt64)) b_2) rfl) ?_
    refine JL.cons rfl (op_move (ltB rfl) .cI) ?_
    refine JL.nil ?_
    refine JQ.then ?_
    refine JC.block ?_
    refine JC.pre ?_ (JC.loop (γ := Unit) (stf := fun s q => ⟨[(2, .one (.val (PTR gb_3 0))), (4, .one (.val (PTR gb_5 0))), (7, .one (.val (A (rV 16 (rU UInt64)) b_2))), (8, .one (.val (S (rI .i64) s.2)))], [cvar gb_3 (rV 16 (rU UInt64)) s.1, cvar gb_5 (rV 16 (rU UInt64)) (Vector.replicate 16 (0 : UInt64))], []⟩) (q := ()) hx1 ?_)
    · exact (Imp.norm (js := [0, 1]) rfl (.cons rfl (.cons rfl (.cons rfl (.cons rfl .nil)))))
    · intro s q x hx hr
      obtain ⟨a_6, x_7⟩ := s
      obtain _ := q
      change event_Join.b1 k b_2 a_6 x_7 = some x at hx
      unfold event_Join.b1 at hx
      refine JC.at ⟨[(2, .one (.val (PTR gb_3 0))), (4, .one (.val (PTR gb_5 0))), (7, .one (.val (A (rV 16 (rU UInt64)) b_2))), (8, .one (.val (S (rI .i64) x_7)))], [cvar gb_3 (rV 16 (rU UInt64)) a_6, cvar gb_5 (rV 16 (rU UInt64)) (Vector.replicate 16 (0 : UInt64))], []⟩ ?_
      refine JC.seq ?_
      refine JC.region ?_
      replace hx := lt1_inv hx
      obtain ⟨v_8, hv_v_8, hx⟩ := hx
      refine JL.cons rfl (op_cmpI (ltB rfl) (.tmp rfl) .cI (congrArg some hv_v_8)) ?_
      refine JL.nil ?_
      refine JQ.then ?_
      refine JC.seq ?_
      rcases iteB_inv hx with ⟨hc3, hx⟩ | ⟨hc3, hx⟩
      · refine JC.condT (.tmp rfl) hc3 ?_
        refine JC.skip ?_
        refine JQ.then ?_
        refine JC.seq ?_
        refine JC.block ?_
        refine JC.seq ?_
        refine JC.region ?_
        refine JL.cons rfl (op_move (ltB rfl) (.tmp rfl)) ?_
        replace hx := bnd_inv hx
        obtain ⟨v_9, hv_v_9, hx⟩ := hx
        refine JL.cons rfl (op_indexSg (ltB rfl) tu26 tS22 rfl (.tmp rfl) (.tmp rfl) hv_v_9) ?_
        refine JL.cons rfl (op_assign (ltB rfl) (.tmp rfl)) ?_
        refine JL.cons rfl (op_assign (ltB rfl) (.tmp rfl)) ?_
        refine JL.nil ?_
        refine JQ.then ?_
        refine JC.region ?_
        refine JL.cons rfl (op_move (ltB rfl) (.tmp rfl)) ?_
        refine JL.pre (Imp.sub (ρ' := [(2, .one (.val (PTR gb_3 0))), (4, .one (.val (PTR gb_5 0))), (5, .one (.val (S (rI .i64) x_7))), (6, .one (.val (S (rU UInt64) v_9))), (7, .one (.val (A (rV 16 (rU UInt64)) b_2))), (8, .one (.val (S (rI .i64) x_7))), (12, .one (.val (S (rI .i64) x_7)))]) (.cons rfl (.cons rfl (.cons rfl (.cons rfl (.cons rfl (.cons rfl (.cons rfl .nil)))))))) ?_
        refine JL.at ⟨[(2, .one (.val (PTR gb_3 0))), (4, .one (.val (PTR gb_5 0))), (5, .one (.val (S (rI .i64) x_7))), (6, .one (.val (S (rU UInt64) v_9))), (7, .one (.val (A (rV 16 (rU UInt64)) b_2))), (8, .one (.val (S (rI .i64) x_7))), (12, .one (.val (S (rI .i64) x_7)))], [cvar gb_3 (rV 16 (rU UInt64)) a_6, cvar gb_5 (rV 16 (rU UInt64)) (Vector.replicate 16 (0 : UInt64))], []⟩ ?_
        refine JL.cons rfl (op_move (ltB rfl) (.tmp rfl)) ?_
        replace hx := bnd_inv hx
        obtain ⟨i_10, hv_i_10, hx⟩ := hx
        refine JL.cons rfl (op_indexAddrIF (ltB rfl) tr26 (.tmp rfl) (.tmp rfl) hv_i_10) ?_
        replace hx := lt1_inv hx
        obtain ⟨v_11, hv_v_11, hx⟩ := hx
        refine JL.cons rfl (op_loadS (j := 0) (ltB rfl) tS22 (.tmp rfl) rfl (Comp.at (Comp.self (rV 16 (rU UInt64)) a_6) i_10.2 rfl) rfl hv_v_11) ?_
        refine JL.cons rfl (op_move (ltB rfl) (.tmp rfl)) ?_
        replace hx := lt1_inv hx
        obtain ⟨v_12, hv_v_12, hx⟩ := hx
        refine JL.cons rfl (op_maxU (ltB rfl) (.tmp rfl) (.tmp rfl) hv_v_12) ?_
        replace hx := bnd_inv hx
        obtain ⟨i_13, hv_i_13, hx⟩ := hx
        refine JL.cons rfl (op_indexAddrIF (ltB rfl) tr26 (.tmp rfl) (.tmp rfl) hv_i_13) ?_
        refine JL.pre (Imp.sub (ρ' := [(2, .one (.val (PTR gb_3 0))), (4, .one (.val (PTR gb_5 0))), (7, .one (.val (A (rV 16 (rU UInt64)) b_2))), (8, .one (.val (S (rI .i64) x_7))), (17, .one (.val (S (rU UInt64) v_12))), (18, .one (.val (PTR gb_3 (0 + i_13.1 * 1))))]) (.cons rfl (.cons rfl (.cons rfl (.cons rfl (.cons rfl (.cons rfl .nil))))))) ?_
        refine JL.at ⟨[(2, .one (.val (PTR gb_3 0))), (4, .one (.val (PTR gb_5 0))), (7, .one (.val (A (rV 16 (rU UInt64)) b_2))), (8, .one (.val (S (rI .i64) x_7))), (17, .one (.val (S (rU UInt64) v_12))), (18, .one (.val (PTR gb_3 (0 + i_13.1 * 1))))], [cvar gb_3 (rV 16 (rU UInt64)) a_6, cvar gb_5 (rV 16 (rU UInt64)) (Vector.replicate 16 (0 : UInt64))], []⟩ ?_
        replace hx := lt1_inv hx
        obtain ⟨a_14, hv_a_14, hx⟩ := hx
        refine JL.cons rfl (op_storeS (j := 0) tS22 (.tmp rfl) (.tmp rfl) rfl rfl (Upd.at (Comp.self (rV 16 (rU UInt64)) a_6) i_13.2 rfl (Upd.self (rV 16 (rU UInt64)) a_6 _)).R hv_a_14) ?_
        refine JL.pre (Imp.sub (ρ' := [(2, .one (.val (PTR gb_3 0))), (4, .one (.val (PTR gb_5 0))), (7, .one (.val (A (rV 16 (rU UInt64)) b_2))), (8, .one (.val (S (rI .i64) x_7)))]) (.cons rfl (.cons rfl (.cons rfl (.cons rfl .nil))))) ?_
        refine JL.at ⟨[(2, .one (.val (PTR gb_3 0))), (4, .one (.val (PTR gb_5 0))), (7, .one (.val (A (rV 16 (rU UInt64)) b_2))), (8, .one (.val (S (rI .i64) x_7)))], [cvar gb_3 (rV 16 (rU UInt64)) a_14, cvar gb_5 (rV 16 (rU UInt64)) (Vector.replicate 16 (0 : UInt64))], []⟩ ?_
        refine JL.nil ?_
        refine JQ.outNB ?_
        refine JQ.then ?_
        refine JC.region ?_
        replace hx := lt1_inv hx
        obtain ⟨v_15, hv_v_15, hx⟩ := hx
        refine JL.cons rfl (op_arI (ltB rfl) (.tmp rfl) .cI (congrArg some hv_v_15)) ?_
        refine JL.cons rfl (op_move (ltB rfl) (.tmp rfl)) ?_
        refine JL.nil ?_
        replace hx := Option.some.inj hx
        subst hx
        exact JQ.next () rfl (Imp.norm (js := [0, 0]) rfl (.cons rfl (.cons rfl (.cons rfl (.cons rfl .nil)))))
      · refine JC.condF (.tmp rfl) hc3 ?_
        refine JC.exit ?_
        refine JQ.outX ?_
        replace hx := Option.some.inj hx
        subst hx
        have ht := hr _ rfl
        have hq2 := congrArg some ht
        clear hr ht
        refine JQ.outX ?_
        refine JQ.here ?_
        replace hq2 := Option.some.inj hq2
        subst hq2
        exact JQ.join () (Imp.norm (js := [0, 0]) rfl (.cons rfl (.cons rfl .nil)))

end Go.Proofs.Ythoggbomakolkaa
