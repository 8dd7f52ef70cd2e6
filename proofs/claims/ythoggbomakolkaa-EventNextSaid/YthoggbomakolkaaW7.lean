/- Walks. -/
import Derived.Test.YthoggbomakolkaaT
import Derived.Test.YthoggbomakolkaaW1
import Derived.Test.YthoggbomakolkaaW3
import Derived.Test.YthoggbomakolkaaW4
import Derived.Test.YthoggbomakolkaaW6
namespace Go.Proofs.Ythoggbomakolkaa
open Go Fw
set_option linter.unusedVariables false
set_option maxRecDepth 100000
set_option maxHeartbeats 4000000

theorem sim_law09_EventNext (k : Nat) (t_1 : Int) (a_2 : (List (List UInt8))) (a_3 : (Vector UInt64 16)) (r : Bool) (hm : law09_EventNext k t_1 a_2 a_3 = some r) : Sim Try.prog 4 [S (rI .i64) t_1, S (rL rS) a_2, A (rV 16 (rU UInt64)) a_3] [] (γ := Unit) (fun q => []) (fun q => .one (.val (S rB r))) := by
  unfold law09_EventNext at hm
  refine Sim.of Try.func4 rfl rfl (Nat.le_of_ble_eq_true rfl) (fun e0 w0 => ?_)
  refine JC.at ⟨[(0, .one (.val (S (rI .i64) t_1))), (1, .one (.val (S (rL rS) a_2))), (2, .one (.val (A (rV 16 (rU UInt64)) a_3)))], [], []⟩ ?_
  refine JC.seq ?_
  refine JC.region ?_
  refine JL.consX rfl (op_boxA (ltB rfl) (.tmp rfl)) (fun q => ?_)
  obtain ⟨gb_4, hqq⟩ : ∃ z, z = q := ⟨_, rfl⟩
  subst hqq
  refine JL.pre (Imp.sub (ρ' := [(0, .one (.val (S (rI .i64) t_1))), (1, .one (.val (S (rL rS) a_2))), (5, .one (.val (PTR gb_4 0)))]) (.cons rfl (.cons rfl (.cons rfl .nil)))) ?_
  refine JL.at ⟨[(0, .one (.val (S (rI .i64) t_1))), (1, .one (.val (S (rL rS) a_2))), (5, .one (.val (PTR gb_4 0)))], [cvar gb_4 (rV 16 (rU UInt64)) a_3], []⟩ ?_
  refine JL.cons rfl (op_assign (ltB rfl) .cB) ?_
  refine JL.nil ?_
  refine JQ.then ?_
  refine JC.seq ?_
  obtain ⟨x_10, hx1, hq1⟩ := bnd_inv hm
  refine JC.seqJ (γ := Unit) (stj := fun q => ⟨[(0, .one (.val (S (rI .i64) t_1))), (1, .one (.val (S (rL rS) a_2))), (5, .one (.val (PTR gb_4 0))), (22, .one (.val (S rB x_10)))], [cvar gb_4 (rV 16 (rU UInt64)) a_3], []⟩) (fun q => ?_) ?_
  · obtain _ := q
    refine JC.at ⟨[(0, .one (.val (S (rI .i64) t_1))), (1, .one (.val (S (rL rS) a_2))), (5, .one (.val (PTR gb_4 0))), (22, .one (.val (S rB x_10)))], [cvar gb_4 (rV 16 (rU UInt64)) a_3], []⟩ ?_
    rcases iteB_inv hq1 with ⟨hc9, hq1⟩ | ⟨hc9, hq1⟩
    · refine JC.condT (.tmp rfl) hc9 ?_
      refine JC.seq ?_
      refine JC.region ?_
      replace hq1 := bnd_inv hq1
      obtain ⟨v_11, hv_v_11, hq1⟩ := hq1
      refine JL.consX rfl (op_call (js := []) (ltD rfl) cl10 (sim_law09_known k v_11 hv_v_11) .func .nil rfl) (fun _ => ?_)
      refine JL.cons rfl (op_assign (ltB rfl) (.tmp rfl)) ?_
      refine JL.nil ?_
      refine JQ.then ?_
      refine JC.ret ?_
      refine JQ.outR ?_
      replace hq1 := Option.some.inj hq1
      subst hq1
      exact JQ.done (js := []) (ss := [.val (S rB v_11)]) () (.inl rfl) (.nil rfl) rfl (.cons (.tmp rfl) .nil) rfl rfl rfl
    · refine JC.condF (.tmp rfl) hc9 ?_
      refine JC.skip ?_
      refine JQ.then ?_
      refine JC.seq ?_
      refine JC.region ?_
      refine JL.cons rfl (op_move (ltB rfl) (.tmp rfl)) ?_
      replace hq1 := lt1_inv hq1
      obtain ⟨v_12, hv_v_12, hq1⟩ := hq1
      refine JL.cons rfl (op_arI (ltB rfl) (.tmp rfl) .cI (congrArg some hv_v_12)) ?_
      replace hq1 := bnd_inv hq1
      obtain ⟨i_13, hv_i_13, hq1⟩ := hq1
      refine JL.cons rfl (op_indexAddrIF (ltB rfl) tr26 (.tmp rfl) (.tmp rfl) hv_i_13) ?_
      replace hq1 := lt1_inv hq1
      obtain ⟨x_14, hv_x_14, hq1⟩ := hq1
      refine JL.cons rfl (op_storeS (j := 0) tS22 (.tmp rfl) (HasO.cU (x := (0 : UInt64)) rfl (by decide)) rfl rfl (Upd.at (Comp.self (rV 16 (rU UInt64)) a_3) i_13.2 rfl (Upd.self (rV 16 (rU UInt64)) a_3 _)).R hv_x_14) ?_
      refine JL.pre (Imp.sub (ρ' := [(0, .one (.val (S (rI .i64) t_1))), (1, .one (.val (S (rL rS) a_2))), (5, .one (.val (PTR gb_4 0)))]) (.cons rfl (.cons rfl (.cons rfl .nil)))) ?_
      refine JL.at ⟨[(0, .one (.val (S (rI .i64) t_1))), (1, .one (.val (S (rL rS) a_2))), (5, .one (.val (PTR gb_4 0)))], [cvar gb_4 (rV 16 (rU UInt64)) x_14], []⟩ ?_
      refine JL.nil ?_
      refine JQ.then ?_
      obtain ⟨tv10, hx10, hq10⟩ := bnd_inv hq1
      refine JC.seqK (α := Unit) (γ := Unit) (stj := fun v q => ⟨[(0, .one (.val (S (rI .i64) t_1))), (1, .one (.val (S (rL rS) a_2))), (5, .one (.val (PTR gb_4 0)))], [cvar gb_4 (rV 16 (rU UInt64)) x_14], []⟩) (p := fun v => tv10 = (.inl v)) (fun v q hv => ?_) ?_
      · subst hv
        skip
        obtain _ := q
        dsimp only at hq10
        refine JC.at ⟨[(0, .one (.val (S (rI .i64) t_1))), (1, .one (.val (S (rL rS) a_2))), (5, .one (.val (PTR gb_4 0)))], [cvar gb_4 (rV 16 (rU UInt64)) x_14], []⟩ ?_
        refine JC.seq ?_
        refine JC.seq ?_
        refine JC.region ?_
        refine JL.cons rfl (op_loadA (j := 0) (ltB rfl) tA26 (.tmp rfl) rfl (Comp.self (rV 16 (rU UInt64)) x_14) rfl) ?_
        replace hq10 := bnd_inv hq10
        obtain ⟨v_22, hv_v_22, hq10⟩ := hq10
        refine JL.consX rfl (op_call (js := []) (ltD rfl) cl12 (sim_ref09_MayVector k x_14 v_22 hv_v_22) .func (.cons (.tmp rfl) .nil) rfl) (fun _ => ?_)
        replace hq10 := lt1_inv hq10
        obtain ⟨v_23, hv_v_23, hq10⟩ := hq10
        refine JL.cons rfl (op_not (ltB rfl) (.tmp rfl) hv_v_23) ?_
        refine JL.nil ?_
        refine JQ.then ?_
        rcases iteB_inv hq10 with ⟨hc14, hq10⟩ | ⟨hc14, hq10⟩
        · refine JC.condT (.tmp rfl) hc14 ?_
          refine JC.seq ?_
          refine JC.region ?_
          replace hq10 := bnd_inv hq10
          obtain ⟨v_24, hv_v_24, hq10⟩ := hq10
          refine JL.consX rfl (op_call (js := []) (ltD rfl) cl10 (sim_law09_known k v_24 hv_v_24) .func .nil rfl) (fun _ => ?_)
          refine JL.cons rfl (op_assign (ltB rfl) (.tmp rfl)) ?_
          refine JL.nil ?_
          refine JQ.then ?_
          refine JC.ret ?_
          refine JQ.outR ?_
          replace hq10 := Option.some.inj hq10
          subst hq10
          exact JQ.done (js := []) (ss := [.val (S rB v_24)]) () (.inl rfl) (.nil rfl) rfl (.cons (.tmp rfl) .nil) rfl rfl rfl
        · refine JC.condF (.tmp rfl) hc14 ?_
          refine JC.skip ?_
          refine JQ.then ?_
          refine JC.seq ?_
          refine JC.region ?_
          refine JL.cons rfl (op_loadA (j := 0) (ltB rfl) tA26 (.tmp rfl) rfl (Comp.self (rV 16 (rU UInt64)) x_14) rfl) ?_
          refine JL.consX rfl (op_alloc (ltB rfl) tZ26 zr26) (fun q => ?_)
          obtain ⟨gb_25, hqq⟩ : ∃ z, z = q := ⟨_, rfl⟩
          subst hqq
          refine JL.pre (Imp.sub (ρ' := [(0, .one (.val (S (rI .i64) t_1))), (1, .one (.val (S (rL rS) a_2))), (5, .one (.val (PTR gb_4 0))), (8, .one (.val (PTR gb_25 0))), (44, .one (.val (A (rV 16 (rU UInt64)) x_14)))]) (.cons rfl (.cons rfl (.cons rfl (.cons rfl (.cons rfl .nil)))))) ?_
          refine JL.at ⟨[(0, .one (.val (S (rI .i64) t_1))), (1, .one (.val (S (rL rS) a_2))), (5, .one (.val (PTR gb_4 0))), (8, .one (.val (PTR gb_25 0))), (44, .one (.val (A (rV 16 (rU UInt64)) x_14)))], [cvar gb_4 (rV 16 (rU UInt64)) x_14, cvar gb_25 (rV 16 (rU UInt64)) (Vector.replicate 16 (0 : UInt64))], []⟩ ?_
          refine JL.cons rfl (op_storeA (j := 1) tA26 (.tmp rfl) (.tmp rfl) rfl (UpdR.self rfl) rfl) ?_
          refine JL.pre (Imp.sub (ρ' := [(0, .one (.val (S (rI .i64) t_1))), (1, .one (.val (S (rL rS) a_2))), (5, .one (.val (PTR gb_4 0))), (8, .one (.val (PTR gb_25 0)))]) (.cons rfl (.cons rfl (.cons rfl (.cons rfl .nil))))) ?_
          refine JL.at ⟨[(0, .one (.val (S (rI .i64) t_1))), (1, .one (.val (S (rL rS) a_2))), (5, .one (.val (PTR gb_4 0))), (8, .one (.val (PTR gb_25 0)))], [cvar gb_4 (rV 16 (rU UInt64)) x_14, cvar gb_25 (rV 16 (rU UInt64)) x_14], []⟩ ?_
          refine JL.nil ?_
          refine JQ.then ?_
          obtain ⟨tv15, hx15, hq15⟩ := bnd_inv hq10
          refine JC.seqK (α := Unit) (γ := Unit) (stj := fun v q => ⟨[], [], []⟩) (p := fun v => tv15 = (.inl v)) (fun v q hv => ?_) ?_
          · subst hv
            skip
            obtain _ := q
            dsimp only at hq15
            refine JC.at ⟨[], [], []⟩ ?_
            refine JC.seq ?_
            refine JC.region ?_
            replace hq15 := bnd_inv hq15
            obtain ⟨v_54, hv_v_54, hq15⟩ := hq15
            refine JL.consX rfl (op_call (js := []) (ltD rfl) cl10 (sim_law09_known k v_54 hv_v_54) .func .nil rfl) (fun _ => ?_)
            refine JL.cons rfl (op_assign (ltB rfl) (.tmp rfl)) ?_
            refine JL.nil ?_
            refine JQ.then ?_
            refine JC.ret ?_
            replace hq15 := Option.some.inj hq15
            subst hq15
            exact JQ.done (js := []) (ss := [.val (S rB v_54)]) () (.inl rfl) (.nil rfl) rfl (.cons (.tmp rfl) .nil) rfl rfl rfl
          · refine JC.seq ?_
            refine JC.region ?_
            refine JL.cons rfl (op_assign (ltB rfl) .cI) ?_
            refine JL.nil ?_
            refine JQ.then ?_
            refine JC.block ?_
            obtain ⟨tv16, hL16, hq16⟩ := bnd_inv hx15
            refine JC.pre ?_ (JC.loop (γ := Unit) (stf := fun s q => ⟨[(0, .one (.val (S (rI .i64) t_1))), (1, .one (.val (S (rL rS) a_2))), (5, .one (.val (PTR gb_4 0))), (8, .one (.val (PTR gb_25 0))), (9, .one (.val (S (rI .i64) s.2)))], [cvar gb_4 (rV 16 (rU UInt64)) s.1, cvar gb_25 (rV 16 (rU UInt64)) x_14], []⟩) (q := ()) hL16 ?_)
            · exact (Imp.norm (js := [0, 0]) rfl (.cons rfl (.cons rfl (.cons rfl (.cons rfl (.cons rfl .nil))))))
            · intro s q x hx hr
              obtain ⟨x_26, x_27⟩ := s
              obtain _ := q
              change law09_EventNext.b2 k a_2 t_1 x_14 x_26 x_27 = some x at hx
              unfold law09_EventNext.b2 at hx
              refine JC.at ⟨[(0, .one (.val (S (rI .i64) t_1))), (1, .one (.val (S (rL rS) a_2))), (5, .one (.val (PTR gb_4 0))), (8, .one (.val (PTR gb_25 0))), (9, .one (.val (S (rI .i64) x_27)))], [cvar gb_4 (rV 16 (rU UInt64)) x_26, cvar gb_25 (rV 16 (rU UInt64)) x_14], []⟩ ?_
              refine JC.seq ?_
              refine JC.seq ?_
              refine JC.region ?_
              refine JL.cons rfl (op_move (ltB rfl) (.tmp rfl)) ?_
              refine JL.cons rfl (op_move (ltB rfl) (.tmp rfl)) ?_
              refine JL.cons rfl (op_lenL (ltB rfl) tu32 (.tmp rfl)) ?_
              replace hx := lt1_inv hx
              obtain ⟨v_28, hv_v_28, hx⟩ := hx
              refine JL.cons rfl (op_cmpI (ltB rfl) (.tmp rfl) (.tmp rfl) (congrArg some hv_v_28)) ?_
              refine JL.nil ?_
              refine JQ.then ?_
              rcases iteB_inv hx with ⟨hc17, hx⟩ | ⟨hc17, hx⟩
              · refine JC.condT (.tmp rfl) hc17 ?_
                refine JC.skip ?_
                refine JQ.then ?_
                obtain ⟨tv18, hx18, hq18⟩ := bnd_inv hx
                refine JC.seqK (α := (Vector UInt64 16)) (γ := Unit) (stj := fun v q => ⟨[(0, .one (.val (S (rI .i64) t_1))), (1, .one (.val (S (rL rS) a_2))), (5, .one (.val (PTR gb_4 0))), (8, .one (.val (PTR gb_25 0))), (9, .one (.val (S (rI .i64) x_27)))], [cvar gb_4 (rV 16 (rU UInt64)) v, cvar gb_25 (rV 16 (rU UInt64)) x_14], []⟩) (p := fun v => tv18 = (.inl v)) (fun v q hv => ?_) ?_
                · subst hv
                  obtain ⟨x_52, hvv⟩ : ∃ z, z = v := ⟨_, rfl⟩
                  subst hvv
                  obtain _ := q
                  dsimp only at hq18
                  refine JC.at ⟨[(0, .one (.val (S (rI .i64) t_1))), (1, .one (.val (S (rL rS) a_2))), (5, .one (.val (PTR gb_4 0))), (8, .one (.val (PTR gb_25 0))), (9, .one (.val (S (rI .i64) x_27)))], [cvar gb_4 (rV 16 (rU UInt64)) x_52, cvar gb_25 (rV 16 (rU UInt64)) x_14], []⟩ ?_
                  refine JC.region ?_
                  refine JL.cons rfl (op_move (ltB rfl) (.tmp rfl)) ?_
                  replace hq18 := lt1_inv hq18
                  obtain ⟨v_53, hv_v_53, hq18⟩ := hq18
                  refine JL.cons rfl (op_arI (ltB rfl) (.tmp rfl) .cI (congrArg some hv_v_53)) ?_
                  refine JL.cons rfl (op_assign (ltB rfl) (.tmp rfl)) ?_
                  refine JL.nil ?_
                  replace hq18 := Option.some.inj hq18
                  subst hq18
                  exact JQ.next () rfl (Imp.norm (js := [0, 0]) rfl (.cons rfl (.cons rfl (.cons rfl (.cons rfl (.cons rfl .nil))))))
                · refine JC.block ?_
                  obtain ⟨tv19, hx19, hq19⟩ := bnd_inv hx18
                  refine JC.seqK (α := Unit) (γ := Unit) (stj := fun v q => ⟨[(0, .one (.val (S (rI .i64) t_1))), (1, .one (.val (S (rL rS) a_2))), (5, .one (.val (PTR gb_4 0))), (8, .one (.val (PTR gb_25 0))), (9, .one (.val (S (rI .i64) x_27)))], [cvar gb_4 (rV 16 (rU UInt64)) x_26, cvar gb_25 (rV 16 (rU UInt64)) x_14], []⟩) (p := fun v => tv19 = (.inl v)) (fun v q hv => ?_) ?_
                  · subst hv
                    skip
                    obtain _ := q
                    dsimp only at hq19
                    refine JC.at ⟨[(0, .one (.val (S (rI .i64) t_1))), (1, .one (.val (S (rL rS) a_2))), (5, .one (.val (PTR gb_4 0))), (8, .one (.val (PTR gb_25 0))), (9, .one (.val (S (rI .i64) x_27)))], [cvar gb_4 (rV 16 (rU UInt64)) x_26, cvar gb_25 (rV 16 (rU UInt64)) x_14], []⟩ ?_
                    refine JC.region ?_
                    refine JL.cons rfl (op_move (ltB rfl) (.tmp rfl)) ?_
                    replace hq19 := lt1_inv hq19
                    obtain ⟨v_46, hv_v_46, hq19⟩ := hq19
                    refine JL.cons rfl (op_arI (ltB rfl) (.tmp rfl) .cI (congrArg some hv_v_46)) ?_
                    replace hq19 := bnd_inv hq19
                    obtain ⟨i_47, hv_i_47, hq19⟩ := hq19
                    refine JL.cons rfl (op_indexAddrIF (ltB rfl) tr26 (.tmp rfl) (.tmp rfl) hv_i_47) ?_
                    replace hq19 := lt1_inv hq19
                    obtain ⟨v_48, hv_v_48, hq19⟩ := hq19
                    refine JL.cons rfl (op_loadS (j := 0) (ltB rfl) tS22 (.tmp rfl) rfl (Comp.at (Comp.self (rV 16 (rU UInt64)) x_26) i_47.2 rfl) rfl hv_v_48) ?_
                    replace hq19 := lt1_inv hq19
                    obtain ⟨v_49, hv_v_49, hq19⟩ := hq19
                    refine JL.cons rfl (op_arU (ltB rfl) (.tmp rfl) (HasO.cU (x := (1 : UInt64)) rfl (by decide)) (congrArg some hv_v_49)) ?_
                    replace hq19 := bnd_inv hq19
                    obtain ⟨i_50, hv_i_50, hq19⟩ := hq19
                    refine JL.cons rfl (op_indexAddrIF (ltB rfl) tr26 (.tmp rfl) (.tmp rfl) hv_i_50) ?_
                    refine JL.pre (Imp.sub (ρ' := [(0, .one (.val (S (rI .i64) t_1))), (1, .one (.val (S (rL rS) a_2))), (5, .one (.val (PTR gb_4 0))), (8, .one (.val (PTR gb_25 0))), (9, .one (.val (S (rI .i64) x_27))), (95, .one (.val (S (rU UInt64) v_49))), (96, .one (.val (PTR gb_4 (0 + i_50.1 * 1))))]) (.cons rfl (.cons rfl (.cons rfl (.cons rfl (.cons rfl (.cons rfl (.cons rfl .nil)))))))) ?_
                    refine JL.at ⟨[(0, .one (.val (S (rI .i64) t_1))), (1, .one (.val (S (rL rS) a_2))), (5, .one (.val (PTR gb_4 0))), (8, .one (.val (PTR gb_25 0))), (9, .one (.val (S (rI .i64) x_27))), (95, .one (.val (S (rU UInt64) v_49))), (96, .one (.val (PTR gb_4 (0 + i_50.1 * 1))))], [cvar gb_4 (rV 16 (rU UInt64)) x_26, cvar gb_25 (rV 16 (rU UInt64)) x_14], []⟩ ?_
                    replace hq19 := lt1_inv hq19
                    obtain ⟨x_51, hv_x_51, hq19⟩ := hq19
                    refine JL.cons rfl (op_storeS (j := 0) tS22 (.tmp rfl) (.tmp rfl) rfl rfl (Upd.at (Comp.self (rV 16 (rU UInt64)) x_26) i_50.2 rfl (Upd.self (rV 16 (rU UInt64)) x_26 _)).R hv_x_51) ?_
                    refine JL.pre (Imp.sub (ρ' := [(0, .one (.val (S (rI .i64) t_1))), (1, .one (.val (S (rL rS) a_2))), (5, .one (.val (PTR gb_4 0))), (8, .one (.val (PTR gb_25 0))), (9, .one (.val (S (rI .i64) x_27)))]) (.cons rfl (.cons rfl (.cons rfl (.cons rfl (.cons rfl .nil)))))) ?_
                    refine JL.at ⟨[(0, .one (.val (S (rI .i64) t_1))), (1, .one (.val (S (rL rS) a_2))), (5, .one (.val (PTR gb_4 0))), (8, .one (.val (PTR gb_25 0))), (9, .one (.val (S (rI .i64) x_27)))], [cvar gb_4 (rV 16 (rU UInt64)) x_51, cvar gb_25 (rV 16 (rU UInt64)) x_14], []⟩ ?_
                    refine JL.nil ?_
                    refine JQ.outNB ?_
                    replace hq19 := Option.some.inj hq19
                    subst hq19
                    exact JQ.joinK x_51 () rfl (Imp.norm (js := [0, 0]) rfl (.cons rfl (.cons rfl (.cons rfl (.cons rfl (.cons rfl .nil))))))
                  · refine JC.seq ?_
                    refine JC.region ?_
                    refine JL.cons rfl (op_assign (ltB rfl) .cI) ?_
                    refine JL.nil ?_
                    refine JQ.then ?_
                    refine JC.block ?_
                    obtain ⟨tv20, hL20, hq20⟩ := bnd_inv hx19
                    refine JC.pre ?_ (JC.loop (γ := Unit) (stf := fun s q => ⟨[(0, .one (.val (S (rI .i64) t_1))), (1, .one (.val (S (rL rS) a_2))), (5, .one (.val (PTR gb_4 0))), (8, .one (.val (PTR gb_25 0))), (9, .one (.val (S (rI .i64) x_27))), (10, .one (.val (S (rI .i64) s)))], [cvar gb_4 (rV 16 (rU UInt64)) x_26, cvar gb_25 (rV 16 (rU UInt64)) x_14], []⟩) (q := ()) hL20 ?_)
                    · exact (Imp.norm (js := [0, 0]) rfl (.cons rfl (.cons rfl (.cons rfl (.cons rfl (.cons rfl (.cons rfl .nil)))))))
                    · intro x_29 q x hx hr
                      obtain _ := q
                      change law09_EventNext.b3 k a_2 t_1 x_14 x_26 x_27 x_29 = some x at hx
                      unfold law09_EventNext.b3 at hx
                      refine JC.at ⟨[(0, .one (.val (S (rI .i64) t_1))), (1, .one (.val (S (rL rS) a_2))), (5, .one (.val (PTR gb_4 0))), (8, .one (.val (PTR gb_25 0))), (9, .one (.val (S (rI .i64) x_27))), (10, .one (.val (S (rI .i64) x_29)))], [cvar gb_4 (rV 16 (rU UInt64)) x_26, cvar gb_25 (rV 16 (rU UInt64)) x_14], []⟩ ?_
                      refine JC.seq ?_
                      refine JC.seq ?_
                      refine JC.region ?_
                      refine JL.cons rfl (op_move (ltB rfl) (.tmp rfl)) ?_
                      refine JL.cons rfl (op_move (ltB rfl) (.tmp rfl)) ?_
                      refine JL.cons rfl (op_lenL (ltB rfl) tu32 (.tmp rfl)) ?_
                      replace hx := lt1_inv hx
                      obtain ⟨v_30, hv_v_30, hx⟩ := hx
                      refine JL.cons rfl (op_cmpI (ltB rfl) (.tmp rfl) (.tmp rfl) (congrArg some hv_v_30)) ?_
                      refine JL.nil ?_
                      refine JQ.then ?_
                      rcases iteB_inv hx with ⟨hc21, hx⟩ | ⟨hc21, hx⟩
                      · refine JC.condT (.tmp rfl) hc21 ?_
                        refine JC.skip ?_
                        refine JQ.then ?_
                        refine JC.seq ?_
                        refine JC.block ?_
                        refine JC.seq ?_
                        replace hx := lt1_inv hx
                        obtain ⟨v_31, hv_v_31, hx⟩ := hx
                        replace hx := lt1_inv hx
                        obtain ⟨v_32, hv_v_32, hx⟩ := hx
                        replace hx := bnd_inv hx
                        obtain ⟨v_33, hv_v_33, hx⟩ := hx
                        refine JC.anyE (base := [(0, .one (.val (S (rI .i64) t_1))), (1, .one (.val (S (rL rS) a_2))), (5, .one (.val (PTR gb_4 0))), (8, .one (.val (PTR gb_25 0))), (9, .one (.val (S (rI .i64) x_27))), (10, .one (.val (S (rI .i64) x_29)))])
                            (fs := fun γ => [⟨some 57, .one (.val (S (rI .i64) t_1))⟩, ⟨some 58, .one (.val (S (rI .i64) x_29))⟩, ⟨some 59, .one (.val (S (rI .i64) v_31))⟩, ⟨some 60, .one (.val (S (rU UInt64) v_32))⟩, ⟨some 61, .one (.val (A (rP (rI .i64) (rP (rU UInt64) r0)) (t_1, (v_32, ()))))⟩, ⟨some 62, .one (.val (S (rL rS) a_2))⟩, ⟨some 63, .one (.val (S (rI .i64) x_29))⟩, ⟨some 64, .one (.val (PT rS v_33))⟩, ⟨some 65, .one (.val (S rS v_33))⟩, ⟨some 66, .one (.val (A (rV 16 (rU UInt64)) x_14))⟩, ⟨some 67, .one (.val (A (rP r_api_Dot (rP rS (rP (rW (HDR none 0 0 0)) (rP (rV 16 (rU UInt64)) (rP (rW (HDR none 0 0 0)) r0))))) ((api_Dot.mk t_1 v_32), (v_33, ((), (x_14, ((), ())))))))⟩, ⟨some 11, .one (.val (PTR (γ 11 0) 0))⟩, ⟨none, .one .any⟩])
                            (rs := fun γ => [⟨cvar gb_4 (rV 16 (rU UInt64)) x_26, none, none, []⟩, ⟨cvar gb_25 (rV 16 (rU UInt64)) x_14, none, none, [9]⟩, ⟨cvar (γ 11 0) (rP r_api_Dot (rP rS (rP (rW (HDR none 0 0 0)) (rP (rV 16 (rU UInt64)) (rP (rW (HDR none 0 0 0)) r0))))) ((api_Dot.mk (0 : Int) (0 : UInt64)), (([] : (List UInt8)), ((), ((Vector.replicate 16 (0 : UInt64)), ((), ()))))), (some 11), (some 12), []⟩, ⟨cvar (γ 11 0) (rP r_api_Dot (rP rS (rP (rW (HDR none 0 0 0)) (rP (rV 16 (rU UInt64)) (rP (rW (HDR none 0 0 0)) r0))))) ((api_Dot.mk t_1 v_32), (v_33, ((), (x_14, ((), ()))))), (some 12), none, []⟩])
                            (ds := [57, 58, 59, 60, 61, 62, 63, 64, 65, 66, 67, 11]) (bs := [0, 1, 5, 8, 9, 10]) (afts := [[], [], [], [], [], [], [], [], [], [], [], [11, 12], []]) (js := [0, 0]) mixed (.cons rfl (.cons rfl (.cons rfl (.cons rfl (.cons rfl (.cons rfl .nil)))))) (fun _ => rfl)
                            (by
      refine DSteps.cons (j := 1) rfl (fun _ => rfl) (.run (fun γ ρ B hb hd => ⟨.none, OpStep.at ⟨ρ, B, _⟩ (setO ⟨ρ, B, _⟩ (some 57) (.one (.val (S (rI .i64) t_1)))) (op_move (ltB rfl) (.tmp (hb 0 _ rfl)))⟩)) ?_
      refine DSteps.cons (j := 2) rfl (fun _ => rfl) (.run (fun γ ρ B hb hd => ⟨.none, OpStep.at ⟨ρ, B, _⟩ (setO ⟨ρ, B, _⟩ (some 58) (.one (.val (S (rI .i64) x_29)))) (op_move (ltB rfl) (.tmp (hb 10 _ rfl)))⟩)) ?_
      refine DSteps.cons (j := 3) rfl (fun _ => rfl) (.run (fun γ ρ B hb hd => ⟨.none, OpStep.at ⟨ρ, B, _⟩ (setO ⟨ρ, B, _⟩ (some 59) (.one (.val (S (rI .i64) v_31)))) (op_arI (ltB rfl) (.tmp (hdl hd 1 58 rfl (by decide +kernel))) .cI (congrArg some hv_v_31))⟩)) ?_
      refine DSteps.cons (j := 4) rfl (fun _ => rfl) (.run (fun γ ρ B hb hd => ⟨.none, OpStep.at ⟨ρ, B, _⟩ (setO ⟨ρ, B, _⟩ (some 60) (.one (.val (S (rU UInt64) v_32)))) (op_convIU (ltB rfl) tu3 tu22 (.tmp (hdl hd 2 59 rfl (by decide +kernel))) hv_v_32)⟩)) ?_
      refine DSteps.cons (j := 5) rfl (fun _ => rfl) (.run (fun γ ρ B hb hd => ⟨.none, OpStep.at ⟨ρ, B, _⟩ (setO ⟨ρ, B, _⟩ (some 61) (.one (.val (A (rP (rI .i64) (rP (rU UInt64) r0)) (t_1, (v_32, ())))))) (op_build (ltB rfl) tZ24 zs24 tp24 (.S (off := 0) rfl (.tmp (hdl hd 0 57 rfl (by decide +kernel))) rfl ((UpdR.fst (UpdR.self rfl)).at rfl) (.S (off := 1) rfl (.tmp (hdl hd 3 60 rfl (by decide +kernel))) rfl ((UpdR.snd (UpdR.fst (UpdR.self rfl))).at rfl) .nil)) rfl)⟩)) ?_
      refine DSteps.cons (j := 6) rfl (fun _ => rfl) (.run (fun γ ρ B hb hd => ⟨.none, OpStep.at ⟨ρ, B, _⟩ (setO ⟨ρ, B, _⟩ (some 62) (.one (.val (S (rL rS) a_2)))) (op_move (ltB rfl) (.tmp (hb 1 _ rfl)))⟩)) ?_
      refine DSteps.cons (j := 7) rfl (fun _ => rfl) (.run (fun γ ρ B hb hd => ⟨.none, OpStep.at ⟨ρ, B, _⟩ (setO ⟨ρ, B, _⟩ (some 63) (.one (.val (S (rI .i64) x_29)))) (op_move (ltB rfl) (.tmp (hb 10 _ rfl)))⟩)) ?_
      refine DSteps.cons (j := 8) rfl (fun _ => rfl) (.run (fun γ ρ B hb hd => ⟨.none, OpStep.at ⟨ρ, B, _⟩ (setO ⟨ρ, B, _⟩ (some 64) (.one (.val (PT rS v_33)))) (op_indexAddrLg (ltB rfl) tu32 tz9 (.tmp (hdl hd 5 62 rfl (by decide +kernel))) (.tmp (hdl hd 6 63 rfl (by decide +kernel))) hv_v_33)⟩)) ?_
      refine DSteps.cons (j := 9) rfl (fun _ => rfl) (.run (fun γ ρ B hb hd => ⟨.none, OpStep.at ⟨ρ, B, _⟩ (setO ⟨ρ, B, _⟩ (some 65) (.one (.val (S rS v_33)))) (op_loadPSg (ltB rfl) tS9 rfl (.tmp (hdl hd 7 64 rfl (by decide +kernel))) rfl)⟩)) ?_
      refine DSteps.cons (j := 10) rfl (fun _ => rfl) (.run (fun γ ρ B hb hd => ⟨.none, OpStep.at ⟨ρ, (cvar gb_25 (rV 16 (rU UInt64)) x_14) :: B, _⟩ (setO ⟨ρ, (cvar gb_25 (rV 16 (rU UInt64)) x_14) :: B, _⟩ (some 66) (.one (.val (A (rV 16 (rU UInt64)) x_14)))) (op_loadA (j := 0) (ltB rfl) tA26 (.tmp (hb 8 _ rfl)) rfl (Comp.self (rV 16 (rU UInt64)) x_14) rfl)⟩)) ?_
      refine DSteps.cons (j := 11) rfl (fun _ => rfl) (.run (fun γ ρ B hb hd => ⟨.none, OpStep.at ⟨ρ, B, _⟩ (setO ⟨ρ, B, _⟩ (some 67) (.one (.val (A (rP r_api_Dot (rP rS (rP (rW (HDR none 0 0 0)) (rP (rV 16 (rU UInt64)) (rP (rW (HDR none 0 0 0)) r0))))) ((api_Dot.mk t_1 v_32), (v_33, ((), (x_14, ((), ()))))))))) (op_build (ltB rfl) tZ38 zr38 tp38 (.A (off := 0) rfl (HasO.wk (q := A r_api_Dot (api_Dot.mk t_1 v_32)) (.tmp (hdl hd 4 61 rfl (by decide +kernel))) (wkAK (Wk.st Wk.refl))) ((UpdR.fst (UpdR.self rfl)).at rfl) (.S (off := 2) rfl (.tmp (hdl hd 8 65 rfl (by decide +kernel))) rfl ((UpdR.snd (UpdR.fst (UpdR.self rfl))).at rfl) (.A (off := 4) rfl (.tmp (hdl hd 9 66 rfl (by decide +kernel))) ((UpdR.snd (UpdR.snd (UpdR.snd (UpdR.fst (UpdR.self rfl))))).at rfl) .nil))) rfl)⟩)) ?_
      refine DSteps.cons (j := 12) rfl (fun _ => rfl) (.runX (fun _ _ => rfl) (fun γ ρ B hb hd => ⟨.none, OpX.ghost (st' := fun q => setO ⟨ρ, (cvar q (rP r_api_Dot (rP rS (rP (rW (HDR none 0 0 0)) (rP (rV 16 (rU UInt64)) (rP (rW (HDR none 0 0 0)) r0))))) ((api_Dot.mk (0 : Int) (0 : UInt64)), (([] : (List UInt8)), ((), ((Vector.replicate 16 (0 : UInt64)), ((), ())))))) :: B, _⟩ (some 11) (.one (.val (PTR q 0)))) (fun q c => q) (OpX.front (op_alloc (ltB rfl) tZ38 zr38)) (fun q => Imp.refl)⟩) (fun _ _ => rfl) (fun _ _ => rfl)) ?_
      refine DSteps.cons (j := 13) rfl (fun _ => rfl) (.run (fun γ ρ B hb hd => ⟨.none, OpStep.at ⟨ρ, (cvar (γ 11 0) (rP r_api_Dot (rP rS (rP (rW (HDR none 0 0 0)) (rP (rV 16 (rU UInt64)) (rP (rW (HDR none 0 0 0)) r0))))) ((api_Dot.mk (0 : Int) (0 : UInt64)), (([] : (List UInt8)), ((), ((Vector.replicate 16 (0 : UInt64)), ((), ())))))) :: B, _⟩ (setO ⟨ρ, (cvar (γ 11 0) (rP r_api_Dot (rP rS (rP (rW (HDR none 0 0 0)) (rP (rV 16 (rU UInt64)) (rP (rW (HDR none 0 0 0)) r0))))) ((api_Dot.mk t_1 v_32), (v_33, ((), (x_14, ((), ())))))) :: B, _⟩ (none) (.one .any)) (op_storeA (j := 0) tA38 (.tmp (hdl hd 11 11 rfl (by decide +kernel))) (.tmp (hdl hd 10 67 rfl (by decide +kernel))) rfl (UpdR.self rfl) rfl)⟩)) ?_
      exact DSteps.nil)
                            (by decide +kernel) (fun _ => rfl) rfl (fun _ => rfl) (fun _ => rfl) rfl (by decide) (by decide)
                            (ρ' := fun γ => [(0, .one (.val (S (rI .i64) t_1))), (1, .one (.val (S (rL rS) a_2))), (5, .one (.val (PTR gb_4 0))), (8, .one (.val (PTR gb_25 0))), (9, .one (.val (S (rI .i64) x_27))), (10, .one (.val (S (rI .i64) x_29))), (11, .one (.val (PTR (γ 11 0) 0)))])
                            (X' := fun γ => [cvar gb_4 (rV 16 (rU UInt64)) x_26, cvar gb_25 (rV 16 (rU UInt64)) x_14, cvar (γ 11 0) (rP r_api_Dot (rP rS (rP (rW (HDR none 0 0 0)) (rP (rV 16 (rU UInt64)) (rP (rW (HDR none 0 0 0)) r0))))) ((api_Dot.mk t_1 v_32), (v_33, ((), (x_14, ((), ())))))])
                            (fun γ ρ hb hd => (.cons (hb 0 _ rfl) (.cons (hb 1 _ rfl) (.cons (hb 5 _ rfl) (.cons (hb 8 _ rfl) (.cons (hb 9 _ rfl) (.cons (hb 10 _ rfl) (.cons (hdq hd 11 11 rfl) .nil)))))))) (fun _ => rfl) (fun γ => ?_)
                        generalize (γ 11 0) = gb_34
                        clear γ
                        refine JQ.at ⟨[(0, .one (.val (S (rI .i64) t_1))), (1, .one (.val (S (rL rS) a_2))), (5, .one (.val (PTR gb_4 0))), (8, .one (.val (PTR gb_25 0))), (9, .one (.val (S (rI .i64) x_27))), (10, .one (.val (S (rI .i64) x_29))), (11, .one (.val (PTR gb_34 0)))], [cvar gb_4 (rV 16 (rU UInt64)) x_26, cvar gb_25 (rV 16 (rU UInt64)) x_14, cvar gb_34 (rP r_api_Dot (rP rS (rP (rW (HDR none 0 0 0)) (rP (rV 16 (rU UInt64)) (rP (rW (HDR none 0 0 0)) r0))))) ((api_Dot.mk t_1 v_32), (v_33, ((), (x_14, ((), ())))))], []⟩ ?_
                        refine JQ.then ?_
                        refine JC.seq ?_
                        refine JC.region ?_
                        refine JL.cons rfl (op_move (ltB rfl) (.tmp rfl)) ?_
                        replace hx := lt1_inv hx
                        obtain ⟨v_35, hv_v_35, hx⟩ := hx
                        refine JL.cons rfl (op_arI (ltB rfl) (.tmp rfl) .cI (congrArg some hv_v_35)) ?_
                        refine JL.cons rfl (op_move (ltB rfl) (.tmp rfl)) ?_
                        replace hx := lt1_inv hx
                        obtain ⟨v_36, hv_v_36, hx⟩ := hx
                        refine JL.cons rfl (op_convIU (ltB rfl) tu3 tu22 (.tmp rfl) hv_v_36) ?_
                        refine JL.cons rfl (op_fieldAddr (off := 4) (ltB rfl) tf38_3 (.tmp rfl)) ?_
                        replace hx := bnd_inv hx
                        obtain ⟨i_37, hv_i_37, hx⟩ := hx
                        refine JL.cons rfl (op_indexAddrIF (ltB rfl) tr26 (.tmp rfl) (.tmp rfl) hv_i_37) ?_
                        refine JL.pre (Imp.sub (ρ' := [(0, .one (.val (S (rI .i64) t_1))), (1, .one (.val (S (rL rS) a_2))), (5, .one (.val (PTR gb_4 0))), (8, .one (.val (PTR gb_25 0))), (9, .one (.val (S (rI .i64) x_27))), (10, .one (.val (S (rI .i64) x_29))), (11, .one (.val (PTR gb_34 0))), (71, .one (.val (S (rU UInt64) v_36))), (73, .one (.val (PTR gb_34 ((0 + 4) + i_37.1 * 1))))]) (.cons rfl (.cons rfl (.cons rfl (.cons rfl (.cons rfl (.cons rfl (.cons rfl (.cons rfl (.cons rfl .nil)))))))))) ?_
                        refine JL.at ⟨[(0, .one (.val (S (rI .i64) t_1))), (1, .one (.val (S (rL rS) a_2))), (5, .one (.val (PTR gb_4 0))), (8, .one (.val (PTR gb_25 0))), (9, .one (.val (S (rI .i64) x_27))), (10, .one (.val (S (rI .i64) x_29))), (11, .one (.val (PTR gb_34 0))), (71, .one (.val (S (rU UInt64) v_36))), (73, .one (.val (PTR gb_34 ((0 + 4) + i_37.1 * 1))))], [cvar gb_4 (rV 16 (rU UInt64)) x_26, cvar gb_25 (rV 16 (rU UInt64)) x_14, cvar gb_34 (rP r_api_Dot (rP rS (rP (rW (HDR none 0 0 0)) (rP (rV 16 (rU UInt64)) (rP (rW (HDR none 0 0 0)) r0))))) ((api_Dot.mk t_1 v_32), (v_33, ((), (x_14, ((), ())))))], []⟩ ?_
                        refine JL.cons rfl (op_storeS (j := 2) tS22 (.tmp rfl) (.tmp rfl) rfl rfl ((UpdR.snd (UpdR.snd (UpdR.snd (UpdR.fst (Upd.at (Comp.self (rV 16 (rU UInt64)) x_14) i_37.2 rfl (Upd.self (rV 16 (rU UInt64)) x_14 _)).R)))).at (by change (2 + (1 + (1 + (0 + i_37.1 * 1)))) = ((0 + 4) + i_37.1 * 1); omega)) rfl) ?_
                        refine JL.pre (Imp.sub (ρ' := [(0, .one (.val (S (rI .i64) t_1))), (1, .one (.val (S (rL rS) a_2))), (5, .one (.val (PTR gb_4 0))), (8, .one (.val (PTR gb_25 0))), (9, .one (.val (S (rI .i64) x_27))), (10, .one (.val (S (rI .i64) x_29))), (11, .one (.val (PTR gb_34 0)))]) (.cons rfl (.cons rfl (.cons rfl (.cons rfl (.cons rfl (.cons rfl (.cons rfl .nil)))))))) ?_
                        refine JL.at ⟨[(0, .one (.val (S (rI .i64) t_1))), (1, .one (.val (S (rL rS) a_2))), (5, .one (.val (PTR gb_4 0))), (8, .one (.val (PTR gb_25 0))), (9, .one (.val (S (rI .i64) x_27))), (10, .one (.val (S (rI .i64) x_29))), (11, .one (.val (PTR gb_34 0)))], [cvar gb_4 (rV 16 (rU UInt64)) x_26, cvar gb_25 (rV 16 (rU UInt64)) x_14, cvar gb_34 (rP r_api_Dot (rP rS (rP (rW (HDR none 0 0 0)) (rP (rV 16 (rU UInt64)) (rP (rW (HDR none 0 0 0)) r0))))) ((api_Dot.mk t_1 v_32), (v_33, ((), ((putV x_14 i_37 v_36), ((), ())))))], []⟩ ?_
                        refine JL.nil ?_
                        refine JQ.then ?_
                        obtain ⟨x_44, hx22, hq22⟩ := bnd_inv hx
                        refine JC.seqJ (γ := Unit) (stj := fun q => ⟨[(0, .one (.val (S (rI .i64) t_1))), (1, .one (.val (S (rL rS) a_2))), (5, .one (.val (PTR gb_4 0))), (8, .one (.val (PTR gb_25 0))), (9, .one (.val (S (rI .i64) x_27))), (10, .one (.val (S (rI .i64) x_29))), (90, .one (.val (S rB x_44)))], [cvar gb_4 (rV 16 (rU UInt64)) x_26, cvar gb_25 (rV 16 (rU UInt64)) x_14], []⟩) (fun q => ?_) ?_
                        · obtain _ := q
                          refine JC.at ⟨[(0, .one (.val (S (rI .i64) t_1))), (1, .one (.val (S (rL rS) a_2))), (5, .one (.val (PTR gb_4 0))), (8, .one (.val (PTR gb_25 0))), (9, .one (.val (S (rI .i64) x_27))), (10, .one (.val (S (rI .i64) x_29))), (90, .one (.val (S rB x_44)))], [cvar gb_4 (rV 16 (rU UInt64)) x_26, cvar gb_25 (rV 16 (rU UInt64)) x_14], []⟩ ?_
                          rcases iteB_inv hq22 with ⟨hc26, hq22⟩ | ⟨hc26, hq22⟩
                          · refine JC.condT (.tmp rfl) hc26 ?_
                            refine JC.seq ?_
                            refine JC.region ?_
                            refine JL.cons rfl (op_assign (ltB rfl) .cB) ?_
                            refine JL.nil ?_
                            refine JQ.then ?_
                            refine JC.ret ?_
                            refine JQ.outRB ?_
                            refine JQ.outR ?_
                            replace hq22 := Option.some.inj hq22
                            subst hq22
                            have ht := hr _ rfl
                            clear hr
                            subst ht
                            dsimp only at hq20
                            refine JQ.outR ?_
                            refine JQ.outRB ?_
                            replace hq20 := Option.some.inj hq20
                            subst hq20
                            dsimp only at hq19
                            refine JQ.outR ?_
                            refine JQ.outRB ?_
                            replace hq19 := Option.some.inj hq19
                            subst hq19
                            dsimp only at hq18
                            refine JQ.outR ?_
                            replace hq18 := Option.some.inj hq18
                            subst hq18
                            have ht := hr _ rfl
                            clear hr
                            subst ht
                            dsimp only at hq16
                            refine JQ.outR ?_
                            refine JQ.outRB ?_
                            replace hq16 := Option.some.inj hq16
                            subst hq16
                            dsimp only at hq15
                            refine JQ.outR ?_
                            replace hq15 := Option.some.inj hq15
                            subst hq15
                            exact JQ.done (js := []) (ss := [.val (S rB false)]) () (.inl rfl) (.nil rfl) rfl (.cons (.tmp rfl) .nil) rfl rfl rfl
                          · refine JC.condF (.tmp rfl) hc26 ?_
                            refine JC.skip ?_
                            refine JQ.outNB ?_
                            refine JQ.then ?_
                            refine JC.region ?_
                            refine JL.cons rfl (op_move (ltB rfl) (.tmp rfl)) ?_
                            replace hq22 := lt1_inv hq22
                            obtain ⟨v_45, hv_v_45, hq22⟩ := hq22
                            refine JL.cons rfl (op_arI (ltB rfl) (.tmp rfl) .cI (congrArg some hv_v_45)) ?_
                            refine JL.cons rfl (op_assign (ltB rfl) (.tmp rfl)) ?_
                            refine JL.nil ?_
                            replace hq22 := Option.some.inj hq22
                            subst hq22
                            exact JQ.next () rfl (Imp.norm (js := [0, 0]) rfl (.cons rfl (.cons rfl (.cons rfl (.cons rfl (.cons rfl (.cons rfl .nil)))))))
                        · refine JC.region ?_
                          refine JL.cons rfl (op_loadA (j := 2) (ltB rfl) tA38 (.tmp rfl) rfl (Comp.self (rP r_api_Dot (rP rS (rP (rW (HDR none 0 0 0)) (rP (rV 16 (rU UInt64)) (rP (rW (HDR none 0 0 0)) r0))))) ((api_Dot.mk t_1 v_32), (v_33, ((), ((putV x_14 i_37 v_36), ((), ())))))) rfl) ?_
                          refine JL.cons rfl (op_loadA (j := 0) (ltB rfl) tA26 (.tmp rfl) rfl (Comp.self (rV 16 (rU UInt64)) x_26) rfl) ?_
                          replace hx22 := bnd_inv hx22
                          obtain ⟨v_38, hv_v_38, hx22⟩ := hx22
                          refine JL.consX rfl (op_call (js := []) (ltD rfl) cl13 (sim_event_Ready k (api_Event.mk (api_Dot.mk t_1 v_32) v_33 ([] : (List UInt8)) (putV x_14 i_37 v_36) ([] : (List api_Dest))) x_26 v_38 hv_v_38) .func (.cons (HasO.wk (q := A r_api_Event (api_Event.mk (api_Dot.mk t_1 v_32) v_33 ([] : (List UInt8)) (putV x_14 i_37 v_36) ([] : (List api_Dest)))) (.tmp rfl) (wkAK (Wk.st (Wk.pair Wk.refl (Wk.pair Wk.refl (Wk.pair Wk.nil (Wk.pair Wk.refl (Wk.pair Wk.nil Wk.refl)))))))) (.cons (.tmp rfl) .nil)) rfl) (fun _ => ?_)
                          refine JL.cons rfl (op_move (ltB rfl) (.tmp rfl)) ?_
                          refine JL.cons rfl (op_move (ltB rfl) (.tmp rfl)) ?_
                          replace hx22 := lt1_inv hx22
                          obtain ⟨v_39, hv_v_39, hx22⟩ := hx22
                          refine JL.cons rfl (op_cmpI (ltB rfl) (.tmp rfl) (.tmp rfl) (congrArg some hv_v_39)) ?_
                          refine JL.pre (Imp.sub (ρ' := [(0, .one (.val (S (rI .i64) t_1))), (1, .one (.val (S (rL rS) a_2))), (5, .one (.val (PTR gb_4 0))), (8, .one (.val (PTR gb_25 0))), (9, .one (.val (S (rI .i64) x_27))), (10, .one (.val (S (rI .i64) x_29))), (11, .one (.val (PTR gb_34 0))), (76, .one (.val (S rB v_38))), (79, .one (.val (S rB v_39)))]) (.cons rfl (.cons rfl (.cons rfl (.cons rfl (.cons rfl (.cons rfl (.cons rfl (.cons rfl (.cons rfl .nil)))))))))) ?_
                          refine JL.at ⟨[(0, .one (.val (S (rI .i64) t_1))), (1, .one (.val (S (rL rS) a_2))), (5, .one (.val (PTR gb_4 0))), (8, .one (.val (PTR gb_25 0))), (9, .one (.val (S (rI .i64) x_27))), (10, .one (.val (S (rI .i64) x_29))), (11, .one (.val (PTR gb_34 0))), (76, .one (.val (S rB v_38))), (79, .one (.val (S rB v_39)))], [cvar gb_4 (rV 16 (rU UInt64)) x_26, cvar gb_25 (rV 16 (rU UInt64)) x_14, cvar gb_34 (rP r_api_Dot (rP rS (rP (rW (HDR none 0 0 0)) (rP (rV 16 (rU UInt64)) (rP (rW (HDR none 0 0 0)) r0))))) ((api_Dot.mk t_1 v_32), (v_33, ((), ((putV x_14 i_37 v_36), ((), ())))))], []⟩ ?_
                          replace hx22 := lt1_inv hx22
                          obtain ⟨v_40, hv_v_40, hx22⟩ := hx22
                          refine JL.cons rfl (op_neB (ltB rfl) tu4 (.tmp rfl) (.tmp rfl) hv_v_40) ?_
                          refine JL.cons rfl (op_move (ltB rfl) (.tmp rfl)) ?_
                          refine JL.cnd (sv := .one (.val (A (rV 16 (rU UInt64)) x_26))) (Guard.isF (ltB rfl) rfl rfl) rfl (ltB rfl) (fun hq_23 => op_loadA (j := 0) (ltB rfl) tA26 (.tmp rfl) rfl (Comp.self (rV 16 (rU UInt64)) x_26) rfl) ?_
                          rcases iteB_inv hx22 with ⟨hc25, hx22⟩ | ⟨hc25, hx22⟩
                          · refine JL.skip (.no rfl (ltB rfl) rfl hc25) (fun d h => by cases h; exact ltB rfl) ?_
                            refine JL.skip (.no rfl (ltB rfl) rfl hc25) (fun d h => by cases h; exact ltB rfl) ?_
                            refine JL.skip (.no rfl (ltB rfl) rfl hc25) (fun d h => by cases h; exact ltB rfl) ?_
                            refine JL.skip (.no rfl (ltB rfl) rfl hc25) (fun d h => by cases h; exact ltB rfl) ?_
                            refine JL.skip (.no rfl (ltB rfl) rfl hc25) (fun d h => by cases h; exact ltB rfl) ?_
                            refine JL.skip (.no rfl (ltB rfl) rfl hc25) (fun d h => by cases h; exact ltB rfl) ?_
                            refine JL.skip (.no rfl (ltB rfl) rfl hc25) (fun d h => by cases h; exact ltB rfl) ?_
                            refine JL.cons rfl (op_pickT (ltB rfl) (.tmp rfl) hc25 .cB) ?_
                            refine JL.nil ?_
                            replace hx22 := Option.some.inj hx22
                            subst hx22
                            exact JQ.join () (Imp.norm (js := [0, 0]) rfl (.cons rfl (.cons rfl (.cons rfl (.cons rfl (.cons rfl (.cons rfl (.cons rfl .nil))))))))
                          · refine JL.run (.yes rfl (ltB rfl) rfl hc25) (op_fieldAddr (off := 0) (ltB rfl) tf38_0 (.tmp rfl)) ?_
                            refine JL.run (.yes rfl (ltB rfl) rfl hc25) (op_loadA (j := 2) (ltB rfl) tA24 (.tmp rfl) rfl (Comp.trans (Comp.self (rP r_api_Dot (rP rS (rP (rW (HDR none 0 0 0)) (rP (rV 16 (rU UInt64)) (rP (rW (HDR none 0 0 0)) r0))))) ((api_Dot.mk t_1 v_32), (v_33, ((), ((putV x_14 i_37 v_36), ((), ())))))) (Comp.at' (Comp.inF (Comp.self r_api_Dot (api_Dot.mk t_1 v_32)) (by decide)) (by rfl : _ = 0)) (by decide)) rfl) ?_
                            replace hx22 := bnd_inv hx22
                            obtain ⟨v_41, hv_v_41, hx22⟩ := hx22
                            refine JL.runX (.yes rfl (ltB rfl) rfl hc25) (op_call (js := []) (ltD rfl) cl9 (sim_event_Under k x_26 (api_Dot.mk t_1 v_32) v_41 hv_v_41) .func (.cons (HasO.cnd (.tmp rfl) (notT hc25)) (.cons (.tmp rfl) .nil)) rfl) (fun _ => ?_)
                            refine JL.pre (Imp.norm (ρ' := [(0, .one (.val (S (rI .i64) t_1))), (1, .one (.val (S (rL rS) a_2))), (5, .one (.val (PTR gb_4 0))), (8, .one (.val (PTR gb_25 0))), (9, .one (.val (S (rI .i64) x_27))), (10, .one (.val (S (rI .i64) x_29))), (81, .one (.val (S rB v_40))), (85, .one (.val (S rB v_41)))]) (js := [0, 0]) rfl (.cons rfl (.cons rfl (.cons rfl (.cons rfl (.cons rfl (.cons rfl (.cons rfl (.cons rfl .nil))))))))) ?_
                            refine JL.at ⟨[(0, .one (.val (S (rI .i64) t_1))), (1, .one (.val (S (rL rS) a_2))), (5, .one (.val (PTR gb_4 0))), (8, .one (.val (PTR gb_25 0))), (9, .one (.val (S (rI .i64) x_27))), (10, .one (.val (S (rI .i64) x_29))), (81, .one (.val (S rB v_40))), (85, .one (.val (S rB v_41)))], [cvar gb_4 (rV 16 (rU UInt64)) x_26, cvar gb_25 (rV 16 (rU UInt64)) x_14], []⟩ ?_
                            refine JL.run (.yes rfl (ltB rfl) rfl hc25) (op_move (ltB rfl) (.tmp rfl)) ?_
                            refine JL.run (.yes rfl (ltB rfl) rfl hc25) (op_move (ltB rfl) (.tmp rfl)) ?_
                            replace hx22 := lt1_inv hx22
                            obtain ⟨v_42, hv_v_42, hx22⟩ := hx22
                            refine JL.run (.yes rfl (ltB rfl) rfl hc25) (op_cmpI (ltB rfl) (.tmp rfl) (.tmp rfl) (congrArg some hv_v_42)) ?_
                            replace hx22 := lt1_inv hx22
                            obtain ⟨v_43, hv_v_43, hx22⟩ := hx22
                            refine JL.run (.yes rfl (ltB rfl) rfl hc25) (op_neB (ltB rfl) tu4 (.tmp rfl) (.tmp rfl) hv_v_43) ?_
                            refine JL.cons rfl (op_pickF (ltB rfl) (.tmp rfl) hc25 (.tmp rfl)) ?_
                            refine JL.nil ?_
                            replace hx22 := Option.some.inj hx22
                            subst hx22
                            exact JQ.join () (Imp.norm (js := [0, 0]) rfl (.cons rfl (.cons rfl (.cons rfl (.cons rfl (.cons rfl (.cons rfl (.cons rfl .nil))))))))
                      · refine JC.condF (.tmp rfl) hc21 ?_
                        refine JC.exit ?_
                        refine JQ.outX ?_
                        replace hx := Option.some.inj hx
                        subst hx
                        have ht := hr _ rfl
                        clear hr
                        subst ht
                        dsimp only at hq20
                        refine JQ.outX ?_
                        refine JQ.here ?_
                        replace hq20 := Option.some.inj hq20
                        subst hq20
                        exact JQ.joinK () () rfl (Imp.norm (js := [0, 0]) rfl (.cons rfl (.cons rfl (.cons rfl (.cons rfl (.cons rfl .nil))))))
              · refine JC.condF (.tmp rfl) hc17 ?_
                refine JC.exit ?_
                refine JQ.outX ?_
                replace hx := Option.some.inj hx
                subst hx
                have ht := hr _ rfl
                clear hr
                subst ht
                dsimp only at hq16
                refine JQ.outX ?_
                refine JQ.here ?_
                replace hq16 := Option.some.inj hq16
                subst hq16
                exact JQ.joinK () () rfl (Imp.norm (js := []) rfl .nil)
      · refine JC.seq ?_
        refine JC.region ?_
        refine JL.cons rfl (op_assign (ltB rfl) .cI) ?_
        refine JL.nil ?_
        refine JQ.then ?_
        refine JC.block ?_
        obtain ⟨tv11, hL11, hq11⟩ := bnd_inv hx10
        refine JC.pre ?_ (JC.loop (γ := Unit) (stf := fun s q => ⟨[(0, .one (.val (S (rI .i64) t_1))), (1, .one (.val (S (rL rS) a_2))), (5, .one (.val (PTR gb_4 0))), (7, .one (.val (S (rI .i64) s)))], [cvar gb_4 (rV 16 (rU UInt64)) x_14], []⟩) (q := ()) hL11 ?_)
        · exact (Imp.norm (js := [0]) rfl (.cons rfl (.cons rfl (.cons rfl (.cons rfl .nil)))))
        · intro x_15 q x hx hr
          obtain _ := q
          change law09_EventNext.b1 k a_2 x_15 = some x at hx
          unfold law09_EventNext.b1 at hx
          refine JC.at ⟨[(0, .one (.val (S (rI .i64) t_1))), (1, .one (.val (S (rL rS) a_2))), (5, .one (.val (PTR gb_4 0))), (7, .one (.val (S (rI .i64) x_15)))], [cvar gb_4 (rV 16 (rU UInt64)) x_14], []⟩ ?_
          refine JC.seq ?_
          refine JC.seq ?_
          refine JC.region ?_
          refine JL.cons rfl (op_move (ltB rfl) (.tmp rfl)) ?_
          refine JL.cons rfl (op_move (ltB rfl) (.tmp rfl)) ?_
          refine JL.cons rfl (op_lenL (ltB rfl) tu32 (.tmp rfl)) ?_
          replace hx := lt1_inv hx
          obtain ⟨v_16, hv_v_16, hx⟩ := hx
          refine JL.cons rfl (op_cmpI (ltB rfl) (.tmp rfl) (.tmp rfl) (congrArg some hv_v_16)) ?_
          refine JL.nil ?_
          refine JQ.then ?_
          rcases iteB_inv hx with ⟨hc12, hx⟩ | ⟨hc12, hx⟩
          · refine JC.condT (.tmp rfl) hc12 ?_
            refine JC.skip ?_
            refine JQ.then ?_
            refine JC.seq ?_
            refine JC.block ?_
            refine JC.seq ?_
            refine JC.region ?_
            refine JL.cons rfl (op_move (ltB rfl) (.tmp rfl)) ?_
            refine JL.cons rfl (op_move (ltB rfl) (.tmp rfl)) ?_
            refine JL.pre (Imp.sub (ρ' := [(0, .one (.val (S (rI .i64) t_1))), (1, .one (.val (S (rL rS) a_2))), (5, .one (.val (PTR gb_4 0))), (7, .one (.val (S (rI .i64) x_15))), (33, .one (.val (S (rL rS) a_2))), (34, .one (.val (S (rI .i64) x_15)))]) (.cons rfl (.cons rfl (.cons rfl (.cons rfl (.cons rfl (.cons rfl .nil))))))) ?_
            refine JL.at ⟨[(0, .one (.val (S (rI .i64) t_1))), (1, .one (.val (S (rL rS) a_2))), (5, .one (.val (PTR gb_4 0))), (7, .one (.val (S (rI .i64) x_15))), (33, .one (.val (S (rL rS) a_2))), (34, .one (.val (S (rI .i64) x_15)))], [cvar gb_4 (rV 16 (rU UInt64)) x_14], []⟩ ?_
            replace hx := bnd_inv hx
            obtain ⟨v_17, hv_v_17, hx⟩ := hx
            refine JL.cons rfl (op_indexAddrLg (ltB rfl) tu32 tz9 (.tmp rfl) (.tmp rfl) hv_v_17) ?_
            refine JL.cons rfl (op_loadPSg (ltB rfl) tS9 rfl (.tmp rfl) rfl) ?_
            replace hx := bnd_inv hx
            obtain ⟨v_18, hv_v_18, hx⟩ := hx
            refine JL.consX rfl (op_call (js := []) (ltD rfl) cl11 (sim_ref09_MayName k v_17 v_18 hv_v_18) .func (.cons (.tmp rfl) .nil) rfl) (fun _ => ?_)
            replace hx := lt1_inv hx
            obtain ⟨v_19, hv_v_19, hx⟩ := hx
            refine JL.cons rfl (op_not (ltB rfl) (.tmp rfl) hv_v_19) ?_
            refine JL.nil ?_
            refine JQ.then ?_
            rcases iteB_inv hx with ⟨hc13, hx⟩ | ⟨hc13, hx⟩
            · refine JC.condT (.tmp rfl) hc13 ?_
              refine JC.seq ?_
              refine JC.region ?_
              replace hx := bnd_inv hx
              obtain ⟨v_20, hv_v_20, hx⟩ := hx
              refine JL.consX rfl (op_call (js := []) (ltD rfl) cl10 (sim_law09_known k v_20 hv_v_20) .func .nil rfl) (fun _ => ?_)
              refine JL.cons rfl (op_assign (ltB rfl) (.tmp rfl)) ?_
              refine JL.pre (Imp.norm (ρ' := [(6, .one (.val (S rB v_20)))]) (js := []) rfl (.cons rfl .nil)) ?_
              refine JL.at ⟨[(6, .one (.val (S rB v_20)))], [], []⟩ ?_
              refine JL.nil ?_
              refine JQ.then ?_
              refine JC.ret ?_
              refine JQ.outRB ?_
              refine JQ.outR ?_
              replace hx := Option.some.inj hx
              subst hx
              have ht := hr _ rfl
              clear hr
              subst ht
              dsimp only at hq11
              refine JQ.outR ?_
              refine JQ.outRB ?_
              replace hq11 := Option.some.inj hq11
              subst hq11
              dsimp only at hq10
              refine JQ.outR ?_
              replace hq10 := Option.some.inj hq10
              subst hq10
              exact JQ.done (js := []) (ss := [.val (S rB v_20)]) () (.inl rfl) (.nil rfl) rfl (.cons (.tmp rfl) .nil) rfl rfl rfl
            · refine JC.condF (.tmp rfl) hc13 ?_
              refine JC.skip ?_
              refine JQ.outNB ?_
              refine JQ.then ?_
              refine JC.region ?_
              refine JL.cons rfl (op_move (ltB rfl) (.tmp rfl)) ?_
              replace hx := lt1_inv hx
              obtain ⟨v_21, hv_v_21, hx⟩ := hx
              refine JL.cons rfl (op_arI (ltB rfl) (.tmp rfl) .cI (congrArg some hv_v_21)) ?_
              refine JL.pre (Imp.sub (ρ' := [(0, .one (.val (S (rI .i64) t_1))), (1, .one (.val (S (rL rS) a_2))), (5, .one (.val (PTR gb_4 0))), (7, .one (.val (S (rI .i64) x_15))), (32, .one (.val (S (rI .i64) v_21)))]) (.cons rfl (.cons rfl (.cons rfl (.cons rfl (.cons rfl .nil)))))) ?_
              refine JL.at ⟨[(0, .one (.val (S (rI .i64) t_1))), (1, .one (.val (S (rL rS) a_2))), (5, .one (.val (PTR gb_4 0))), (7, .one (.val (S (rI .i64) x_15))), (32, .one (.val (S (rI .i64) v_21)))], [cvar gb_4 (rV 16 (rU UInt64)) x_14], []⟩ ?_
              refine JL.cons rfl (op_assign (ltB rfl) (.tmp rfl)) ?_
              refine JL.nil ?_
              replace hx := Option.some.inj hx
              subst hx
              exact JQ.next () rfl (Imp.norm (js := [0]) rfl (.cons rfl (.cons rfl (.cons rfl (.cons rfl .nil)))))
          · refine JC.condF (.tmp rfl) hc12 ?_
            refine JC.exit ?_
            refine JQ.outX ?_
            replace hx := Option.some.inj hx
            subst hx
            have ht := hr _ rfl
            clear hr
            subst ht
            dsimp only at hq11
            refine JQ.outX ?_
            refine JQ.here ?_
            replace hq11 := Option.some.inj hq11
            subst hq11
            exact JQ.joinK () () rfl (Imp.norm (js := [0]) rfl (.cons rfl (.cons rfl (.cons rfl .nil))))
  · refine JC.region ?_
    refine JL.cons rfl (op_move (ltB rfl) (.tmp rfl)) ?_
    replace hx1 := lt1_inv hx1
    obtain ⟨v_5, hv_v_5, hx1⟩ := hx1
    refine JL.cons rfl (op_cmpI (ltB rfl) (.tmp rfl) .cI (congrArg some hv_v_5)) ?_
    refine JL.cons rfl (op_move (ltB rfl) (.tmp rfl)) ?_
    refine JL.cnd (sv := .one (.val (S (rI .i64) t_1))) (Guard.isF (ltB rfl) rfl rfl) rfl (ltB rfl) (fun hq_2 => op_move (ltB rfl) (.tmp rfl)) ?_
    replace hx1 := lt1_inv hx1
    obtain ⟨v_6, hv_v_6, hx1⟩ := hx1
    refine JL.cnd (sv := .one (.val (S rB v_6))) (Guard.isF (ltB rfl) rfl rfl) rfl (ltB rfl) (fun hq_3 => op_cmpI (ltB rfl) (HasO.cnd (.tmp rfl) (notT (notF hq_3))) .cI (congrArg some hv_v_6)) ?_
    refine JL.pre (Imp.sub (ρ' := [(0, .one (.val (S (rI .i64) t_1))), (1, .one (.val (S (rL rS) a_2))), (5, .one (.val (PTR gb_4 0))), (14, .one (.val (S rB v_5))), (16, bif (!v_5) then .one (.val (S rB v_6)) else .one .und)]) (.cons rfl (.cons rfl (.cons rfl (.cons rfl (.cons rfl .nil)))))) ?_
    refine JL.at ⟨[(0, .one (.val (S (rI .i64) t_1))), (1, .one (.val (S (rL rS) a_2))), (5, .one (.val (PTR gb_4 0))), (14, .one (.val (S rB v_5))), (16, bif (!v_5) then .one (.val (S rB v_6)) else .one .und)], [cvar gb_4 (rV 16 (rU UInt64)) a_3], []⟩ ?_
    replace hx1 := lt1_inv hx1
    obtain ⟨v_7, hv_v_7, hx1⟩ := hx1
    refine JL.cons rfl (op_pickCS (ltB rfl) (.tmp rfl) (fun hb4 => .cB) (fun hb4 => (HasO.cnd (.tmp rfl) (notT hb4))) hv_v_7) ?_
    refine JL.cons rfl (op_move (ltB rfl) (.tmp rfl)) ?_
    refine JL.cnd (sv := .one (.val (S (rL rS) a_2))) (Guard.isF (ltB rfl) rfl rfl) rfl (ltB rfl) (fun hq_5 => op_move (ltB rfl) (.tmp rfl)) ?_
    refine JL.cnd (sv := .one (.val (S (rI .i64) (List.length a_2 : Int)))) (Guard.isF (ltB rfl) rfl rfl) rfl (ltB rfl) (fun hq_6 => op_lenL (ltB rfl) tu32 (HasO.cnd (.tmp rfl) (notT (notF hq_6)))) ?_
    replace hx1 := lt1_inv hx1
    obtain ⟨v_8, hv_v_8, hx1⟩ := hx1
    refine JL.cnd (sv := .one (.val (S rB v_8))) (Guard.isF (ltB rfl) rfl rfl) rfl (ltB rfl) (fun hq_7 => op_cmpI (ltB rfl) (HasO.cnd (.tmp rfl) (notT (notF hq_7))) .cI (congrArg some hv_v_8)) ?_
    replace hx1 := lt1_inv hx1
    obtain ⟨v_9, hv_v_9, hx1⟩ := hx1
    refine JL.cons rfl (op_pickCS (ltB rfl) (.tmp rfl) (fun hb8 => .cB) (fun hb8 => (HasO.cnd (.tmp rfl) (notT hb8))) hv_v_9) ?_
    refine JL.pre (Imp.sub (ρ' := [(0, .one (.val (S (rI .i64) t_1))), (1, .one (.val (S (rL rS) a_2))), (5, .one (.val (PTR gb_4 0))), (22, .one (.val (S rB v_9)))]) (.cons rfl (.cons rfl (.cons rfl (.cons rfl .nil))))) ?_
    refine JL.at ⟨[(0, .one (.val (S (rI .i64) t_1))), (1, .one (.val (S (rL rS) a_2))), (5, .one (.val (PTR gb_4 0))), (22, .one (.val (S rB v_9)))], [cvar gb_4 (rV 16 (rU UInt64)) a_3], []⟩ ?_
    refine JL.nil ?_
    replace hx1 := Option.some.inj hx1
    subst hx1
    exact JQ.join () (Imp.norm (js := [0]) rfl (.cons rfl (.cons rfl (.cons rfl (.cons rfl .nil)))))

end Go.Proofs.Ythoggbomakolkaa
