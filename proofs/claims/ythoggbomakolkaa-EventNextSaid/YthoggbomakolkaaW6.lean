/- Walks. -/
import Derived.Test.YthoggbomakolkaaT
namespace Go.Proofs.Ythoggbomakolkaa
open Go Fw
set_option linter.unusedVariables false
set_option maxRecDepth 100000
set_option maxHeartbeats 4000000

theorem sim_ref09_MayName (k : Nat) (s_1 : (List UInt8)) (r : Bool) (hm : ref09_MayName k s_1 = some r) : Sim Try.prog 11 [S rS s_1] [] (γ := Unit) (fun q => []) (fun q => .one (.val (S rB r))) := by
  unfold ref09_MayName at hm
  refine Sim.of Try.func11 rfl rfl (Nat.le_of_ble_eq_true rfl) (fun e0 w0 => ?_)
  refine JC.at ⟨[(0, .one (.val (S rS s_1)))], [], []⟩ ?_
  refine JC.seq ?_
  refine JC.region ?_
  refine JL.cons rfl (op_assign (ltB rfl) .cB) ?_
  refine JL.nil ?_
  refine JQ.then ?_
  obtain ⟨x_5, hx1, hq1⟩ := bnd_inv hm
  refine JC.seqJ (γ := Unit) (stj := fun q => ⟨[(2, .one (.val (S rB x_5)))], [], []⟩) (fun q => ?_) ?_
  · obtain _ := q
    refine JC.at ⟨[(2, .one (.val (S rB x_5)))], [], []⟩ ?_
    refine JC.ret ?_
    replace hq1 := Option.some.inj hq1
    subst hq1
    exact JQ.done (js := []) (ss := [.val (S rB x_5)]) () (.inl rfl) (.nil rfl) rfl (.cons (.tmp rfl) .nil) rfl rfl rfl
  · refine JC.region ?_
    refine JL.cons rfl (op_move (ltB rfl) (.tmp rfl)) ?_
    refine JL.cons rfl (op_lenS (ltB rfl) tu9 (.tmp rfl)) ?_
    replace hx1 := lt1_inv hx1
    obtain ⟨v_2, hv_v_2, hx1⟩ := hx1
    refine JL.cons rfl (op_cmpI (ltB rfl) (.tmp rfl) .cI (congrArg some hv_v_2)) ?_
    refine JL.cons rfl (op_move (ltB rfl) (.tmp rfl)) ?_
    refine JL.cnd (sv := .one (.val (S rS s_1))) (Guard.isT (ltB rfl) rfl rfl) rfl (ltB rfl) (fun hq_2 => op_move (ltB rfl) (.tmp rfl)) ?_
    refine JL.pre (Imp.sub (ρ' := [(2, .one (.val (S rB false))), (6, .one (.val (S rB v_2))), (7, bif v_2 then .one (.val (S rS s_1)) else .one .und)]) (.cons rfl (.cons rfl (.cons rfl .nil)))) ?_
    refine JL.at ⟨[(2, .one (.val (S rB false))), (6, .one (.val (S rB v_2))), (7, bif v_2 then .one (.val (S rS s_1)) else .one .und)], [], []⟩ ?_
    refine JL.cnd (sv := .one (.val (S (rI .i64) (List.length s_1 : Int)))) (Guard.isT (ltB rfl) rfl rfl) rfl (ltB rfl) (fun hq_3 => op_lenS (ltB rfl) tu9 (HasO.cnd (.tmp rfl) hq_3)) ?_
    replace hx1 := lt1_inv hx1
    obtain ⟨v_3, hv_v_3, hx1⟩ := hx1
    refine JL.cnd (sv := .one (.val (S rB v_3))) (Guard.isT (ltB rfl) rfl rfl) rfl (ltB rfl) (fun hq_4 => op_cmpI (ltB rfl) (HasO.cnd (.tmp rfl) hq_4) .cI (congrArg some hv_v_3)) ?_
    replace hx1 := lt1_inv hx1
    obtain ⟨v_4, hv_v_4, hx1⟩ := hx1
    refine JL.cons rfl (op_pickCS (ltB rfl) (.tmp rfl) (fun hb5 => (HasO.cnd (.tmp rfl) hb5)) (fun hb5 => .cB) hv_v_4) ?_
    refine JL.cons rfl (op_assign (ltB rfl) (.tmp rfl)) ?_
    refine JL.nil ?_
    replace hx1 := Option.some.inj hx1
    subst hx1
    exact JQ.join () (Imp.norm (js := []) rfl (.cons rfl .nil))

theorem sim_ref09_MayVector (k : Nat) (v_1 : (Vector UInt64 16)) (r : Bool) (hm : ref09_MayVector k v_1 = some r) : Sim Try.prog 12 [A (rV 16 (rU UInt64)) v_1] [] (γ := Unit) (fun q => []) (fun q => .one (.val (S rB r))) := by
  unfold ref09_MayVector at hm
  refine Sim.of Try.func12 rfl rfl (Nat.le_of_ble_eq_true rfl) (fun e0 w0 => ?_)
  refine JC.at ⟨[(0, .one (.val (A (rV 16 (rU UInt64)) v_1)))], [], []⟩ ?_
  refine JC.seq ?_
  refine JC.region ?_
  refine JL.consX rfl (op_boxA (ltB rfl) (.tmp rfl)) (fun q => ?_)
  obtain ⟨gb_2, hqq⟩ : ∃ z, z = q := ⟨_, rfl⟩
  subst hqq
  refine JL.pre (Imp.sub (ρ' := [(1, .one (.val (PTR gb_2 0)))]) (.cons rfl .nil)) ?_
  refine JL.at ⟨[(1, .one (.val (PTR gb_2 0)))], [cvar gb_2 (rV 16 (rU UInt64)) v_1], []⟩ ?_
  refine JL.cons rfl (op_assign (ltB rfl) .cB) ?_
  refine JL.nil ?_
  refine JQ.then ?_
  obtain ⟨tv1, hx1, hq1⟩ := bnd_inv hm
  refine JC.seqK (α := Unit) (γ := Unit) (stj := fun v q => ⟨[], [], []⟩) (p := fun v => tv1 = (.inl v)) (fun v q hv => ?_) ?_
  · subst hv
    skip
    obtain _ := q
    dsimp only at hq1
    refine JC.at ⟨[], [], []⟩ ?_
    refine JC.seq ?_
    refine JC.region ?_
    refine JL.cons rfl (op_assign (ltB rfl) .cB) ?_
    refine JL.nil ?_
    refine JQ.then ?_
    refine JC.ret ?_
    replace hq1 := Option.some.inj hq1
    subst hq1
    exact JQ.done (js := []) (ss := [.val (S rB true)]) () (.inl rfl) (.nil rfl) rfl (.cons (.tmp rfl) .nil) rfl rfl rfl
  · refine JC.seq ?_
    refine JC.region ?_
    refine JL.cons rfl (op_assign (ltB rfl) .cI) ?_
    refine JL.nil ?_
    refine JQ.then ?_
    refine JC.block ?_
    obtain ⟨tv2, hL2, hq2⟩ := bnd_inv hx1
    refine JC.pre ?_ (JC.loop (γ := Unit) (stf := fun s q => ⟨[(1, .one (.val (PTR gb_2 0))), (3, .one (.val (S (rI .i64) s)))], [cvar gb_2 (rV 16 (rU UInt64)) v_1], []⟩) (q := ()) hL2 ?_)
    · exact (Imp.norm (js := [0]) rfl (.cons rfl (.cons rfl .nil)))
    · intro i_3 q x hx hr
      obtain _ := q
      change ref09_MayVector.b1 k v_1 i_3 = some x at hx
      unfold ref09_MayVector.b1 at hx
      refine JC.at ⟨[(1, .one (.val (PTR gb_2 0))), (3, .one (.val (S (rI .i64) i_3)))], [cvar gb_2 (rV 16 (rU UInt64)) v_1], []⟩ ?_
      refine JC.seq ?_
      refine JC.seq ?_
      refine JC.region ?_
      refine JL.cons rfl (op_move (ltB rfl) (.tmp rfl)) ?_
      replace hx := lt1_inv hx
      obtain ⟨v_4, hv_v_4, hx⟩ := hx
      refine JL.cons rfl (op_cmpI (ltB rfl) (.tmp rfl) .cI (congrArg some hv_v_4)) ?_
      refine JL.nil ?_
      refine JQ.then ?_
      rcases iteB_inv hx with ⟨hc3, hx⟩ | ⟨hc3, hx⟩
      · refine JC.condT (.tmp rfl) hc3 ?_
        refine JC.skip ?_
        refine JQ.then ?_
        refine JC.seq ?_
        refine JC.block ?_
        refine JC.seq ?_
        refine JC.region ?_
        refine JL.cons rfl (op_move (ltB rfl) (.tmp rfl)) ?_
        replace hx := bnd_inv hx
        obtain ⟨i_5, hv_i_5, hx⟩ := hx
        refine JL.cons rfl (op_indexAddrIF (ltB rfl) tr26 (.tmp rfl) (.tmp rfl) hv_i_5) ?_
        replace hx := lt1_inv hx
        obtain ⟨v_6, hv_v_6, hx⟩ := hx
        refine JL.cons rfl (op_loadS (j := 0) (ltB rfl) tS22 (.tmp rfl) rfl (Comp.at (Comp.self (rV 16 (rU UInt64)) v_1) i_5.2 rfl) rfl hv_v_6) ?_
        replace hx := lt1_inv hx
        obtain ⟨v_7, hv_v_7, hx⟩ := hx
        refine JL.cons rfl (op_cmpU (ltB rfl) (.tmp rfl) (HasO.cU (x := (4611686018427387904 : UInt64)) rfl (by decide)) (congrArg some hv_v_7)) ?_
        refine JL.pre (Imp.sub (ρ' := [(1, .one (.val (PTR gb_2 0))), (3, .one (.val (S (rI .i64) i_3))), (11, .one (.val (S rB v_7)))]) (.cons rfl (.cons rfl (.cons rfl .nil)))) ?_
        refine JL.at ⟨[(1, .one (.val (PTR gb_2 0))), (3, .one (.val (S (rI .i64) i_3))), (11, .one (.val (S rB v_7)))], [cvar gb_2 (rV 16 (rU UInt64)) v_1], []⟩ ?_
        refine JL.nil ?_
        refine JQ.then ?_
        rcases iteB_inv hx with ⟨hc4, hx⟩ | ⟨hc4, hx⟩
        · refine JC.condT (.tmp rfl) hc4 ?_
          refine JC.seq ?_
          refine JC.region ?_
          refine JL.cons rfl (op_assign (ltB rfl) .cB) ?_
          refine JL.nil ?_
          refine JQ.then ?_
          refine JC.ret ?_
          refine JQ.outRB ?_
          refine JQ.outR ?_
          replace hx := Option.some.inj hx
          subst hx
          have ht := hr _ rfl
          clear hr
          subst ht
          dsimp only at hq2
          refine JQ.outR ?_
          refine JQ.outRB ?_
          replace hq2 := Option.some.inj hq2
          subst hq2
          dsimp only at hq1
          refine JQ.outR ?_
          replace hq1 := Option.some.inj hq1
          subst hq1
          exact JQ.done (js := []) (ss := [.val (S rB false)]) () (.inl rfl) (.nil rfl) rfl (.cons (.tmp rfl) .nil) rfl rfl rfl
        · refine JC.condF (.tmp rfl) hc4 ?_
          refine JC.skip ?_
          refine JQ.outNB ?_
          refine JQ.then ?_
          refine JC.region ?_
          refine JL.cons rfl (op_move (ltB rfl) (.tmp rfl)) ?_
          replace hx := lt1_inv hx
          obtain ⟨v_8, hv_v_8, hx⟩ := hx
          refine JL.cons rfl (op_arI (ltB rfl) (.tmp rfl) .cI (congrArg some hv_v_8)) ?_
          refine JL.cons rfl (op_assign (ltB rfl) (.tmp rfl)) ?_
          refine JL.nil ?_
          replace hx := Option.some.inj hx
          subst hx
          exact JQ.next () rfl (Imp.norm (js := [0]) rfl (.cons rfl (.cons rfl .nil)))
      · refine JC.condF (.tmp rfl) hc3 ?_
        refine JC.exit ?_
        refine JQ.outX ?_
        replace hx := Option.some.inj hx
        subst hx
        have ht := hr _ rfl
        clear hr
        subst ht
        dsimp only at hq2
        refine JQ.outX ?_
        refine JQ.here ?_
        replace hq2 := Option.some.inj hq2
        subst hq2
        exact JQ.joinK () () rfl (Imp.norm (js := []) rfl .nil)

end Go.Proofs.Ythoggbomakolkaa
