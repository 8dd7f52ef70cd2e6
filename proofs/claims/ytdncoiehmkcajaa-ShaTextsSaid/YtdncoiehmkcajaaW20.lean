/- Walks. -/
import Derived.Test.YtdncoiehmkcajaaT
import Derived.Test.YtdncoiehmkcajaaW8
namespace Go.Proofs.Ytdncoiehmkcajaa
open Go Fw
set_option linter.unusedVariables false
set_option maxRecDepth 100000
set_option maxHeartbeats 4000000

theorem sim_ref03_prime (k : Nat) (i_1 : Int) (r : UInt64) (hm : ref03_prime k i_1 = some r) : Sim Try.prog 36 [S (rI .i64) i_1] [] (γ := Unit) (fun q => []) (fun q => .one (.val (S (rU UInt64) r))) := by
  unfold ref03_prime at hm
  refine Sim.of Try.func36 rfl rfl (Nat.le_of_ble_eq_true rfl) (fun e0 w0 => ?_)
  refine JC.at ⟨[(0, .one (.val (S (rI .i64) i_1)))], [], []⟩ ?_
  refine JC.seq ?_
  refine JC.region ?_
  refine JL.cons rfl (op_assign (ltB rfl) (HasO.cU (x := (0 : UInt64)) rfl (by decide))) ?_
  refine JL.nil ?_
  refine JQ.then ?_
  refine JC.seq ?_
  refine JC.region ?_
  refine JL.cons rfl (op_assign (ltB rfl) (HasO.cU (x := (1 : UInt64)) rfl (by decide))) ?_
  refine JL.nil ?_
  refine JQ.then ?_
  replace hm := bnd_inv hm
  obtain ⟨n_17, hx1, hq1⟩ := hm
  refine JC.seqJ (γ := Unit) (stj := fun q => ⟨[(3, .one (.val (S (rU UInt64) n_17)))], [], []⟩) (fun q => ?_) ?_
  · obtain _ := q
    refine JC.at ⟨[(3, .one (.val (S (rU UInt64) n_17)))], [], []⟩ ?_
    refine JC.seq ?_
    refine JC.region ?_
    refine JL.cons rfl (op_move (ltB rfl) (.tmp rfl)) ?_
    refine JL.cons rfl (op_assign (ltB rfl) (.tmp rfl)) ?_
    refine JL.nil ?_
    refine JQ.then ?_
    refine JC.ret ?_
    replace hq1 := Option.some.inj hq1
    subst hq1
    exact JQ.done (js := []) (ss := [.val (S (rU UInt64) n_17)]) () (.inl rfl) (.nil rfl) rfl (.cons (.tmp rfl) .nil) rfl rfl rfl
  · refine JC.block ?_
    refine JC.pre ?_ (JC.loop (γ := Unit) (stf := fun s q => ⟨[(0, .one (.val (S (rI .i64) s.1))), (3, .one (.val (S (rU UInt64) s.2)))], [], []⟩) (q := ()) hx1 ?_)
    · exact (Imp.norm (js := []) rfl (.cons rfl (.cons rfl .nil)))
    · intro s q x hx hr
      obtain ⟨i_2, n_3⟩ := s
      obtain _ := q
      change ref03_prime.b1 k i_2 n_3 = some x at hx
      unfold ref03_prime.b1 at hx
      refine JC.at ⟨[(0, .one (.val (S (rI .i64) i_2))), (3, .one (.val (S (rU UInt64) n_3)))], [], []⟩ ?_
      refine JC.seq ?_
      refine JC.seq ?_
      refine JC.region ?_
      refine JL.cons rfl (op_move (ltB rfl) (.tmp rfl)) ?_
      replace hx := lt1_inv hx
      obtain ⟨v_4, hv_v_4, hx⟩ := hx
      refine JL.cons rfl (op_cmpI (ltB rfl) (.tmp rfl) .cI (congrArg some hv_v_4)) ?_
      refine JL.nil ?_
      refine JQ.then ?_
      replace hx := iteB_inv hx
      rcases hx with ⟨hc3, hx⟩ | ⟨hc3, hx⟩
      · refine JC.condT (.tmp rfl) hc3 ?_
        refine JC.skip ?_
        refine JQ.then ?_
        refine JC.block ?_
        refine JC.seq ?_
        refine JC.region ?_
        refine JL.cons rfl (op_move (ltB rfl) (.tmp rfl)) ?_
        replace hx := lt1_inv hx
        obtain ⟨v_5, hv_v_5, hx⟩ := hx
        refine JL.cons rfl (op_arU (ltB rfl) (.tmp rfl) (HasO.cU (x := (1 : UInt64)) rfl (by decide)) (congrArg some hv_v_5)) ?_
        refine JL.cons rfl (op_assign (ltB rfl) (.tmp rfl)) ?_
        refine JL.nil ?_
        refine JQ.then ?_
        refine JC.seq ?_
        refine JC.region ?_
        refine JL.cons rfl (op_assign (ltB rfl) .cB) ?_
        refine JL.pre (Imp.sub (ρ' := [(0, .one (.val (S (rI .i64) i_2))), (3, .one (.val (S (rU UInt64) v_5))), (4, .one (.val (S rB true)))]) (.cons rfl (.cons rfl (.cons rfl .nil)))) ?_
        refine JL.at ⟨[(0, .one (.val (S (rI .i64) i_2))), (3, .one (.val (S (rU UInt64) v_5))), (4, .one (.val (S rB true)))], [], []⟩ ?_
        refine JL.nil ?_
        refine JQ.then ?_
        replace hx := bnd_inv hx
        obtain ⟨is_15, hx4, hq4⟩ := hx
        refine JC.seqJ (γ := Unit) (stj := fun q => ⟨[(0, .one (.val (S (rI .i64) i_2))), (3, .one (.val (S (rU UInt64) v_5))), (4, .one (.val (S rB is_15)))], [], []⟩) (fun q => ?_) ?_
        · obtain _ := q
          refine JC.at ⟨[(0, .one (.val (S (rI .i64) i_2))), (3, .one (.val (S (rU UInt64) v_5))), (4, .one (.val (S rB is_15)))], [], []⟩ ?_
          refine JC.seq ?_
          refine JC.region ?_
          refine JL.cons rfl (op_move (ltB rfl) (.tmp rfl)) ?_
          refine JL.nil ?_
          refine JQ.then ?_
          replace hq4 := iteB_inv hq4
          rcases hq4 with ⟨hc13, hq4⟩ | ⟨hc13, hq4⟩
          · refine JC.condT (.tmp rfl) hc13 ?_
            refine JC.region ?_
            refine JL.cons rfl (op_move (ltB rfl) (.tmp rfl)) ?_
            replace hq4 := lt1_inv hq4
            obtain ⟨v_16, hv_v_16, hq4⟩ := hq4
            refine JL.cons rfl (op_arI (ltB rfl) (.tmp rfl) .cI (congrArg some hv_v_16)) ?_
            refine JL.cons rfl (op_assign (ltB rfl) (.tmp rfl)) ?_
            refine JL.nil ?_
            refine JQ.outNB ?_
            replace hq4 := Option.some.inj hq4
            first | subst hq4 | clear hq4
            exact JQ.next () rfl (Imp.norm (js := []) rfl (.cons rfl (.cons rfl .nil)))
          · refine JC.condF (.tmp rfl) hc13 ?_
            refine JC.skip ?_
            refine JQ.outNB ?_
            replace hq4 := Option.some.inj hq4
            first | subst hq4 | clear hq4
            exact JQ.next () rfl (Imp.norm (js := []) rfl (.cons rfl (.cons rfl .nil)))
        · refine JC.seq ?_
          refine JC.region ?_
          refine JL.cons rfl (op_assign (ltB rfl) (HasO.cU (x := (2 : UInt64)) rfl (by decide))) ?_
          refine JL.nil ?_
          refine JQ.then ?_
          refine JC.block ?_
          refine JC.pre ?_ (JC.loop (γ := Unit) (stf := fun s q => ⟨[(0, .one (.val (S (rI .i64) i_2))), (3, .one (.val (S (rU UInt64) v_5))), (4, .one (.val (S rB s.1))), (5, .one (.val (S (rU UInt64) s.2)))], [], []⟩) (q := ()) hx4 ?_)
          · exact (Imp.norm (js := []) rfl (.cons rfl (.cons rfl (.cons rfl (.cons rfl .nil)))))
          · intro s q x hx hr
            obtain ⟨is_6, k_7⟩ := s
            obtain _ := q
            change ref03_prime.b2 k v_5 is_6 k_7 = some x at hx
            unfold ref03_prime.b2 at hx
            refine JC.at ⟨[(0, .one (.val (S (rI .i64) i_2))), (3, .one (.val (S (rU UInt64) v_5))), (4, .one (.val (S rB is_6))), (5, .one (.val (S (rU UInt64) k_7)))], [], []⟩ ?_
            refine JC.seq ?_
            refine JC.seq ?_
            refine JC.region ?_
            refine JL.cons rfl (op_move (ltB rfl) (.tmp rfl)) ?_
            refine JL.cons rfl (op_move (ltB rfl) (.tmp rfl)) ?_
            replace hx := lt1_inv hx
            obtain ⟨v_8, hv_v_8, hx⟩ := hx
            refine JL.cons rfl (op_arU (ltB rfl) (.tmp rfl) (.tmp rfl) (congrArg some hv_v_8)) ?_
            refine JL.cons rfl (op_move (ltB rfl) (.tmp rfl)) ?_
            replace hx := lt1_inv hx
            obtain ⟨v_9, hv_v_9, hx⟩ := hx
            refine JL.cons rfl (op_cmpU (ltB rfl) (.tmp rfl) (.tmp rfl) (congrArg some hv_v_9)) ?_
            refine JL.nil ?_
            refine JQ.then ?_
            replace hx := iteB_inv hx
            rcases hx with ⟨hc6, hx⟩ | ⟨hc6, hx⟩
            · refine JC.condT (.tmp rfl) hc6 ?_
              refine JC.skip ?_
              refine JQ.then ?_
              replace hx := bnd_inv hx
              obtain ⟨is_13, hx7, hq7⟩ := hx
              refine JC.seqJ (γ := Unit) (stj := fun q => ⟨[(0, .one (.val (S (rI .i64) i_2))), (3, .one (.val (S (rU UInt64) v_5))), (4, .one (.val (S rB is_13))), (5, .one (.val (S (rU UInt64) k_7)))], [], []⟩) (fun q => ?_) ?_
              · obtain _ := q
                refine JC.at ⟨[(0, .one (.val (S (rI .i64) i_2))), (3, .one (.val (S (rU UInt64) v_5))), (4, .one (.val (S rB is_13))), (5, .one (.val (S (rU UInt64) k_7)))], [], []⟩ ?_
                refine JC.region ?_
                refine JL.cons rfl (op_move (ltB rfl) (.tmp rfl)) ?_
                replace hq7 := lt1_inv hq7
                obtain ⟨v_14, hv_v_14, hq7⟩ := hq7
                refine JL.cons rfl (op_arU (ltB rfl) (.tmp rfl) (HasO.cU (x := (1 : UInt64)) rfl (by decide)) (congrArg some hv_v_14)) ?_
                refine JL.cons rfl (op_assign (ltB rfl) (.tmp rfl)) ?_
                refine JL.nil ?_
                replace hq7 := Option.some.inj hq7
                first | subst hq7 | clear hq7
                exact JQ.next () rfl (Imp.norm (js := []) rfl (.cons rfl (.cons rfl (.cons rfl (.cons rfl .nil)))))
              · refine JC.block ?_
                refine JC.region ?_
                refine JL.cons rfl (op_move (ltB rfl) (.tmp rfl)) ?_
                refine JL.pre (Imp.sub (ρ' := [(0, .one (.val (S (rI .i64) i_2))), (3, .one (.val (S (rU UInt64) v_5))), (4, .one (.val (S rB is_6))), (5, .one (.val (S (rU UInt64) k_7))), (17, .one (.val (S rB is_6)))]) (.cons rfl (.cons rfl (.cons rfl (.cons rfl (.cons rfl .nil)))))) ?_
                refine JL.at ⟨[(0, .one (.val (S (rI .i64) i_2))), (3, .one (.val (S (rU UInt64) v_5))), (4, .one (.val (S rB is_6))), (5, .one (.val (S (rU UInt64) k_7))), (17, .one (.val (S rB is_6)))], [], []⟩ ?_
                refine JL.cons rfl (op_move (ltB rfl) (.tmp rfl)) ?_
                refine JL.cnd (sv := .one (.val (S (rU UInt64) v_5))) (Guard.isT (ltB rfl) rfl rfl) rfl (ltB rfl) (fun hq_8 => op_move (ltB rfl) (.tmp rfl)) ?_
                refine JL.cnd (sv := .one (.val (S (rU UInt64) k_7))) (Guard.isT (ltB rfl) rfl rfl) rfl (ltB rfl) (fun hq_9 => op_move (ltB rfl) (.tmp rfl)) ?_
                replace hx7 := bnd_inv hx7
                obtain ⟨v_10, hv_v_10, hx7⟩ := hx7
                refine JL.cnd (sv := .one (.val (S (rU UInt64) v_10))) (Guard.isT (ltB rfl) rfl rfl) rfl (ltB rfl) (fun hq_10 => op_arU (ltB rfl) (HasO.cnd (.tmp rfl) hq_10) (HasO.cnd (.tmp rfl) hq_10) (ifT hv_v_10 hq_10)) ?_
                replace hx7 := lt1_inv hx7
                obtain ⟨v_11, hv_v_11, hx7⟩ := hx7
                refine JL.cnd (sv := .one (.val (S rB v_11))) (Guard.isT (ltB rfl) rfl rfl) rfl (ltB rfl) (fun hq_11 => op_cmpU (ltB rfl) (HasO.cnd (.tmp rfl) hq_11) (HasO.cU (x := (0 : UInt64)) rfl (by decide)) (congrArg some hv_v_11)) ?_
                replace hx7 := lt1_inv hx7
                obtain ⟨v_12, hv_v_12, hx7⟩ := hx7
                refine JL.cons rfl (op_pickCS (ltB rfl) (.tmp rfl) (fun hb12 => (HasO.cnd (.tmp rfl) hb12)) (fun hb12 => .cB) hv_v_12) ?_
                refine JL.pre (Imp.sub (ρ' := [(0, .one (.val (S (rI .i64) i_2))), (3, .one (.val (S (rU UInt64) v_5))), (4, .one (.val (S rB is_6))), (5, .one (.val (S (rU UInt64) k_7))), (23, .one (.val (S rB v_12)))]) (.cons rfl (.cons rfl (.cons rfl (.cons rfl (.cons rfl .nil)))))) ?_
                refine JL.at ⟨[(0, .one (.val (S (rI .i64) i_2))), (3, .one (.val (S (rU UInt64) v_5))), (4, .one (.val (S rB is_6))), (5, .one (.val (S (rU UInt64) k_7))), (23, .one (.val (S rB v_12)))], [], []⟩ ?_
                refine JL.cons rfl (op_assign (ltB rfl) (.tmp rfl)) ?_
                refine JL.nil ?_
                refine JQ.outNB ?_
                replace hx7 := Option.some.inj hx7
                first | subst hx7 | clear hx7
                exact JQ.join () (Imp.norm (js := []) rfl (.cons rfl (.cons rfl (.cons rfl (.cons rfl .nil)))))
            · refine JC.condF (.tmp rfl) hc6 ?_
              refine JC.exit ?_
              refine JQ.outX ?_
              replace hx := Option.some.inj hx
              first | subst hx | clear hx
              have ht := hr _ rfl
              have hq5 := congrArg some ht
              clear hr ht
              refine JQ.outX ?_
              refine JQ.here ?_
              replace hq5 := Option.some.inj hq5
              first | subst hq5 | clear hq5
              exact JQ.join () (Imp.norm (js := []) rfl (.cons rfl (.cons rfl (.cons rfl .nil))))
      · refine JC.condF (.tmp rfl) hc3 ?_
        refine JC.exit ?_
        refine JQ.outX ?_
        replace hx := Option.some.inj hx
        first | subst hx | clear hx
        have ht := hr _ rfl
        have hq2 := congrArg some ht
        clear hr ht
        refine JQ.outX ?_
        refine JQ.here ?_
        replace hq2 := Option.some.inj hq2
        first | subst hq2 | clear hq2
        exact JQ.join () (Imp.norm (js := []) rfl (.cons rfl .nil))

theorem sim_ref03_Start (k : Nat) (i_1 : Int) (r : UInt32) (hm : ref03_Start k i_1 = some r) : Sim Try.prog 23 [S (rI .i64) i_1] [] (γ := Unit) (fun q => []) (fun q => .one (.val (S (rU UInt32) r))) := by
  unfold ref03_Start at hm
  refine Sim.of Try.func23 rfl rfl (Nat.le_of_ble_eq_true rfl) (fun e0 w0 => ?_)
  refine JC.at ⟨[(0, .one (.val (S (rI .i64) i_1)))], [], []⟩ ?_
  refine JC.seq ?_
  refine JC.region ?_
  refine JL.cons rfl (op_assign (ltB rfl) (HasO.cU (x := (0 : UInt32)) rfl (by decide))) ?_
  refine JL.nil ?_
  refine JQ.then ?_
  refine JC.seq ?_
  replace hm := bnd_inv hm
  obtain ⟨x_5, hx1, hq1⟩ := hm
  refine JC.seqJ (γ := Unit) (stj := fun q => ⟨[(0, .one (.val (S (rI .i64) i_1))), (8, .one (.val (S rB x_5)))], [], []⟩) (fun q => ?_) ?_
  · obtain _ := q
    refine JC.at ⟨[(0, .one (.val (S (rI .i64) i_1))), (8, .one (.val (S rB x_5)))], [], []⟩ ?_
    replace hq1 := iteB_inv hq1
    rcases hq1 with ⟨hc5, hq1⟩ | ⟨hc5, hq1⟩
    · refine JC.condT (.tmp rfl) hc5 ?_
      refine JC.seq ?_
      refine JC.region ?_
      refine JL.cons rfl (op_assign (ltB rfl) (HasO.cU (x := (0 : UInt32)) rfl (by decide))) ?_
      refine JL.nil ?_
      refine JQ.then ?_
      refine JC.ret ?_
      refine JQ.outR ?_
      replace hq1 := Option.some.inj hq1
      subst hq1
      exact JQ.done (js := []) (ss := [.val (S (rU UInt32) (0 : UInt32))]) () (.inl rfl) (.nil rfl) rfl (.cons (.tmp rfl) .nil) rfl rfl rfl
    · refine JC.condF (.tmp rfl) hc5 ?_
      refine JC.skip ?_
      refine JQ.then ?_
      refine JC.seq ?_
      refine JC.region ?_
      refine JL.cons rfl (op_move (ltB rfl) (.tmp rfl)) ?_
      replace hq1 := bnd_inv hq1
      obtain ⟨v_6, hv_v_6, hq1⟩ := hq1
      refine JL.consX rfl (op_call (js := []) (ltD rfl) cl36 (sim_ref03_prime k i_1 v_6 hv_v_6) .func (.cons (.tmp rfl) .nil) rfl) (fun _ => ?_)
      replace hq1 := bnd_inv hq1
      obtain ⟨v_7, hv_v_7, hq1⟩ := hq1
      refine JL.consX rfl (op_call (js := []) (ltD rfl) cl35 (sim_ref03_root k v_6 (2 : Int) v_7 hv_v_7) .func (.cons (.tmp rfl) (.cons .cI .nil)) rfl) (fun _ => ?_)
      refine JL.cons rfl (op_assign (ltB rfl) (.tmp rfl)) ?_
      refine JL.nil ?_
      refine JQ.then ?_
      refine JC.ret ?_
      replace hq1 := Option.some.inj hq1
      subst hq1
      exact JQ.done (js := []) (ss := [.val (S (rU UInt32) v_7)]) () (.inl rfl) (.nil rfl) rfl (.cons (.tmp rfl) .nil) rfl rfl rfl
  · refine JC.region ?_
    refine JL.cons rfl (op_move (ltB rfl) (.tmp rfl)) ?_
    replace hx1 := lt1_inv hx1
    obtain ⟨v_2, hv_v_2, hx1⟩ := hx1
    refine JL.cons rfl (op_cmpI (ltB rfl) (.tmp rfl) .cI (congrArg some hv_v_2)) ?_
    refine JL.cons rfl (op_move (ltB rfl) (.tmp rfl)) ?_
    refine JL.cnd (sv := .one (.val (S (rI .i64) i_1))) (Guard.isF (ltB rfl) rfl rfl) rfl (ltB rfl) (fun hq_2 => op_move (ltB rfl) (.tmp rfl)) ?_
    replace hx1 := lt1_inv hx1
    obtain ⟨v_3, hv_v_3, hx1⟩ := hx1
    refine JL.cnd (sv := .one (.val (S rB v_3))) (Guard.isF (ltB rfl) rfl rfl) rfl (ltB rfl) (fun hq_3 => op_cmpI (ltB rfl) (HasO.cnd (.tmp rfl) (notT (notF hq_3))) .cI (congrArg some hv_v_3)) ?_
    refine JL.pre (Imp.sub (ρ' := [(0, .one (.val (S (rI .i64) i_1))), (5, .one (.val (S rB v_2))), (7, bif (!v_2) then .one (.val (S rB v_3)) else .one .und)]) (.cons rfl (.cons rfl (.cons rfl .nil)))) ?_
    refine JL.at ⟨[(0, .one (.val (S (rI .i64) i_1))), (5, .one (.val (S rB v_2))), (7, bif (!v_2) then .one (.val (S rB v_3)) else .one .und)], [], []⟩ ?_
    replace hx1 := lt1_inv hx1
    obtain ⟨v_4, hv_v_4, hx1⟩ := hx1
    refine JL.cons rfl (op_pickCS (ltB rfl) (.tmp rfl) (fun hb4 => .cB) (fun hb4 => (HasO.cnd (.tmp rfl) (notT hb4))) hv_v_4) ?_
    refine JL.nil ?_
    replace hx1 := Option.some.inj hx1
    first | subst hx1 | clear hx1
    exact JQ.join () (Imp.norm (js := []) rfl (.cons rfl (.cons rfl .nil)))

theorem sim_ref03_Constant (k : Nat) (i_1 : Int) (r : UInt32) (hm : ref03_Constant k i_1 = some r) : Sim Try.prog 25 [S (rI .i64) i_1] [] (γ := Unit) (fun q => []) (fun q => .one (.val (S (rU UInt32) r))) := by
  unfold ref03_Constant at hm
  refine Sim.of Try.func25 rfl rfl (Nat.le_of_ble_eq_true rfl) (fun e0 w0 => ?_)
  refine JC.at ⟨[(0, .one (.val (S (rI .i64) i_1)))], [], []⟩ ?_
  refine JC.seq ?_
  refine JC.region ?_
  refine JL.cons rfl (op_assign (ltB rfl) (HasO.cU (x := (0 : UInt32)) rfl (by decide))) ?_
  refine JL.nil ?_
  refine JQ.then ?_
  refine JC.seq ?_
  replace hm := bnd_inv hm
  obtain ⟨x_5, hx1, hq1⟩ := hm
  refine JC.seqJ (γ := Unit) (stj := fun q => ⟨[(0, .one (.val (S (rI .i64) i_1))), (8, .one (.val (S rB x_5)))], [], []⟩) (fun q => ?_) ?_
  · obtain _ := q
    refine JC.at ⟨[(0, .one (.val (S (rI .i64) i_1))), (8, .one (.val (S rB x_5)))], [], []⟩ ?_
    replace hq1 := iteB_inv hq1
    rcases hq1 with ⟨hc5, hq1⟩ | ⟨hc5, hq1⟩
    · refine JC.condT (.tmp rfl) hc5 ?_
      refine JC.seq ?_
      refine JC.region ?_
      refine JL.cons rfl (op_assign (ltB rfl) (HasO.cU (x := (0 : UInt32)) rfl (by decide))) ?_
      refine JL.nil ?_
      refine JQ.then ?_
      refine JC.ret ?_
      refine JQ.outR ?_
      replace hq1 := Option.some.inj hq1
      subst hq1
      exact JQ.done (js := []) (ss := [.val (S (rU UInt32) (0 : UInt32))]) () (.inl rfl) (.nil rfl) rfl (.cons (.tmp rfl) .nil) rfl rfl rfl
    · refine JC.condF (.tmp rfl) hc5 ?_
      refine JC.skip ?_
      refine JQ.then ?_
      refine JC.seq ?_
      refine JC.region ?_
      refine JL.cons rfl (op_move (ltB rfl) (.tmp rfl)) ?_
      replace hq1 := bnd_inv hq1
      obtain ⟨v_6, hv_v_6, hq1⟩ := hq1
      refine JL.consX rfl (op_call (js := []) (ltD rfl) cl36 (sim_ref03_prime k i_1 v_6 hv_v_6) .func (.cons (.tmp rfl) .nil) rfl) (fun _ => ?_)
      replace hq1 := bnd_inv hq1
      obtain ⟨v_7, hv_v_7, hq1⟩ := hq1
      refine JL.consX rfl (op_call (js := []) (ltD rfl) cl35 (sim_ref03_root k v_6 (3 : Int) v_7 hv_v_7) .func (.cons (.tmp rfl) (.cons .cI .nil)) rfl) (fun _ => ?_)
      refine JL.cons rfl (op_assign (ltB rfl) (.tmp rfl)) ?_
      refine JL.nil ?_
      refine JQ.then ?_
      refine JC.ret ?_
      replace hq1 := Option.some.inj hq1
      subst hq1
      exact JQ.done (js := []) (ss := [.val (S (rU UInt32) v_7)]) () (.inl rfl) (.nil rfl) rfl (.cons (.tmp rfl) .nil) rfl rfl rfl
  · refine JC.region ?_
    refine JL.cons rfl (op_move (ltB rfl) (.tmp rfl)) ?_
    replace hx1 := lt1_inv hx1
    obtain ⟨v_2, hv_v_2, hx1⟩ := hx1
    refine JL.cons rfl (op_cmpI (ltB rfl) (.tmp rfl) .cI (congrArg some hv_v_2)) ?_
    refine JL.cons rfl (op_move (ltB rfl) (.tmp rfl)) ?_
    refine JL.cnd (sv := .one (.val (S (rI .i64) i_1))) (Guard.isF (ltB rfl) rfl rfl) rfl (ltB rfl) (fun hq_2 => op_move (ltB rfl) (.tmp rfl)) ?_
    replace hx1 := lt1_inv hx1
    obtain ⟨v_3, hv_v_3, hx1⟩ := hx1
    refine JL.cnd (sv := .one (.val (S rB v_3))) (Guard.isF (ltB rfl) rfl rfl) rfl (ltB rfl) (fun hq_3 => op_cmpI (ltB rfl) (HasO.cnd (.tmp rfl) (notT (notF hq_3))) .cI (congrArg some hv_v_3)) ?_
    refine JL.pre (Imp.sub (ρ' := [(0, .one (.val (S (rI .i64) i_1))), (5, .one (.val (S rB v_2))), (7, bif (!v_2) then .one (.val (S rB v_3)) else .one .und)]) (.cons rfl (.cons rfl (.cons rfl .nil)))) ?_
    refine JL.at ⟨[(0, .one (.val (S (rI .i64) i_1))), (5, .one (.val (S rB v_2))), (7, bif (!v_2) then .one (.val (S rB v_3)) else .one .und)], [], []⟩ ?_
    replace hx1 := lt1_inv hx1
    obtain ⟨v_4, hv_v_4, hx1⟩ := hx1
    refine JL.cons rfl (op_pickCS (ltB rfl) (.tmp rfl) (fun hb4 => .cB) (fun hb4 => (HasO.cnd (.tmp rfl) (notT hb4))) hv_v_4) ?_
    refine JL.nil ?_
    replace hx1 := Option.some.inj hx1
    first | subst hx1 | clear hx1
    exact JQ.join () (Imp.norm (js := []) rfl (.cons rfl (.cons rfl .nil)))

end Go.Proofs.Ytdncoiehmkcajaa
