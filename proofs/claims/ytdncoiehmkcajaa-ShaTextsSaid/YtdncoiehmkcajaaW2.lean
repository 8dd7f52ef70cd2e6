/- Walks. -/
import Derived.Test.YtdncoiehmkcajaaT
import Derived.Test.YtdncoiehmkcajaaW0
import Derived.Test.YtdncoiehmkcajaaW1
namespace Go.Proofs.Ytdncoiehmkcajaa
open Go Fw
set_option linter.unusedVariables false
set_option maxRecDepth 100000
set_option maxHeartbeats 4000000

theorem sim_sha_root (k : Nat) (x_1 : UInt64) (gb_2 : Nat) (r : UInt32) (hm : sha_root k x_1 = some r) : Sim Try.prog 43 [CLO 50 [PTR gb_2 0]] [cvar gb_2 (rU UInt64) x_1] (γ := Unit) (fun q => [cvar gb_2 (rU UInt64) x_1]) (fun q => .one (.val (S (rU UInt32) r))) := by
  unfold sha_root at hm
  refine Sim.of Try.func43 rfl rfl (Nat.le_of_ble_eq_true rfl) (fun e0 w0 => ?_)
  refine JC.at ⟨[(0, .one (.val (CLO 50 [PTR gb_2 0])))], [cvar gb_2 (rU UInt64) x_1], []⟩ ?_
  refine JC.seq ?_
  refine JC.region ?_
  refine JL.cons rfl (op_assign (ltB rfl) (HasO.cU (x := (0 : UInt32)) rfl (by decide))) ?_
  refine JL.nil ?_
  refine JQ.then ?_
  refine JC.seq ?_
  refine JC.region ?_
  refine JL.cons rfl (op_assign (ltB rfl) (HasO.cU (x := (0 : UInt64)) rfl (by decide))) ?_
  refine JL.nil ?_
  refine JQ.then ?_
  replace hm := bnd_inv hm
  obtain ⟨x_13, hx1, hq1⟩ := hm
  refine JC.seqJ (γ := Unit) (stj := fun q => ⟨[(3, .one (.val (S (rU UInt64) x_13)))], [cvar gb_2 (rU UInt64) x_1], []⟩) (fun q => ?_) ?_
  · obtain _ := q
    refine JC.at ⟨[(3, .one (.val (S (rU UInt64) x_13)))], [cvar gb_2 (rU UInt64) x_1], []⟩ ?_
    refine JC.seq ?_
    refine JC.region ?_
    refine JL.cons rfl (op_move (ltB rfl) (.tmp rfl)) ?_
    replace hq1 := lt1_inv hq1
    obtain ⟨v_14, hv_v_14, hq1⟩ := hq1
    refine JL.cons rfl (op_convUU (ltB rfl) tu65 tu46 (.tmp rfl) hv_v_14) ?_
    refine JL.cons rfl (op_assign (ltB rfl) (.tmp rfl)) ?_
    refine JL.nil ?_
    refine JQ.then ?_
    refine JC.ret ?_
    replace hq1 := Option.some.inj hq1
    subst hq1
    exact JQ.done (js := [0]) (ss := [.val (S (rU UInt32) v_14)]) () (.inl rfl) (.nil rfl) rfl (.cons (.tmp rfl) .nil) rfl rfl rfl
  · refine JC.seq ?_
    refine JC.region ?_
    refine JL.cons rfl (op_move (ltB rfl) .cI) ?_
    refine JL.nil ?_
    refine JQ.then ?_
    refine JC.block ?_
    refine JC.pre ?_ (JC.loop (γ := Unit) (stf := fun s q => ⟨[(0, .one (.val (CLO 50 [PTR gb_2 0]))), (3, .one (.val (S (rU UInt64) s.1))), (6, .one (.val (S (rI .i64) s.2)))], [cvar gb_2 (rU UInt64) x_1], []⟩) (q := ()) hx1 ?_)
    · exact (Imp.norm (js := [0]) rfl (.cons rfl (.cons rfl (.cons rfl .nil))))
    · intro s q x hx hr
      obtain ⟨x_3, x_4⟩ := s
      obtain _ := q
      change sha_root.b1 k x_1 x_3 x_4 = some x at hx
      unfold sha_root.b1 at hx
      refine JC.at ⟨[(0, .one (.val (CLO 50 [PTR gb_2 0]))), (3, .one (.val (S (rU UInt64) x_3))), (6, .one (.val (S (rI .i64) x_4)))], [cvar gb_2 (rU UInt64) x_1], []⟩ ?_
      refine JC.seq ?_
      refine JC.region ?_
      replace hx := lt1_inv hx
      obtain ⟨v_5, hv_v_5, hx⟩ := hx
      refine JL.cons rfl (op_cmpI (ltB rfl) (.tmp rfl) .cI (congrArg some hv_v_5)) ?_
      refine JL.nil ?_
      refine JQ.then ?_
      refine JC.seq ?_
      replace hx := iteB_inv hx
      rcases hx with ⟨hc3, hx⟩ | ⟨hc3, hx⟩
      · refine JC.condT (.tmp rfl) hc3 ?_
        refine JC.skip ?_
        refine JQ.then ?_
        replace hx := bnd_inv hx
        obtain ⟨x_11, hx4, hq4⟩ := hx
        refine JC.seqJ (γ := Unit) (stj := fun q => ⟨[(0, .one (.val (CLO 50 [PTR gb_2 0]))), (3, .one (.val (S (rU UInt64) x_11))), (6, .one (.val (S (rI .i64) x_4)))], [cvar gb_2 (rU UInt64) x_1], []⟩) (fun q => ?_) ?_
        · obtain _ := q
          refine JC.at ⟨[(0, .one (.val (CLO 50 [PTR gb_2 0]))), (3, .one (.val (S (rU UInt64) x_11))), (6, .one (.val (S (rI .i64) x_4)))], [cvar gb_2 (rU UInt64) x_1], []⟩ ?_
          refine JC.region ?_
          replace hq4 := lt1_inv hq4
          obtain ⟨v_12, hv_v_12, hq4⟩ := hq4
          refine JL.cons rfl (op_arI (ltB rfl) (.tmp rfl) .cI (congrArg some hv_v_12)) ?_
          refine JL.cons rfl (op_move (ltB rfl) (.tmp rfl)) ?_
          refine JL.nil ?_
          replace hq4 := Option.some.inj hq4
          first | subst hq4 | clear hq4
          exact JQ.next () rfl (Imp.norm (js := [0]) rfl (.cons rfl (.cons rfl (.cons rfl .nil))))
        · refine JC.block ?_
          refine JC.seq ?_
          refine JC.region ?_
          refine JL.cons rfl (op_move (ltB rfl) (.tmp rfl)) ?_
          refine JL.cons rfl (op_assign (ltB rfl) (.tmp rfl)) ?_
          refine JL.nil ?_
          refine JQ.then ?_
          refine JC.seq ?_
          refine JC.region ?_
          refine JL.cons rfl (op_move (ltB rfl) (.tmp rfl)) ?_
          refine JL.cons rfl (op_move (ltB rfl) (.tmp rfl)) ?_
          replace hx4 := lt1_inv hx4
          obtain ⟨v_6, hv_v_6, hx4⟩ := hx4
          refine JL.cons rfl (op_arI (ltB rfl) .cI (.tmp rfl) (congrArg some hv_v_6)) ?_
          refine JL.pre (Imp.sub (ρ' := [(0, .one (.val (CLO 50 [PTR gb_2 0]))), (3, .one (.val (S (rU UInt64) x_3))), (6, .one (.val (S (rI .i64) x_4))), (9, .one (.val (S (rU UInt64) x_3))), (11, .one (.val (S (rI .i64) v_6)))]) (.cons rfl (.cons rfl (.cons rfl (.cons rfl (.cons rfl .nil)))))) ?_
          refine JL.at ⟨[(0, .one (.val (CLO 50 [PTR gb_2 0]))), (3, .one (.val (S (rU UInt64) x_3))), (6, .one (.val (S (rI .i64) x_4))), (9, .one (.val (S (rU UInt64) x_3))), (11, .one (.val (S (rI .i64) v_6)))], [cvar gb_2 (rU UInt64) x_1], []⟩ ?_
          replace hx4 := bnd_inv hx4
          obtain ⟨v_7, hv_v_7, hx4⟩ := hx4
          refine JL.cons rfl (op_shlUI (ltB rfl) (HasO.cU (x := (1 : UInt64)) rfl (by decide)) (.tmp rfl) hv_v_7) ?_
          replace hx4 := lt1_inv hx4
          obtain ⟨v_8, hv_v_8, hx4⟩ := hx4
          refine JL.cons rfl (op_arU (ltB rfl) (.tmp rfl) (.tmp rfl) (congrArg some hv_v_8)) ?_
          refine JL.cons rfl (op_assign (ltB rfl) (.tmp rfl)) ?_
          refine JL.nil ?_
          refine JQ.then ?_
          refine JC.seq ?_
          refine JC.region ?_
          refine JL.cons rfl (op_move (ltB rfl) (.tmp rfl)) ?_
          refine JL.cons rfl (op_move (ltB rfl) (.tmp rfl)) ?_
          replace hx4 := bnd_inv hx4
          obtain ⟨v_9, hv_v_9, hx4⟩ := hx4
          refine JL.consX rfl (op_call (js := [0]) (ltD rfl) cl50 (sim_sha_constant_1 k v_8 x_1 gb_2 v_9 hv_v_9) (.tmp rfl) (.cons (.tmp rfl) .nil) rfl) (fun _ => ?_)
          refine JL.pre (Imp.sub (ρ' := [(0, .one (.val (CLO 50 [PTR gb_2 0]))), (3, .one (.val (S (rU UInt64) x_3))), (5, .one (.val (S (rU UInt64) v_8))), (6, .one (.val (S (rI .i64) x_4))), (16, .one (.val (S rB v_9)))]) (.cons rfl (.cons rfl (.cons rfl (.cons rfl (.cons rfl .nil)))))) ?_
          refine JL.at ⟨[(0, .one (.val (CLO 50 [PTR gb_2 0]))), (3, .one (.val (S (rU UInt64) x_3))), (5, .one (.val (S (rU UInt64) v_8))), (6, .one (.val (S (rI .i64) x_4))), (16, .one (.val (S rB v_9)))], [cvar gb_2 (rU UInt64) x_1], []⟩ ?_
          replace hx4 := lt1_inv hx4
          obtain ⟨v_10, hv_v_10, hx4⟩ := hx4
          refine JL.cons rfl (op_not (ltB rfl) (.tmp rfl) hv_v_10) ?_
          refine JL.nil ?_
          refine JQ.then ?_
          replace hx4 := iteB_inv hx4
          rcases hx4 with ⟨hc5, hx4⟩ | ⟨hc5, hx4⟩
          · refine JC.condT (.tmp rfl) hc5 ?_
            refine JC.region ?_
            refine JL.cons rfl (op_move (ltB rfl) (.tmp rfl)) ?_
            refine JL.cons rfl (op_assign (ltB rfl) (.tmp rfl)) ?_
            refine JL.nil ?_
            refine JQ.outNB ?_
            replace hx4 := Option.some.inj hx4
            first | subst hx4 | clear hx4
            exact JQ.join () (Imp.norm (js := [0]) rfl (.cons rfl (.cons rfl (.cons rfl .nil))))
          · refine JC.condF (.tmp rfl) hc5 ?_
            refine JC.skip ?_
            refine JQ.outNB ?_
            replace hx4 := Option.some.inj hx4
            first | subst hx4 | clear hx4
            exact JQ.join () (Imp.norm (js := [0]) rfl (.cons rfl (.cons rfl (.cons rfl .nil))))
      · refine JC.condF (.tmp rfl) hc3 ?_
        refine JC.exit ?_
        refine JQ.outX ?_
        replace hx := Option.some.inj hx
        first | subst hx | clear hx
        have ht := hr _ rfl
        have hq2 := congrArg some ht
        clear hr ht
        refine JQ.outX ?_
        refine JQ.here ?_
        replace hq2 := Option.some.inj hq2
        first | subst hq2 | clear hq2
        exact JQ.join () (Imp.norm (js := [0]) rfl (.cons rfl .nil))

theorem sim_sha_constant (k : Nat) (p_1 : UInt64) (r : UInt32) (hm : sha_constant k p_1 = some r) : Sim Try.prog 37 [S (rU UInt64) p_1] [] (γ := Unit) (fun q => []) (fun q => .one (.val (S (rU UInt32) r))) := by
  unfold sha_constant at hm
  refine Sim.of Try.func37 rfl rfl (Nat.le_of_ble_eq_true rfl) (fun e0 w0 => ?_)
  refine JC.at ⟨[(0, .one (.val (S (rU UInt64) p_1)))], [], []⟩ ?_
  refine JC.seq ?_
  refine JC.region ?_
  refine JL.consX rfl (op_boxS (ltB rfl) (.tmp rfl)) (fun q => ?_)
  obtain ⟨gb_2, hqq⟩ : ∃ z, z = q := ⟨_, rfl⟩
  subst hqq
  refine JL.pre (Imp.sub (ρ' := [(1, .one (.val (PTR gb_2 0)))]) (.cons rfl .nil)) ?_
  refine JL.at ⟨[(1, .one (.val (PTR gb_2 0)))], [cvar gb_2 (rU UInt64) p_1], []⟩ ?_
  refine JL.cons rfl (op_assign (ltB rfl) (HasO.cU (x := (0 : UInt32)) rfl (by decide))) ?_
  refine JL.nil ?_
  refine JQ.then ?_
  refine JC.seq ?_
  refine JC.region ?_
  refine JL.cons rfl (op_makeFunc (ltB rfl) (.cons (.tmp rfl) .nil)) ?_
  replace hm := bnd_inv hm
  obtain ⟨v_3, hv_v_3, hm⟩ := hm
  refine JL.consX rfl (op_call (js := [0]) (ltD rfl) cl43 (sim_sha_root k p_1 gb_2 v_3 hv_v_3) .func (.cons (.tmp rfl) .nil) rfl) (fun _ => ?_)
  refine JL.pre (Imp.norm (ρ' := [(2, .one (.val (S (rU UInt32) (0 : UInt32)))), (4, .one (.val (S (rU UInt32) v_3)))]) (js := []) rfl (.cons rfl (.cons rfl .nil))) ?_
  refine JL.at ⟨[(2, .one (.val (S (rU UInt32) (0 : UInt32)))), (4, .one (.val (S (rU UInt32) v_3)))], [], []⟩ ?_
  refine JL.cons rfl (op_assign (ltB rfl) (.tmp rfl)) ?_
  refine JL.nil ?_
  refine JQ.then ?_
  refine JC.ret ?_
  replace hm := Option.some.inj hm
  subst hm
  exact JQ.done (js := []) (ss := [.val (S (rU UInt32) v_3)]) () (.inl rfl) (.nil rfl) rfl (.cons (.tmp rfl) .nil) rfl rfl rfl

theorem sim_sha_start_1 (k : Nat) (x_1 : UInt64) (x_2 : UInt64) (gb_3 : Nat) (r : Bool) (hm : sha_start_1 k x_1 x_2 = some r) : Sim Try.prog 44 [S (rU UInt64) x_1, PTR gb_3 0] [cvar gb_3 (rU UInt64) x_2] (γ := Unit) (fun q => [cvar gb_3 (rU UInt64) x_2]) (fun q => .one (.val (S rB r))) := by
  unfold sha_start_1 at hm
  refine Sim.of Try.func44 rfl rfl (Nat.le_of_ble_eq_true rfl) (fun e0 w0 => ?_)
  refine JC.at ⟨[(0, .one (.val (S (rU UInt64) x_1))), (1, .one (.val (PTR gb_3 0)))], [cvar gb_3 (rU UInt64) x_2], []⟩ ?_
  refine JC.seq ?_
  refine JC.region ?_
  refine JL.cons rfl (op_assign (ltB rfl) .cB) ?_
  refine JL.nil ?_
  refine JQ.then ?_
  refine JC.seq ?_
  replace hm := bnd_inv hm
  obtain ⟨v_4, hv_v_4, hm⟩ := hm
  replace hm := bnd_inv hm
  obtain ⟨v_5, hv_v_5, hm⟩ := hm
  refine JC.anyE (kl := []) (kk := 0) (base := [(0, .one (.val (S (rU UInt64) x_1))), (1, .one (.val (PTR gb_3 0)))])
      (fs := fun γ => [⟨some 4, .one (.val (S (rU UInt64) x_1))⟩, ⟨some 5, .one (.val (A (rV 2 (rU UInt64)) v_4))⟩, ⟨some 6, .one (.val (S (rU UInt64) x_2))⟩, ⟨some 7, .one (.val (S rB v_5))⟩, ⟨some 3, .one (.val (S rB v_5))⟩])
      (rs := fun γ => [⟨cvar gb_3 (rU UInt64) x_2, none, none, [2]⟩])
      (ds := [4, 5, 6, 7, 3]) (bs := [0, 1]) (afts := [[], [], [], [], []]) (js := [0]) mixed (.cons rfl (.cons rfl .nil)) (fun _ => rfl)
      (by
      refine DSteps.cons (j := 1) rfl (fun _ => rfl) (.run (fun γ ρ B hb hd => ⟨.none, OpStep.at ⟨ρ, B, _⟩ (setO ⟨ρ, B, _⟩ (some 4) (.one (.val (S (rU UInt64) x_1)))) (op_move (ltB rfl) (.tmp (hb 0 _ rfl)))⟩)) ?_
      refine DSteps.cons (j := 2) rfl (fun _ => rfl) (.run (fun γ ρ B hb hd => ⟨.none, OpStep.at ⟨ρ, B, _⟩ (setO ⟨ρ, B, _⟩ (some 5) (.one (.val (A (rV 2 (rU UInt64)) v_4)))) ((op_call (js := []) (ltD rfl) cl46 (sim_sha_square k x_1 v_4 hv_v_4) .func (.cons (.tmp (hdl hd 0 4 rfl (by decide +kernel))) .nil) rfl).post (fun _ => Imp.refl))⟩)) ?_
      refine DSteps.cons (j := 3) rfl (fun _ => rfl) (.run (fun γ ρ B hb hd => ⟨.none, OpStep.at ⟨ρ, (cvar gb_3 (rU UInt64) x_2) :: B, _⟩ (setO ⟨ρ, (cvar gb_3 (rU UInt64) x_2) :: B, _⟩ (some 6) (.one (.val (S (rU UInt64) x_2)))) (op_loadS (j := 0) (ltB rfl) tS65 (.tmp (hb 1 _ rfl)) rfl (Comp.self (rU UInt64) x_2) rfl rfl)⟩)) ?_
      refine DSteps.cons (j := 4) rfl (fun _ => rfl) (.run (fun γ ρ B hb hd => ⟨.none, OpStep.at ⟨ρ, B, _⟩ (setO ⟨ρ, B, _⟩ (some 7) (.one (.val (S rB v_5)))) ((op_call (js := []) (ltD rfl) cl45 (sim_sha_above k v_4 false x_2 v_5 hv_v_5) .func (.cons (.tmp (hdl hd 1 5 rfl (by decide +kernel))) (.cons .cB (.cons (.tmp (hdl hd 2 6 rfl (by decide +kernel))) .nil))) rfl).post (fun _ => Imp.refl))⟩)) ?_
      refine DSteps.cons (j := 5) rfl (fun _ => rfl) (.run (fun γ ρ B hb hd => ⟨.none, OpStep.at ⟨ρ, B, _⟩ (setO ⟨ρ, B, _⟩ (some 3) (.one (.val (S rB v_5)))) (op_assign (ltB rfl) (.tmp (hdl hd 3 7 rfl (by decide +kernel))))⟩)) ?_
      exact DSteps.nil)
      (by decide +kernel) (fun _ => rfl) rfl (fun _ => rfl) (fun _ => rfl) rfl (by decide) (by decide) (by decide +kernel) (fun _ d h => by cases h)
      (ρ' := fun γ => [(3, .one (.val (S rB v_5)))])
      (X' := fun γ => [cvar gb_3 (rU UInt64) x_2])
      (fun γ ρ hb hd => (.cons (hdq hd 4 3 rfl) .nil)) (fun _ => rfl) (fun γ => ?_)
  refine JQ.at ⟨[(3, .one (.val (S rB v_5)))], [cvar gb_3 (rU UInt64) x_2], []⟩ ?_
  refine JQ.then ?_
  refine JC.ret ?_
  replace hm := Option.some.inj hm
  subst hm
  exact JQ.done (js := [0]) (ss := [.val (S rB v_5)]) () (.inl rfl) (.nil rfl) rfl (.cons (.tmp rfl) .nil) rfl rfl rfl

theorem sim_sha_root'2 (k : Nat) (x_1 : UInt64) (gb_2 : Nat) (r : UInt32) (hm : sha_root'2 k x_1 = some r) : Sim Try.prog 43 [CLO 44 [PTR gb_2 0]] [cvar gb_2 (rU UInt64) x_1] (γ := Unit) (fun q => [cvar gb_2 (rU UInt64) x_1]) (fun q => .one (.val (S (rU UInt32) r))) := by
  unfold sha_root'2 at hm
  refine Sim.of Try.func43 rfl rfl (Nat.le_of_ble_eq_true rfl) (fun e0 w0 => ?_)
  refine JC.at ⟨[(0, .one (.val (CLO 44 [PTR gb_2 0])))], [cvar gb_2 (rU UInt64) x_1], []⟩ ?_
  refine JC.seq ?_
  refine JC.region ?_
  refine JL.cons rfl (op_assign (ltB rfl) (HasO.cU (x := (0 : UInt32)) rfl (by decide))) ?_
  refine JL.nil ?_
  refine JQ.then ?_
  refine JC.seq ?_
  refine JC.region ?_
  refine JL.cons rfl (op_assign (ltB rfl) (HasO.cU (x := (0 : UInt64)) rfl (by decide))) ?_
  refine JL.nil ?_
  refine JQ.then ?_
  replace hm := bnd_inv hm
  obtain ⟨x_13, hx1, hq1⟩ := hm
  refine JC.seqJ (γ := Unit) (stj := fun q => ⟨[(3, .one (.val (S (rU UInt64) x_13)))], [cvar gb_2 (rU UInt64) x_1], []⟩) (fun q => ?_) ?_
  · obtain _ := q
    refine JC.at ⟨[(3, .one (.val (S (rU UInt64) x_13)))], [cvar gb_2 (rU UInt64) x_1], []⟩ ?_
    refine JC.seq ?_
    refine JC.region ?_
    refine JL.cons rfl (op_move (ltB rfl) (.tmp rfl)) ?_
    replace hq1 := lt1_inv hq1
    obtain ⟨v_14, hv_v_14, hq1⟩ := hq1
    refine JL.cons rfl (op_convUU (ltB rfl) tu65 tu46 (.tmp rfl) hv_v_14) ?_
    refine JL.cons rfl (op_assign (ltB rfl) (.tmp rfl)) ?_
    refine JL.nil ?_
    refine JQ.then ?_
    refine JC.ret ?_
    replace hq1 := Option.some.inj hq1
    subst hq1
    exact JQ.done (js := [0]) (ss := [.val (S (rU UInt32) v_14)]) () (.inl rfl) (.nil rfl) rfl (.cons (.tmp rfl) .nil) rfl rfl rfl
  · refine JC.seq ?_
    refine JC.region ?_
    refine JL.cons rfl (op_move (ltB rfl) .cI) ?_
    refine JL.nil ?_
    refine JQ.then ?_
    refine JC.block ?_
    refine JC.pre ?_ (JC.loop (γ := Unit) (stf := fun s q => ⟨[(0, .one (.val (CLO 44 [PTR gb_2 0]))), (3, .one (.val (S (rU UInt64) s.1))), (6, .one (.val (S (rI .i64) s.2)))], [cvar gb_2 (rU UInt64) x_1], []⟩) (q := ()) hx1 ?_)
    · exact (Imp.norm (js := [0]) rfl (.cons rfl (.cons rfl (.cons rfl .nil))))
    · intro s q x hx hr
      obtain ⟨x_3, x_4⟩ := s
      obtain _ := q
      change sha_root'2.b1 k x_1 x_3 x_4 = some x at hx
      unfold sha_root'2.b1 at hx
      refine JC.at ⟨[(0, .one (.val (CLO 44 [PTR gb_2 0]))), (3, .one (.val (S (rU UInt64) x_3))), (6, .one (.val (S (rI .i64) x_4)))], [cvar gb_2 (rU UInt64) x_1], []⟩ ?_
      refine JC.seq ?_
      refine JC.region ?_
      replace hx := lt1_inv hx
      obtain ⟨v_5, hv_v_5, hx⟩ := hx
      refine JL.cons rfl (op_cmpI (ltB rfl) (.tmp rfl) .cI (congrArg some hv_v_5)) ?_
      refine JL.nil ?_
      refine JQ.then ?_
      refine JC.seq ?_
      replace hx := iteB_inv hx
      rcases hx with ⟨hc3, hx⟩ | ⟨hc3, hx⟩
      · refine JC.condT (.tmp rfl) hc3 ?_
        refine JC.skip ?_
        refine JQ.then ?_
        replace hx := bnd_inv hx
        obtain ⟨x_11, hx4, hq4⟩ := hx
        refine JC.seqJ (γ := Unit) (stj := fun q => ⟨[(0, .one (.val (CLO 44 [PTR gb_2 0]))), (3, .one (.val (S (rU UInt64) x_11))), (6, .one (.val (S (rI .i64) x_4)))], [cvar gb_2 (rU UInt64) x_1], []⟩) (fun q => ?_) ?_
        · obtain _ := q
          refine JC.at ⟨[(0, .one (.val (CLO 44 [PTR gb_2 0]))), (3, .one (.val (S (rU UInt64) x_11))), (6, .one (.val (S (rI .i64) x_4)))], [cvar gb_2 (rU UInt64) x_1], []⟩ ?_
          refine JC.region ?_
          replace hq4 := lt1_inv hq4
          obtain ⟨v_12, hv_v_12, hq4⟩ := hq4
          refine JL.cons rfl (op_arI (ltB rfl) (.tmp rfl) .cI (congrArg some hv_v_12)) ?_
          refine JL.cons rfl (op_move (ltB rfl) (.tmp rfl)) ?_
          refine JL.nil ?_
          replace hq4 := Option.some.inj hq4
          first | subst hq4 | clear hq4
          exact JQ.next () rfl (Imp.norm (js := [0]) rfl (.cons rfl (.cons rfl (.cons rfl .nil))))
        · refine JC.block ?_
          refine JC.seq ?_
          refine JC.region ?_
          refine JL.cons rfl (op_move (ltB rfl) (.tmp rfl)) ?_
          refine JL.cons rfl (op_assign (ltB rfl) (.tmp rfl)) ?_
          refine JL.nil ?_
          refine JQ.then ?_
          refine JC.seq ?_
          refine JC.region ?_
          refine JL.cons rfl (op_move (ltB rfl) (.tmp rfl)) ?_
          refine JL.cons rfl (op_move (ltB rfl) (.tmp rfl)) ?_
          replace hx4 := lt1_inv hx4
          obtain ⟨v_6, hv_v_6, hx4⟩ := hx4
          refine JL.cons rfl (op_arI (ltB rfl) .cI (.tmp rfl) (congrArg some hv_v_6)) ?_
          refine JL.pre (Imp.sub (ρ' := [(0, .one (.val (CLO 44 [PTR gb_2 0]))), (3, .one (.val (S (rU UInt64) x_3))), (6, .one (.val (S (rI .i64) x_4))), (9, .one (.val (S (rU UInt64) x_3))), (11, .one (.val (S (rI .i64) v_6)))]) (.cons rfl (.cons rfl (.cons rfl (.cons rfl (.cons rfl .nil)))))) ?_
          refine JL.at ⟨[(0, .one (.val (CLO 44 [PTR gb_2 0]))), (3, .one (.val (S (rU UInt64) x_3))), (6, .one (.val (S (rI .i64) x_4))), (9, .one (.val (S (rU UInt64) x_3))), (11, .one (.val (S (rI .i64) v_6)))], [cvar gb_2 (rU UInt64) x_1], []⟩ ?_
          replace hx4 := bnd_inv hx4
          obtain ⟨v_7, hv_v_7, hx4⟩ := hx4
          refine JL.cons rfl (op_shlUI (ltB rfl) (HasO.cU (x := (1 : UInt64)) rfl (by decide)) (.tmp rfl) hv_v_7) ?_
          replace hx4 := lt1_inv hx4
          obtain ⟨v_8, hv_v_8, hx4⟩ := hx4
          refine JL.cons rfl (op_arU (ltB rfl) (.tmp rfl) (.tmp rfl) (congrArg some hv_v_8)) ?_
          refine JL.cons rfl (op_assign (ltB rfl) (.tmp rfl)) ?_
          refine JL.nil ?_
          refine JQ.then ?_
          refine JC.seq ?_
          refine JC.region ?_
          refine JL.cons rfl (op_move (ltB rfl) (.tmp rfl)) ?_
          refine JL.cons rfl (op_move (ltB rfl) (.tmp rfl)) ?_
          replace hx4 := bnd_inv hx4
          obtain ⟨v_9, hv_v_9, hx4⟩ := hx4
          refine JL.consX rfl (op_call (js := [0]) (ltD rfl) cl44 (sim_sha_start_1 k v_8 x_1 gb_2 v_9 hv_v_9) (.tmp rfl) (.cons (.tmp rfl) .nil) rfl) (fun _ => ?_)
          refine JL.pre (Imp.sub (ρ' := [(0, .one (.val (CLO 44 [PTR gb_2 0]))), (3, .one (.val (S (rU UInt64) x_3))), (5, .one (.val (S (rU UInt64) v_8))), (6, .one (.val (S (rI .i64) x_4))), (16, .one (.val (S rB v_9)))]) (.cons rfl (.cons rfl (.cons rfl (.cons rfl (.cons rfl .nil)))))) ?_
          refine JL.at ⟨[(0, .one (.val (CLO 44 [PTR gb_2 0]))), (3, .one (.val (S (rU UInt64) x_3))), (5, .one (.val (S (rU UInt64) v_8))), (6, .one (.val (S (rI .i64) x_4))), (16, .one (.val (S rB v_9)))], [cvar gb_2 (rU UInt64) x_1], []⟩ ?_
          replace hx4 := lt1_inv hx4
          obtain ⟨v_10, hv_v_10, hx4⟩ := hx4
          refine JL.cons rfl (op_not (ltB rfl) (.tmp rfl) hv_v_10) ?_
          refine JL.nil ?_
          refine JQ.then ?_
          replace hx4 := iteB_inv hx4
          rcases hx4 with ⟨hc5, hx4⟩ | ⟨hc5, hx4⟩
          · refine JC.condT (.tmp rfl) hc5 ?_
            refine JC.region ?_
            refine JL.cons rfl (op_move (ltB rfl) (.tmp rfl)) ?_
            refine JL.cons rfl (op_assign (ltB rfl) (.tmp rfl)) ?_
            refine JL.nil ?_
            refine JQ.outNB ?_
            replace hx4 := Option.some.inj hx4
            first | subst hx4 | clear hx4
            exact JQ.join () (Imp.norm (js := [0]) rfl (.cons rfl (.cons rfl (.cons rfl .nil))))
          · refine JC.condF (.tmp rfl) hc5 ?_
            refine JC.skip ?_
            refine JQ.outNB ?_
            replace hx4 := Option.some.inj hx4
            first | subst hx4 | clear hx4
            exact JQ.join () (Imp.norm (js := [0]) rfl (.cons rfl (.cons rfl (.cons rfl .nil))))
      · refine JC.condF (.tmp rfl) hc3 ?_
        refine JC.exit ?_
        refine JQ.outX ?_
        replace hx := Option.some.inj hx
        first | subst hx | clear hx
        have ht := hr _ rfl
        have hq2 := congrArg some ht
        clear hr ht
        refine JQ.outX ?_
        refine JQ.here ?_
        replace hq2 := Option.some.inj hq2
        first | subst hq2 | clear hq2
        exact JQ.join () (Imp.norm (js := [0]) rfl (.cons rfl .nil))

theorem sim_sha_start (k : Nat) (p_1 : UInt64) (r : UInt32) (hm : sha_start k p_1 = some r) : Sim Try.prog 33 [S (rU UInt64) p_1] [] (γ := Unit) (fun q => []) (fun q => .one (.val (S (rU UInt32) r))) := by
  unfold sha_start at hm
  refine Sim.of Try.func33 rfl rfl (Nat.le_of_ble_eq_true rfl) (fun e0 w0 => ?_)
  refine JC.at ⟨[(0, .one (.val (S (rU UInt64) p_1)))], [], []⟩ ?_
  refine JC.seq ?_
  refine JC.region ?_
  refine JL.consX rfl (op_boxS (ltB rfl) (.tmp rfl)) (fun q => ?_)
  obtain ⟨gb_2, hqq⟩ : ∃ z, z = q := ⟨_, rfl⟩
  subst hqq
  refine JL.pre (Imp.sub (ρ' := [(1, .one (.val (PTR gb_2 0)))]) (.cons rfl .nil)) ?_
  refine JL.at ⟨[(1, .one (.val (PTR gb_2 0)))], [cvar gb_2 (rU UInt64) p_1], []⟩ ?_
  refine JL.cons rfl (op_assign (ltB rfl) (HasO.cU (x := (0 : UInt32)) rfl (by decide))) ?_
  refine JL.nil ?_
  refine JQ.then ?_
  refine JC.seq ?_
  refine JC.region ?_
  refine JL.cons rfl (op_makeFunc (ltB rfl) (.cons (.tmp rfl) .nil)) ?_
  replace hm := bnd_inv hm
  obtain ⟨v_3, hv_v_3, hm⟩ := hm
  refine JL.consX rfl (op_call (js := [0]) (ltD rfl) cl43 (sim_sha_root'2 k p_1 gb_2 v_3 hv_v_3) .func (.cons (.tmp rfl) .nil) rfl) (fun _ => ?_)
  refine JL.pre (Imp.norm (ρ' := [(2, .one (.val (S (rU UInt32) (0 : UInt32)))), (4, .one (.val (S (rU UInt32) v_3)))]) (js := []) rfl (.cons rfl (.cons rfl .nil))) ?_
  refine JL.at ⟨[(2, .one (.val (S (rU UInt32) (0 : UInt32)))), (4, .one (.val (S (rU UInt32) v_3)))], [], []⟩ ?_
  refine JL.cons rfl (op_assign (ltB rfl) (.tmp rfl)) ?_
  refine JL.nil ?_
  refine JQ.then ?_
  refine JC.ret ?_
  replace hm := Option.some.inj hm
  subst hm
  exact JQ.done (js := []) (ss := [.val (S (rU UInt32) v_3)]) () (.inl rfl) (.nil rfl) rfl (.cons (.tmp rfl) .nil) rfl rfl rfl

theorem sim_sha_begun (k : Nat) (r : sha_state) (hm : sha_begun k = some r) : Sim Try.prog 26 [] [] (γ := Unit) (fun q => []) (fun q => .one (.val (A r_sha_state r))) := by
  unfold sha_begun at hm
  refine Sim.of Try.func26 rfl rfl (Nat.le_of_ble_eq_true rfl) (fun e0 w0 => ?_)
  refine JC.at ⟨[], [], []⟩ ?_
  refine JC.seq ?_
  refine JC.region ?_
  refine JL.consX rfl (op_alloc (ltB rfl) tZ52 zr52) (fun q => ?_)
  obtain ⟨gb_1, hqq⟩ : ∃ z, z = q := ⟨_, rfl⟩
  subst hqq
  refine JL.pre (Imp.sub (ρ' := [(0, .one (.val (PTR gb_1 0)))]) (.cons rfl .nil)) ?_
  refine JL.at ⟨[(0, .one (.val (PTR gb_1 0)))], [cvar gb_1 r_sha_state (sha_state.mk (Vector.replicate 8 (0 : UInt32)) (Vector.replicate 64 (0 : UInt32)))], []⟩ ?_
  refine JL.nil ?_
  refine JQ.then ?_
  refine JC.seq ?_
  refine JC.region ?_
  refine JL.consX rfl (op_alloc (ltB rfl) tZ52 zr52) (fun q => ?_)
  obtain ⟨gb_2, hqq⟩ : ∃ z, z = q := ⟨_, rfl⟩
  subst hqq
  refine JL.pre (Imp.sub (ρ' := [(0, .one (.val (PTR gb_1 0))), (1, .one (.val (PTR gb_2 0)))]) (.cons rfl (.cons rfl .nil))) ?_
  refine JL.at ⟨[(0, .one (.val (PTR gb_1 0))), (1, .one (.val (PTR gb_2 0)))], [cvar gb_1 r_sha_state (sha_state.mk (Vector.replicate 8 (0 : UInt32)) (Vector.replicate 64 (0 : UInt32))), cvar gb_2 r_sha_state (sha_state.mk (Vector.replicate 8 (0 : UInt32)) (Vector.replicate 64 (0 : UInt32)))], []⟩ ?_
  refine JL.nil ?_
  refine JQ.then ?_
  replace hm := bnd_inv hm
  obtain ⟨s_20, hx1, hq1⟩ := hm
  refine JC.seqJ (γ := Unit) (stj := fun q => ⟨[(0, .one (.val (PTR gb_1 0))), (1, .one (.val (PTR gb_2 0)))], [cvar gb_1 r_sha_state (sha_state.mk (Vector.replicate 8 (0 : UInt32)) (Vector.replicate 64 (0 : UInt32))), cvar gb_2 r_sha_state s_20], []⟩) (fun q => ?_) ?_
  · obtain _ := q
    refine JC.at ⟨[(0, .one (.val (PTR gb_1 0))), (1, .one (.val (PTR gb_2 0)))], [cvar gb_1 r_sha_state (sha_state.mk (Vector.replicate 8 (0 : UInt32)) (Vector.replicate 64 (0 : UInt32))), cvar gb_2 r_sha_state s_20], []⟩ ?_
    refine JC.seq ?_
    refine JC.region ?_
    refine JL.cons rfl (op_loadA (j := 1) (ltB rfl) tA52 (.tmp rfl) rfl (Comp.self r_sha_state s_20) rfl) ?_
    refine JL.cons rfl (op_storeA (j := 0) tA52 (.tmp rfl) (.tmp rfl) rfl (UpdR.self (by rfl)) rfl) ?_
    refine JL.pre (Imp.norm (ρ' := [(0, .one (.val (PTR gb_1 0)))]) (js := [0]) rfl (.cons rfl .nil)) ?_
    refine JL.at ⟨[(0, .one (.val (PTR gb_1 0)))], [cvar gb_1 r_sha_state s_20], []⟩ ?_
    refine JL.nil ?_
    refine JQ.then ?_
    refine JC.ret ?_
    replace hq1 := Option.some.inj hq1
    subst hq1
    exact JQ.done (js := []) (ss := [.val (A r_sha_state s_20)]) () (.inl rfl) (.nil rfl) rfl (.cons (.cellA (j := 0) tA52 rfl rfl) .nil) rfl rfl rfl
  · refine JC.seq ?_
    refine JC.region ?_
    replace hx1 := bnd_inv hx1
    obtain ⟨v_3, hv_v_3, hx1⟩ := hx1
    refine JL.consX rfl (op_call (js := []) (ltD rfl) cl34 (sim_sha_primes k v_3 hv_v_3) .func .nil rfl) (fun q => ?_)
    obtain ⟨go_4, gc_5⟩ := q
    refine JL.pre (Imp.sub (ρ' := [(0, .one (.val (PTR gb_1 0))), (1, .one (.val (PTR gb_2 0))), (4, .one (.val (HDR go_4 0 (List.length v_3) gc_5)))]) (.cons rfl (.cons rfl (.cons rfl .nil)))) ?_
    refine JL.at ⟨[(0, .one (.val (PTR gb_1 0))), (1, .one (.val (PTR gb_2 0))), (4, .one (.val (HDR go_4 0 (List.length v_3) gc_5)))], [cown go_4 (rU UInt64) v_3 (List.length v_3) gc_5, cvar gb_1 r_sha_state (sha_state.mk (Vector.replicate 8 (0 : UInt32)) (Vector.replicate 64 (0 : UInt32))), cvar gb_2 r_sha_state (sha_state.mk (Vector.replicate 8 (0 : UInt32)) (Vector.replicate 64 (0 : UInt32)))], []⟩ ?_
    refine JL.cons rfl (op_lenH (ltB rfl) tu66 (.tmp rfl)) ?_
    refine JL.cons rfl (op_move (ltB rfl) .cI) ?_
    refine JL.nil ?_
    refine JQ.then ?_
    refine JC.block ?_
    refine JC.pre ?_ (JC.loop (γ := Unit) (stf := fun s q => ⟨[(0, .one (.val (PTR gb_1 0))), (1, .one (.val (PTR gb_2 0))), (4, .one (.val (HDR go_4 0 (List.length v_3) gc_5))), (5, .one (.val (S (rI .i64) (List.length v_3 : Int)))), (6, .one (.val (S (rI .i64) s.2)))], [cvar gb_1 r_sha_state (sha_state.mk (Vector.replicate 8 (0 : UInt32)) (Vector.replicate 64 (0 : UInt32))), cvar gb_2 r_sha_state s.1, cown go_4 (rU UInt64) v_3 (List.length v_3) gc_5], []⟩) (q := ()) hx1 ?_)
    · exact (Imp.norm (js := [1, 1, 0]) rfl (.cons rfl (.cons rfl (.cons rfl (.cons rfl (.cons rfl .nil))))))
    · intro s q x hx hr
      obtain ⟨s_6, x_7⟩ := s
      obtain _ := q
      change sha_begun.b1 k v_3 s_6 x_7 = some x at hx
      unfold sha_begun.b1 at hx
      refine JC.at ⟨[(0, .one (.val (PTR gb_1 0))), (1, .one (.val (PTR gb_2 0))), (4, .one (.val (HDR go_4 0 (List.length v_3) gc_5))), (5, .one (.val (S (rI .i64) (List.length v_3 : Int)))), (6, .one (.val (S (rI .i64) x_7)))], [cvar gb_1 r_sha_state (sha_state.mk (Vector.replicate 8 (0 : UInt32)) (Vector.replicate 64 (0 : UInt32))), cvar gb_2 r_sha_state s_6, cown go_4 (rU UInt64) v_3 (List.length v_3) gc_5], []⟩ ?_
      refine JC.seq ?_
      refine JC.region ?_
      replace hx := lt1_inv hx
      obtain ⟨v_8, hv_v_8, hx⟩ := hx
      refine JL.cons rfl (op_cmpI (ltB rfl) (.tmp rfl) (.tmp rfl) (congrArg some hv_v_8)) ?_
      refine JL.nil ?_
      refine JQ.then ?_
      refine JC.seq ?_
      replace hx := iteB_inv hx
      rcases hx with ⟨hc3, hx⟩ | ⟨hc3, hx⟩
      · refine JC.condT (.tmp rfl) hc3 ?_
        refine JC.skip ?_
        refine JQ.then ?_
        replace hx := bnd_inv hx
        obtain ⟨s_18, hx4, hq4⟩ := hx
        refine JC.seqJ (γ := Unit) (stj := fun q => ⟨[(0, .one (.val (PTR gb_1 0))), (1, .one (.val (PTR gb_2 0))), (4, .one (.val (HDR go_4 0 (List.length v_3) gc_5))), (5, .one (.val (S (rI .i64) (List.length v_3 : Int)))), (6, .one (.val (S (rI .i64) x_7)))], [cvar gb_1 r_sha_state (sha_state.mk (Vector.replicate 8 (0 : UInt32)) (Vector.replicate 64 (0 : UInt32))), cvar gb_2 r_sha_state s_18, cown go_4 (rU UInt64) v_3 (List.length v_3) gc_5], []⟩) (fun q => ?_) ?_
        · obtain _ := q
          refine JC.at ⟨[(0, .one (.val (PTR gb_1 0))), (1, .one (.val (PTR gb_2 0))), (4, .one (.val (HDR go_4 0 (List.length v_3) gc_5))), (5, .one (.val (S (rI .i64) (List.length v_3 : Int)))), (6, .one (.val (S (rI .i64) x_7)))], [cvar gb_1 r_sha_state (sha_state.mk (Vector.replicate 8 (0 : UInt32)) (Vector.replicate 64 (0 : UInt32))), cvar gb_2 r_sha_state s_18, cown go_4 (rU UInt64) v_3 (List.length v_3) gc_5], []⟩ ?_
          refine JC.region ?_
          replace hq4 := lt1_inv hq4
          obtain ⟨v_19, hv_v_19, hq4⟩ := hq4
          refine JL.cons rfl (op_arI (ltB rfl) (.tmp rfl) .cI (congrArg some hv_v_19)) ?_
          refine JL.cons rfl (op_move (ltB rfl) (.tmp rfl)) ?_
          refine JL.nil ?_
          replace hq4 := Option.some.inj hq4
          first | subst hq4 | clear hq4
          exact JQ.next () rfl (Imp.norm (js := [0, 0, 0]) rfl (.cons rfl (.cons rfl (.cons rfl (.cons rfl (.cons rfl .nil))))))
        · refine JC.block ?_
          refine JC.seq ?_
          refine JC.region ?_
          refine JL.cons rfl (op_move (ltB rfl) (.tmp rfl)) ?_
          replace hx4 := bnd_inv hx4
          obtain ⟨i_9, hv_i_9, hx4⟩ := hx4
          refine JL.cons rfl (op_indexAddrOF (r := (rU UInt64)) (j := 2) (ltB rfl) tu66 tz65 rfl (.tmp rfl) (.tmp rfl) hv_i_9) ?_
          replace hx4 := bnd_inv hx4
          obtain ⟨v_10, hv_v_10, hx4⟩ := hx4
          refine JL.cons rfl (op_loadOS (r := (rU UInt64)) (i := i_9) (off := 0) (j := 2) (ltB rfl) tS65 rfl rfl (.tmp rfl) hv_v_10 (Comp.self (rU UInt64) v_10) (by decide)) ?_
          refine JL.cons rfl (op_assign (ltB rfl) (.tmp rfl)) ?_
          refine JL.cons rfl (op_assign (ltB rfl) (.tmp rfl)) ?_
          refine JL.pre (Imp.sub (ρ' := [(0, .one (.val (PTR gb_1 0))), (1, .one (.val (PTR gb_2 0))), (2, .one (.val (S (rI .i64) x_7))), (3, .one (.val (S (rU UInt64) v_10))), (4, .one (.val (HDR go_4 0 (List.length v_3) gc_5))), (5, .one (.val (S (rI .i64) (List.length v_3 : Int)))), (6, .one (.val (S (rI .i64) x_7)))]) (.cons rfl (.cons rfl (.cons rfl (.cons rfl (.cons rfl (.cons rfl (.cons rfl .nil)))))))) ?_
          refine JL.at ⟨[(0, .one (.val (PTR gb_1 0))), (1, .one (.val (PTR gb_2 0))), (2, .one (.val (S (rI .i64) x_7))), (3, .one (.val (S (rU UInt64) v_10))), (4, .one (.val (HDR go_4 0 (List.length v_3) gc_5))), (5, .one (.val (S (rI .i64) (List.length v_3 : Int)))), (6, .one (.val (S (rI .i64) x_7)))], [cvar gb_1 r_sha_state (sha_state.mk (Vector.replicate 8 (0 : UInt32)) (Vector.replicate 64 (0 : UInt32))), cvar gb_2 r_sha_state s_6, cown go_4 (rU UInt64) v_3 (List.length v_3) gc_5], []⟩ ?_
          refine JL.nil ?_
          refine JQ.then ?_
          refine JC.seq ?_
          refine JC.region ?_
          refine JL.cons rfl (op_move (ltB rfl) (.tmp rfl)) ?_
          refine JL.cons rfl (op_move (ltB rfl) (.tmp rfl)) ?_
          replace hx4 := bnd_inv hx4
          obtain ⟨v_11, hv_v_11, hx4⟩ := hx4
          refine JL.consX rfl (op_call (js := []) (ltD rfl) cl37 (sim_sha_constant k v_10 v_11 hv_v_11) .func (.cons (.tmp rfl) .nil) rfl) (fun _ => ?_)
          refine JL.cons rfl (op_fieldAddr (off := 8) (ltB rfl) tf52_1 (.tmp rfl)) ?_
          replace hx4 := bnd_inv hx4
          obtain ⟨i_12, hv_i_12, hx4⟩ := hx4
          refine JL.cons rfl (op_indexAddrIF (ltB rfl) tr50 (.tmp rfl) (.tmp rfl) hv_i_12) ?_
          replace hx4 := lt1_inv hx4
          obtain ⟨s_13, hv_s_13, hx4⟩ := hx4
          refine JL.cons rfl (op_storeS (j := 1) tS46 (.tmp rfl) (.tmp rfl) rfl rfl (Upd.at (Comp.trans (Comp.self r_sha_state s_6) (comp_sha_state_k s_6) (Nat.le_of_ble_eq_true rfl)) i_12.2 rfl (Upd.trans (Comp.self r_sha_state s_6) (Upd.self r_sha_state s_6 _) (upd_sha_state_k s_6 (putV s_6.k i_12 v_11)))).R hv_s_13) ?_
          refine JL.pre (Imp.sub (ρ' := [(0, .one (.val (PTR gb_1 0))), (1, .one (.val (PTR gb_2 0))), (2, .one (.val (S (rI .i64) x_7))), (3, .one (.val (S (rU UInt64) v_10))), (4, .one (.val (HDR go_4 0 (List.length v_3) gc_5))), (5, .one (.val (S (rI .i64) (List.length v_3 : Int)))), (6, .one (.val (S (rI .i64) x_7)))]) (.cons rfl (.cons rfl (.cons rfl (.cons rfl (.cons rfl (.cons rfl (.cons rfl .nil)))))))) ?_
          refine JL.at ⟨[(0, .one (.val (PTR gb_1 0))), (1, .one (.val (PTR gb_2 0))), (2, .one (.val (S (rI .i64) x_7))), (3, .one (.val (S (rU UInt64) v_10))), (4, .one (.val (HDR go_4 0 (List.length v_3) gc_5))), (5, .one (.val (S (rI .i64) (List.length v_3 : Int)))), (6, .one (.val (S (rI .i64) x_7)))], [cvar gb_1 r_sha_state (sha_state.mk (Vector.replicate 8 (0 : UInt32)) (Vector.replicate 64 (0 : UInt32))), cvar gb_2 r_sha_state s_13, cown go_4 (rU UInt64) v_3 (List.length v_3) gc_5], []⟩ ?_
          refine JL.nil ?_
          refine JQ.then ?_
          refine JC.seq ?_
          refine JC.region ?_
          refine JL.cons rfl (op_move (ltB rfl) (.tmp rfl)) ?_
          replace hx4 := lt1_inv hx4
          obtain ⟨v_14, hv_v_14, hx4⟩ := hx4
          refine JL.cons rfl (op_cmpI (ltB rfl) (.tmp rfl) .cI (congrArg some hv_v_14)) ?_
          refine JL.nil ?_
          refine JQ.then ?_
          replace hx4 := iteB_inv hx4
          rcases hx4 with ⟨hc5, hx4⟩ | ⟨hc5, hx4⟩
          · refine JC.condT (.tmp rfl) hc5 ?_
            refine JC.region ?_
            refine JL.cons rfl (op_move (ltB rfl) (.tmp rfl)) ?_
            refine JL.cons rfl (op_move (ltB rfl) (.tmp rfl)) ?_
            replace hx4 := bnd_inv hx4
            obtain ⟨v_15, hv_v_15, hx4⟩ := hx4
            refine JL.consX rfl (op_call (js := []) (ltD rfl) cl33 (sim_sha_start k v_10 v_15 hv_v_15) .func (.cons (.tmp rfl) .nil) rfl) (fun _ => ?_)
            refine JL.cons rfl (op_fieldAddr (off := 0) (ltB rfl) tf52_0 (.tmp rfl)) ?_
            refine JL.pre (Imp.sub (ρ' := [(0, .one (.val (PTR gb_1 0))), (1, .one (.val (PTR gb_2 0))), (4, .one (.val (HDR go_4 0 (List.length v_3) gc_5))), (5, .one (.val (S (rI .i64) (List.length v_3 : Int)))), (6, .one (.val (S (rI .i64) x_7))), (18, .one (.val (S (rI .i64) x_7))), (20, .one (.val (S (rU UInt32) v_15))), (21, .one (.val (PTR gb_2 (0 + 0))))]) (.cons rfl (.cons rfl (.cons rfl (.cons rfl (.cons rfl (.cons rfl (.cons rfl (.cons rfl .nil))))))))) ?_
            refine JL.at ⟨[(0, .one (.val (PTR gb_1 0))), (1, .one (.val (PTR gb_2 0))), (4, .one (.val (HDR go_4 0 (List.length v_3) gc_5))), (5, .one (.val (S (rI .i64) (List.length v_3 : Int)))), (6, .one (.val (S (rI .i64) x_7))), (18, .one (.val (S (rI .i64) x_7))), (20, .one (.val (S (rU UInt32) v_15))), (21, .one (.val (PTR gb_2 (0 + 0))))], [cvar gb_1 r_sha_state (sha_state.mk (Vector.replicate 8 (0 : UInt32)) (Vector.replicate 64 (0 : UInt32))), cvar gb_2 r_sha_state s_13, cown go_4 (rU UInt64) v_3 (List.length v_3) gc_5], []⟩ ?_
            replace hx4 := bnd_inv hx4
            obtain ⟨i_16, hv_i_16, hx4⟩ := hx4
            refine JL.cons rfl (op_indexAddrIF (ltB rfl) tr49 (.tmp rfl) (.tmp rfl) hv_i_16) ?_
            replace hx4 := lt1_inv hx4
            obtain ⟨s_17, hv_s_17, hx4⟩ := hx4
            refine JL.cons rfl (op_storeS (j := 1) tS46 (.tmp rfl) (.tmp rfl) rfl rfl (Upd.at (Comp.trans (Comp.self r_sha_state s_13) (comp_sha_state_h s_13) (Nat.le_of_ble_eq_true rfl)) i_16.2 rfl (Upd.trans (Comp.self r_sha_state s_13) (Upd.self r_sha_state s_13 _) (upd_sha_state_h s_13 (putV s_13.h i_16 v_15)))).R hv_s_17) ?_
            refine JL.pre (Imp.sub (ρ' := [(0, .one (.val (PTR gb_1 0))), (1, .one (.val (PTR gb_2 0))), (4, .one (.val (HDR go_4 0 (List.length v_3) gc_5))), (5, .one (.val (S (rI .i64) (List.length v_3 : Int)))), (6, .one (.val (S (rI .i64) x_7)))]) (.cons rfl (.cons rfl (.cons rfl (.cons rfl (.cons rfl .nil)))))) ?_
            refine JL.at ⟨[(0, .one (.val (PTR gb_1 0))), (1, .one (.val (PTR gb_2 0))), (4, .one (.val (HDR go_4 0 (List.length v_3) gc_5))), (5, .one (.val (S (rI .i64) (List.length v_3 : Int)))), (6, .one (.val (S (rI .i64) x_7)))], [cvar gb_1 r_sha_state (sha_state.mk (Vector.replicate 8 (0 : UInt32)) (Vector.replicate 64 (0 : UInt32))), cvar gb_2 r_sha_state s_17, cown go_4 (rU UInt64) v_3 (List.length v_3) gc_5], []⟩ ?_
            refine JL.nil ?_
            refine JQ.outNB ?_
            replace hx4 := Option.some.inj hx4
            first | subst hx4 | clear hx4
            exact JQ.join () (Imp.norm (js := [0, 0, 0]) rfl (.cons rfl (.cons rfl (.cons rfl (.cons rfl (.cons rfl .nil))))))
          · refine JC.condF (.tmp rfl) hc5 ?_
            refine JC.skip ?_
            refine JQ.outNB ?_
            replace hx4 := Option.some.inj hx4
            first | subst hx4 | clear hx4
            exact JQ.join () (Imp.norm (js := [0, 0, 0]) rfl (.cons rfl (.cons rfl (.cons rfl (.cons rfl (.cons rfl .nil))))))
      · refine JC.condF (.tmp rfl) hc3 ?_
        refine JC.exit ?_
        refine JQ.outX ?_
        replace hx := Option.some.inj hx
        first | subst hx | clear hx
        have ht := hr _ rfl
        have hq2 := congrArg some ht
        clear hr ht
        refine JQ.outX ?_
        refine JQ.here ?_
        replace hq2 := Option.some.inj hq2
        first | subst hq2 | clear hq2
        exact JQ.join () (Imp.norm (js := [0, 0]) rfl (.cons rfl (.cons rfl .nil)))

end Go.Proofs.Ytdncoiehmkcajaa
