/- Walks. -/
import Derived.Test.YtdncoiehmkcajaaT
import Derived.Test.YtdncoiehmkcajaaW0
import Derived.Test.YtdncoiehmkcajaaW10
import Derived.Test.YtdncoiehmkcajaaW11
import Derived.Test.YtdncoiehmkcajaaW5
import Derived.Test.YtdncoiehmkcajaaW7
import Derived.Test.YtdncoiehmkcajaaW9
namespace Go.Proofs.Ytdncoiehmkcajaa
open Go Fw
set_option linter.unusedVariables false
set_option maxRecDepth 100000
set_option maxHeartbeats 4000000

theorem sim_ref03_Sum (k : Nat) (b_1 : (List UInt8)) (r : (Vector UInt8 32)) (hm : ref03_Sum k b_1 = some r) : Sim Try.prog 12 [S (rL (rU UInt8)) b_1] [] (γ := Unit) (fun q => []) (fun q => .one (.val (A (rV 32 (rU UInt8)) r))) := by
  unfold ref03_Sum at hm
  refine Sim.of Try.func12 rfl rfl (Nat.le_of_ble_eq_true rfl) (fun e0 w0 => ?_)
  refine JC.at ⟨[(0, .one (.val (S (rL (rU UInt8)) b_1)))], [], []⟩ ?_
  refine JC.seq ?_
  refine JC.region ?_
  refine JL.consX rfl (op_alloc (ltB rfl) tZ28 zr28) (fun q => ?_)
  obtain ⟨gb_2, hqq⟩ : ∃ z, z = q := ⟨_, rfl⟩
  subst hqq
  refine JL.pre (Imp.sub (ρ' := [(0, .one (.val (S (rL (rU UInt8)) b_1))), (2, .one (.val (PTR gb_2 0)))]) (.cons rfl (.cons rfl .nil))) ?_
  refine JL.at ⟨[(0, .one (.val (S (rL (rU UInt8)) b_1))), (2, .one (.val (PTR gb_2 0)))], [cvar gb_2 (rV 32 (rU UInt8)) (Vector.replicate 32 (0 : UInt8))], []⟩ ?_
  refine JL.nil ?_
  refine JQ.then ?_
  refine JC.seq ?_
  refine JC.region ?_
  replace hm := bnd_inv hm
  obtain ⟨⟨v_3, v_4⟩, hv_v_3, hm⟩ := hm
  refine JL.consX rfl (op_call (js := []) (ltD rfl) cl28 (sim_ref03_begun k (v_3, v_4) hv_v_3) .func .nil rfl) (fun q => ?_)
  obtain ⟨go_5, gc_6⟩ := q
  refine JL.pre (Imp.sub (ρ' := [(0, .one (.val (S (rL (rU UInt8)) b_1))), (2, .one (.val (PTR gb_2 0))), (10, .tup [.val (A (rV 8 (rU UInt32)) v_3), .val (HDR go_5 0 (List.length v_4) gc_6)])]) (.cons rfl (.cons rfl (.cons rfl .nil)))) ?_
  refine JL.at ⟨[(0, .one (.val (S (rL (rU UInt8)) b_1))), (2, .one (.val (PTR gb_2 0))), (10, .tup [.val (A (rV 8 (rU UInt32)) v_3), .val (HDR go_5 0 (List.length v_4) gc_6)])], [cown go_5 (rU UInt32) v_4 0 gc_6, cvar gb_2 (rV 32 (rU UInt8)) (Vector.replicate 32 (0 : UInt8))], []⟩ ?_
  refine JL.cons rfl (op_move (ltB rfl) (.tmp rfl)) ?_
  refine JL.cons rfl (op_extract (i := 0) (ltB rfl) (.tmp rfl) rfl) ?_
  refine JL.cons rfl (op_extract (i := 1) (ltB rfl) (.tmp rfl) rfl) ?_
  refine JL.consX rfl (op_alloc (ltB rfl) tZ49 zr49) (fun q => ?_)
  obtain ⟨gb_7, hqq⟩ : ∃ z, z = q := ⟨_, rfl⟩
  subst hqq
  refine JL.pre (Imp.sub (ρ' := [(0, .one (.val (S (rL (rU UInt8)) b_1))), (2, .one (.val (PTR gb_2 0))), (3, .one (.val (PTR gb_7 0))), (11, .one (.val (A (rV 8 (rU UInt32)) v_3))), (12, .one (.val (HDR go_5 0 (List.length v_4) gc_6)))]) (.cons rfl (.cons rfl (.cons rfl (.cons rfl (.cons rfl .nil)))))) ?_
  refine JL.at ⟨[(0, .one (.val (S (rL (rU UInt8)) b_1))), (2, .one (.val (PTR gb_2 0))), (3, .one (.val (PTR gb_7 0))), (11, .one (.val (A (rV 8 (rU UInt32)) v_3))), (12, .one (.val (HDR go_5 0 (List.length v_4) gc_6)))], [cown go_5 (rU UInt32) v_4 0 gc_6, cvar gb_2 (rV 32 (rU UInt8)) (Vector.replicate 32 (0 : UInt8)), cvar gb_7 (rV 8 (rU UInt32)) (Vector.replicate 8 (0 : UInt32))], []⟩ ?_
  refine JL.cons rfl (op_storeA (j := 2) tA49 (.tmp rfl) (.tmp rfl) rfl (UpdR.self (by rfl)) rfl) ?_
  refine JL.pre (Imp.sub (ρ' := [(0, .one (.val (S (rL (rU UInt8)) b_1))), (2, .one (.val (PTR gb_2 0))), (3, .one (.val (PTR gb_7 0))), (12, .one (.val (HDR go_5 0 (List.length v_4) gc_6)))]) (.cons rfl (.cons rfl (.cons rfl (.cons rfl .nil))))) ?_
  refine JL.at ⟨[(0, .one (.val (S (rL (rU UInt8)) b_1))), (2, .one (.val (PTR gb_2 0))), (3, .one (.val (PTR gb_7 0))), (12, .one (.val (HDR go_5 0 (List.length v_4) gc_6)))], [cown go_5 (rU UInt32) v_4 0 gc_6, cvar gb_2 (rV 32 (rU UInt8)) (Vector.replicate 32 (0 : UInt8)), cvar gb_7 (rV 8 (rU UInt32)) v_3], []⟩ ?_
  refine JL.cons rfl (op_assign (ltB rfl) (.tmp rfl)) ?_
  refine JL.nil ?_
  refine JQ.then ?_
  refine JC.seq ?_
  refine JC.region ?_
  refine JL.cons rfl (op_move (ltB rfl) (.tmp rfl)) ?_
  replace hm := bnd_inv hm
  obtain ⟨v_8, hv_v_8, hm⟩ := hm
  refine JL.consX rfl (op_call (js := []) (ltD rfl) cl29 (sim_ref03_pad k b_1 v_8 hv_v_8) .func (.cons (.tmp rfl) .nil) rfl) (fun q => ?_)
  obtain ⟨go_9, gc_10⟩ := q
  refine JL.pre (Imp.sub (ρ' := [(2, .one (.val (PTR gb_2 0))), (3, .one (.val (PTR gb_7 0))), (4, .one (.val (HDR go_5 0 (List.length v_4) gc_6))), (14, .one (.val (HDR go_9 0 (List.length v_8) gc_10)))]) (.cons rfl (.cons rfl (.cons rfl (.cons rfl .nil))))) ?_
  refine JL.at ⟨[(2, .one (.val (PTR gb_2 0))), (3, .one (.val (PTR gb_7 0))), (4, .one (.val (HDR go_5 0 (List.length v_4) gc_6))), (14, .one (.val (HDR go_9 0 (List.length v_8) gc_10)))], [cown go_9 (rU UInt8) v_8 0 gc_10, cown go_5 (rU UInt32) v_4 0 gc_6, cvar gb_2 (rV 32 (rU UInt8)) (Vector.replicate 32 (0 : UInt8)), cvar gb_7 (rV 8 (rU UInt32)) v_3], []⟩ ?_
  refine JL.cons rfl (op_assign (ltB rfl) (.tmp rfl)) ?_
  refine JL.nil ?_
  refine JQ.then ?_
  replace hm := bnd_inv hm
  obtain ⟨h_18, hx1, hq1⟩ := hm
  refine JC.seqJ (γ := Unit) (stj := fun q => ⟨[(2, .one (.val (PTR gb_2 0))), (3, .one (.val (PTR gb_7 0)))], [cvar gb_2 (rV 32 (rU UInt8)) (Vector.replicate 32 (0 : UInt8)), cvar gb_7 (rV 8 (rU UInt32)) h_18], []⟩) (fun q => ?_) ?_
  · obtain _ := q
    refine JC.at ⟨[(2, .one (.val (PTR gb_2 0))), (3, .one (.val (PTR gb_7 0)))], [cvar gb_2 (rV 32 (rU UInt8)) (Vector.replicate 32 (0 : UInt8)), cvar gb_7 (rV 8 (rU UInt32)) h_18], []⟩ ?_
    refine JC.seq ?_
    refine JC.region ?_
    refine JL.consX rfl (op_alloc (ltB rfl) tZ28 zr28) (fun q => ?_)
    obtain ⟨gb_19, hqq⟩ : ∃ z, z = q := ⟨_, rfl⟩
    subst hqq
    refine JL.pre (Imp.sub (ρ' := [(2, .one (.val (PTR gb_2 0))), (3, .one (.val (PTR gb_7 0))), (7, .one (.val (PTR gb_19 0)))]) (.cons rfl (.cons rfl (.cons rfl .nil)))) ?_
    refine JL.at ⟨[(2, .one (.val (PTR gb_2 0))), (3, .one (.val (PTR gb_7 0))), (7, .one (.val (PTR gb_19 0)))], [cvar gb_2 (rV 32 (rU UInt8)) (Vector.replicate 32 (0 : UInt8)), cvar gb_7 (rV 8 (rU UInt32)) h_18, cvar gb_19 (rV 32 (rU UInt8)) (Vector.replicate 32 (0 : UInt8))], []⟩ ?_
    refine JL.nil ?_
    refine JQ.then ?_
    replace hq1 := bnd_inv hq1
    obtain ⟨d_35, hx4, hq4⟩ := hq1
    refine JC.seqJ (γ := Unit) (stj := fun q => ⟨[(2, .one (.val (PTR gb_2 0))), (7, .one (.val (PTR gb_19 0)))], [cvar gb_2 (rV 32 (rU UInt8)) (Vector.replicate 32 (0 : UInt8)), cvar gb_19 (rV 32 (rU UInt8)) d_35], []⟩) (fun q => ?_) ?_
    · obtain _ := q
      refine JC.at ⟨[(2, .one (.val (PTR gb_2 0))), (7, .one (.val (PTR gb_19 0)))], [cvar gb_2 (rV 32 (rU UInt8)) (Vector.replicate 32 (0 : UInt8)), cvar gb_19 (rV 32 (rU UInt8)) d_35], []⟩ ?_
      refine JC.seq ?_
      refine JC.region ?_
      refine JL.cons rfl (op_loadA (j := 1) (ltB rfl) tA28 (.tmp rfl) rfl (Comp.self (rV 32 (rU UInt8)) d_35) rfl) ?_
      refine JL.cons rfl (op_storeA (j := 0) tA28 (.tmp rfl) (.tmp rfl) rfl (UpdR.self (by rfl)) rfl) ?_
      refine JL.pre (Imp.norm (ρ' := [(2, .one (.val (PTR gb_2 0)))]) (js := [0]) rfl (.cons rfl .nil)) ?_
      refine JL.at ⟨[(2, .one (.val (PTR gb_2 0)))], [cvar gb_2 (rV 32 (rU UInt8)) d_35], []⟩ ?_
      refine JL.nil ?_
      refine JQ.then ?_
      refine JC.ret ?_
      replace hq4 := Option.some.inj hq4
      subst hq4
      exact JQ.done (js := []) (ss := [.val (A (rV 32 (rU UInt8)) d_35)]) () (.inl rfl) (.nil rfl) rfl (.cons (.cellA (j := 0) tA28 rfl rfl) .nil) rfl rfl rfl
    · refine JC.seq ?_
      refine JC.region ?_
      refine JL.cons rfl (op_assign (ltB rfl) .cI) ?_
      refine JL.nil ?_
      refine JQ.then ?_
      refine JC.block ?_
      refine JC.pre ?_ (JC.loop (γ := Unit) (stf := fun s q => ⟨[(2, .one (.val (PTR gb_2 0))), (3, .one (.val (PTR gb_7 0))), (7, .one (.val (PTR gb_19 0))), (8, .one (.val (S (rI .i64) s.2)))], [cvar gb_2 (rV 32 (rU UInt8)) (Vector.replicate 32 (0 : UInt8)), cvar gb_7 (rV 8 (rU UInt32)) h_18, cvar gb_19 (rV 32 (rU UInt8)) s.1], []⟩) (q := ()) hx4 ?_)
      · exact (Imp.norm (js := [0, 0, 0]) rfl (.cons rfl (.cons rfl (.cons rfl (.cons rfl .nil)))))
      · intro s q x hx hr
        obtain ⟨d_20, i_21⟩ := s
        obtain _ := q
        change ref03_Sum.b2 k h_18 d_20 i_21 = some x at hx
        unfold ref03_Sum.b2 at hx
        refine JC.at ⟨[(2, .one (.val (PTR gb_2 0))), (3, .one (.val (PTR gb_7 0))), (7, .one (.val (PTR gb_19 0))), (8, .one (.val (S (rI .i64) i_21)))], [cvar gb_2 (rV 32 (rU UInt8)) (Vector.replicate 32 (0 : UInt8)), cvar gb_7 (rV 8 (rU UInt32)) h_18, cvar gb_19 (rV 32 (rU UInt8)) d_20], []⟩ ?_
        refine JC.seq ?_
        refine JC.seq ?_
        refine JC.region ?_
        refine JL.cons rfl (op_move (ltB rfl) (.tmp rfl)) ?_
        replace hx := lt1_inv hx
        obtain ⟨v_22, hv_v_22, hx⟩ := hx
        refine JL.cons rfl (op_cmpI (ltB rfl) (.tmp rfl) .cI (congrArg some hv_v_22)) ?_
        refine JL.nil ?_
        refine JQ.then ?_
        replace hx := iteB_inv hx
        rcases hx with ⟨hc6, hx⟩ | ⟨hc6, hx⟩
        · refine JC.condT (.tmp rfl) hc6 ?_
          refine JC.skip ?_
          refine JQ.then ?_
          refine JC.seq ?_
          refine JC.block ?_
          refine JC.region ?_
          refine JL.cons rfl (op_move (ltB rfl) (.tmp rfl)) ?_
          refine JL.cons rfl (op_move (ltB rfl) (.tmp rfl)) ?_
          replace hx := bnd_inv hx
          obtain ⟨v_23, hv_v_23, hx⟩ := hx
          refine JL.cons rfl (op_arI (ltB rfl) (.tmp rfl) .cI hv_v_23) ?_
          replace hx := bnd_inv hx
          obtain ⟨i_24, hv_i_24, hx⟩ := hx
          refine JL.cons rfl (op_indexAddrIF (ltB rfl) tr49 (.tmp rfl) (.tmp rfl) hv_i_24) ?_
          refine JL.pre (Imp.sub (ρ' := [(2, .one (.val (PTR gb_2 0))), (3, .one (.val (PTR gb_7 0))), (7, .one (.val (PTR gb_19 0))), (8, .one (.val (S (rI .i64) i_21))), (33, .one (.val (S (rI .i64) i_21))), (36, .one (.val (PTR gb_7 (0 + i_24.1 * 1))))]) (.cons rfl (.cons rfl (.cons rfl (.cons rfl (.cons rfl (.cons rfl .nil))))))) ?_
          refine JL.at ⟨[(2, .one (.val (PTR gb_2 0))), (3, .one (.val (PTR gb_7 0))), (7, .one (.val (PTR gb_19 0))), (8, .one (.val (S (rI .i64) i_21))), (33, .one (.val (S (rI .i64) i_21))), (36, .one (.val (PTR gb_7 (0 + i_24.1 * 1))))], [cvar gb_2 (rV 32 (rU UInt8)) (Vector.replicate 32 (0 : UInt8)), cvar gb_7 (rV 8 (rU UInt32)) h_18, cvar gb_19 (rV 32 (rU UInt8)) d_20], []⟩ ?_
          replace hx := lt1_inv hx
          obtain ⟨v_25, hv_v_25, hx⟩ := hx
          refine JL.cons rfl (op_loadS (j := 1) (ltB rfl) tS46 (.tmp rfl) rfl (Comp.at (Comp.self (rV 8 (rU UInt32)) h_18) i_24.2 rfl) rfl hv_v_25) ?_
          refine JL.cons rfl (op_move (ltB rfl) (.tmp rfl)) ?_
          replace hx := bnd_inv hx
          obtain ⟨v_26, hv_v_26, hx⟩ := hx
          refine JL.cons rfl (op_arI (ltB rfl) (.tmp rfl) .cI hv_v_26) ?_
          replace hx := lt1_inv hx
          obtain ⟨v_27, hv_v_27, hx⟩ := hx
          refine JL.cons rfl (op_arI (ltB rfl) .cI (.tmp rfl) (congrArg some hv_v_27)) ?_
          replace hx := lt1_inv hx
          obtain ⟨v_28, hv_v_28, hx⟩ := hx
          refine JL.cons rfl (op_arI (ltB rfl) .cI (.tmp rfl) (congrArg some hv_v_28)) ?_
          replace hx := lt1_inv hx
          obtain ⟨v_29, hv_v_29, hx⟩ := hx
          refine JL.cons rfl (op_convIU (ltB rfl) tu3 tu59 (.tmp rfl) hv_v_29) ?_
          refine JL.pre (Imp.sub (ρ' := [(2, .one (.val (PTR gb_2 0))), (3, .one (.val (PTR gb_7 0))), (7, .one (.val (PTR gb_19 0))), (8, .one (.val (S (rI .i64) i_21))), (33, .one (.val (S (rI .i64) i_21))), (37, .one (.val (S (rU UInt32) v_25))), (42, .one (.val (S (rU UInt64) v_29)))]) (.cons rfl (.cons rfl (.cons rfl (.cons rfl (.cons rfl (.cons rfl (.cons rfl .nil)))))))) ?_
          refine JL.at ⟨[(2, .one (.val (PTR gb_2 0))), (3, .one (.val (PTR gb_7 0))), (7, .one (.val (PTR gb_19 0))), (8, .one (.val (S (rI .i64) i_21))), (33, .one (.val (S (rI .i64) i_21))), (37, .one (.val (S (rU UInt32) v_25))), (42, .one (.val (S (rU UInt64) v_29)))], [cvar gb_2 (rV 32 (rU UInt8)) (Vector.replicate 32 (0 : UInt8)), cvar gb_7 (rV 8 (rU UInt32)) h_18, cvar gb_19 (rV 32 (rU UInt8)) d_20], []⟩ ?_
          replace hx := lt1_inv hx
          obtain ⟨v_30, hv_v_30, hx⟩ := hx
          refine JL.cons rfl (op_shrUU (ltB rfl) (.tmp rfl) (.tmp rfl) hv_v_30) ?_
          replace hx := lt1_inv hx
          obtain ⟨v_31, hv_v_31, hx⟩ := hx
          refine JL.cons rfl (op_convUU (ltB rfl) tu46 tu5 (.tmp rfl) hv_v_31) ?_
          replace hx := bnd_inv hx
          obtain ⟨i_32, hv_i_32, hx⟩ := hx
          refine JL.cons rfl (op_indexAddrIF (ltB rfl) tr28 (.tmp rfl) (.tmp rfl) hv_i_32) ?_
          replace hx := lt1_inv hx
          obtain ⟨d_33, hv_d_33, hx⟩ := hx
          refine JL.cons rfl (op_storeS (j := 2) tS5 (.tmp rfl) (.tmp rfl) rfl rfl (Upd.at (Comp.self (rV 32 (rU UInt8)) d_20) i_32.2 rfl (Upd.self (rV 32 (rU UInt8)) d_20 _)).R hv_d_33) ?_
          refine JL.pre (Imp.sub (ρ' := [(2, .one (.val (PTR gb_2 0))), (3, .one (.val (PTR gb_7 0))), (7, .one (.val (PTR gb_19 0))), (8, .one (.val (S (rI .i64) i_21)))]) (.cons rfl (.cons rfl (.cons rfl (.cons rfl .nil))))) ?_
          refine JL.at ⟨[(2, .one (.val (PTR gb_2 0))), (3, .one (.val (PTR gb_7 0))), (7, .one (.val (PTR gb_19 0))), (8, .one (.val (S (rI .i64) i_21)))], [cvar gb_2 (rV 32 (rU UInt8)) (Vector.replicate 32 (0 : UInt8)), cvar gb_7 (rV 8 (rU UInt32)) h_18, cvar gb_19 (rV 32 (rU UInt8)) d_33], []⟩ ?_
          refine JL.nil ?_
          refine JQ.outNB ?_
          refine JQ.then ?_
          refine JC.region ?_
          refine JL.cons rfl (op_move (ltB rfl) (.tmp rfl)) ?_
          replace hx := lt1_inv hx
          obtain ⟨v_34, hv_v_34, hx⟩ := hx
          refine JL.cons rfl (op_arI (ltB rfl) (.tmp rfl) .cI (congrArg some hv_v_34)) ?_
          refine JL.cons rfl (op_assign (ltB rfl) (.tmp rfl)) ?_
          refine JL.nil ?_
          replace hx := Option.some.inj hx
          first | subst hx | clear hx
          exact JQ.next () rfl (Imp.norm (js := [0, 0, 0]) rfl (.cons rfl (.cons rfl (.cons rfl (.cons rfl .nil)))))
        · refine JC.condF (.tmp rfl) hc6 ?_
          refine JC.exit ?_
          refine JQ.outX ?_
          replace hx := Option.some.inj hx
          first | subst hx | clear hx
          have ht := hr _ rfl
          have hq5 := congrArg some ht
          clear hr ht
          refine JQ.outX ?_
          refine JQ.here ?_
          replace hq5 := Option.some.inj hq5
          first | subst hq5 | clear hq5
          exact JQ.join () (Imp.norm (js := [0, 1]) rfl (.cons rfl (.cons rfl .nil)))
  · refine JC.seq ?_
    refine JC.region ?_
    refine JL.cons rfl (op_assign (ltB rfl) .cI) ?_
    refine JL.nil ?_
    refine JQ.then ?_
    refine JC.block ?_
    refine JC.pre (Imp.frz (j := 1) rfl ImpK.refl) ?_
    refine JC.pre (Imp.frz (j := 0) rfl ImpK.refl) ?_
    refine JC.pre ?_ (JC.loop (γ := Unit) (stf := fun s q => ⟨[(2, .one (.val (PTR gb_2 0))), (3, .one (.val (PTR gb_7 0))), (4, .one (.val (HDR go_5 0 (List.length v_4) gc_6))), (5, .one (.val (HDR go_9 0 (List.length v_8) gc_10))), (6, .one (.val (S (rI .i64) s.2)))], [cvar gb_2 (rV 32 (rU UInt8)) (Vector.replicate 32 (0 : UInt8)), cvar gb_7 (rV 8 (rU UInt32)) s.1, cown go_5 (rU UInt32) v_4 (List.length v_4) gc_6, cown go_9 (rU UInt8) v_8 (List.length v_8) gc_10], []⟩) (q := ()) hx1 ?_)
    · exact (Imp.norm (js := [2, 2, 1, 0]) rfl (.cons rfl (.cons rfl (.cons rfl (.cons rfl (.cons rfl .nil))))))
    · intro s q x hx hr
      obtain ⟨h_11, at_12⟩ := s
      obtain _ := q
      change ref03_Sum.b1 k v_8 v_4 h_11 at_12 = some x at hx
      unfold ref03_Sum.b1 at hx
      refine JC.at ⟨[(2, .one (.val (PTR gb_2 0))), (3, .one (.val (PTR gb_7 0))), (4, .one (.val (HDR go_5 0 (List.length v_4) gc_6))), (5, .one (.val (HDR go_9 0 (List.length v_8) gc_10))), (6, .one (.val (S (rI .i64) at_12)))], [cvar gb_2 (rV 32 (rU UInt8)) (Vector.replicate 32 (0 : UInt8)), cvar gb_7 (rV 8 (rU UInt32)) h_11, cown go_5 (rU UInt32) v_4 (List.length v_4) gc_6, cown go_9 (rU UInt8) v_8 (List.length v_8) gc_10], []⟩ ?_
      refine JC.seq ?_
      refine JC.seq ?_
      refine JC.region ?_
      refine JL.cons rfl (op_move (ltB rfl) (.tmp rfl)) ?_
      refine JL.cons rfl (op_move (ltB rfl) (.tmp rfl)) ?_
      refine JL.cons rfl (op_lenH (ltB rfl) tu25 (.tmp rfl)) ?_
      replace hx := lt1_inv hx
      obtain ⟨v_13, hv_v_13, hx⟩ := hx
      refine JL.cons rfl (op_cmpI (ltB rfl) (.tmp rfl) (.tmp rfl) (congrArg some hv_v_13)) ?_
      refine JL.nil ?_
      refine JQ.then ?_
      replace hx := iteB_inv hx
      rcases hx with ⟨hc3, hx⟩ | ⟨hc3, hx⟩
      · refine JC.condT (.tmp rfl) hc3 ?_
        refine JC.skip ?_
        refine JQ.then ?_
        refine JC.seq ?_
        refine JC.block ?_
        refine JC.pre (Imp.frz (j := 3) rfl (ImpK.slotH (s := 5) rfl (ImpK.slotH (s := 16) rfl ImpK.refl))) ?_
        refine JC.pre (Imp.frz (j := 2) rfl (ImpK.slotH (s := 4) rfl ImpK.refl)) ?_
        replace hx := lt1_inv hx
        obtain ⟨v_14, hv_v_14, hx⟩ := hx
        replace hx := bnd_inv hx
        obtain ⟨v_15, hv_v_15, hx⟩ := hx
        replace hx := bnd_inv hx
        obtain ⟨v_16, hv_v_16, hx⟩ := hx
        refine JC.anyE (kl := []) (kk := 0) (base := [(2, .one (.val (PTR gb_2 0))), (3, .one (.val (PTR gb_7 0))), (4, .one (.val (HL go_5 (rU UInt32) v_4 gc_6))), (5, .one (.val (HL go_9 (rU UInt8) v_8 gc_10))), (6, .one (.val (S (rI .i64) at_12)))])
            (fs := fun γ => [⟨some 21, .one (.val (A (rV 8 (rU UInt32)) h_11))⟩, ⟨some 22, .one (.val (HL go_9 (rU UInt8) v_8 gc_10))⟩, ⟨some 23, .one (.val (S (rI .i64) at_12))⟩, ⟨some 24, .one (.val (S (rI .i64) at_12))⟩, ⟨some 25, .one (.val (S (rI .i64) v_14))⟩, ⟨some 26, .one (.val (S (rL (rU UInt8)) v_15))⟩, ⟨some 27, .one (.val (HL go_5 (rU UInt32) v_4 gc_6))⟩, ⟨some 28, .one (.val (A (rV 8 (rU UInt32)) v_16))⟩, ⟨none, .one .any⟩])
            (rs := fun γ => [⟨cvar gb_2 (rV 32 (rU UInt8)) (Vector.replicate 32 (0 : UInt8)), none, none, []⟩, ⟨cvar gb_7 (rV 8 (rU UInt32)) h_11, none, (some 8), [0]⟩, ⟨cown go_5 (rU UInt32) v_4 (List.length v_4) gc_6, none, none, []⟩, ⟨cown go_9 (rU UInt8) v_8 (List.length v_8) gc_10, none, none, []⟩, ⟨cvar gb_7 (rV 8 (rU UInt32)) v_16, (some 8), none, []⟩])
            (ds := [21, 22, 23, 24, 25, 26, 27, 28]) (bs := [2, 3, 4, 5, 6]) (afts := [[], [], [], [], [], [], [], [], []]) (js := [0, 0, 0, 0]) mixed (.cons rfl (.cons rfl (.cons rfl (.cons rfl (.cons rfl .nil))))) (fun _ => rfl)
            (by
      refine DSteps.cons (j := 1) rfl (fun _ => rfl) (.run (fun γ ρ B hb hd => ⟨.none, OpStep.at ⟨ρ, (cvar gb_7 (rV 8 (rU UInt32)) h_11) :: B, _⟩ (setO ⟨ρ, (cvar gb_7 (rV 8 (rU UInt32)) h_11) :: B, _⟩ (some 21) (.one (.val (A (rV 8 (rU UInt32)) h_11)))) (op_loadA (j := 0) (ltB rfl) tA49 (.tmp (hb 3 _ rfl)) rfl (Comp.self (rV 8 (rU UInt32)) h_11) rfl)⟩)) ?_
      refine DSteps.cons (j := 2) rfl (fun _ => rfl) (.run (fun γ ρ B hb hd => ⟨.none, OpStep.at ⟨ρ, B, _⟩ (setO ⟨ρ, B, _⟩ (some 22) (.one (.val (HL go_9 (rU UInt8) v_8 gc_10)))) (op_move (ltB rfl) (.tmp (hb 5 _ rfl)))⟩)) ?_
      refine DSteps.cons (j := 3) rfl (fun _ => rfl) (.run (fun γ ρ B hb hd => ⟨.none, OpStep.at ⟨ρ, B, _⟩ (setO ⟨ρ, B, _⟩ (some 23) (.one (.val (S (rI .i64) at_12)))) (op_move (ltB rfl) (.tmp (hb 6 _ rfl)))⟩)) ?_
      refine DSteps.cons (j := 4) rfl (fun _ => rfl) (.run (fun γ ρ B hb hd => ⟨.none, OpStep.at ⟨ρ, B, _⟩ (setO ⟨ρ, B, _⟩ (some 24) (.one (.val (S (rI .i64) at_12)))) (op_move (ltB rfl) (.tmp (hb 6 _ rfl)))⟩)) ?_
      refine DSteps.cons (j := 5) rfl (fun _ => rfl) (.run (fun γ ρ B hb hd => ⟨.none, OpStep.at ⟨ρ, B, _⟩ (setO ⟨ρ, B, _⟩ (some 25) (.one (.val (S (rI .i64) v_14)))) (op_arI (ltB rfl) (.tmp (hdl hd 3 24 rfl (by decide +kernel))) .cI (congrArg some hv_v_14))⟩)) ?_
      refine DSteps.cons (j := 6) rfl (fun _ => rfl) (.run (fun γ ρ B hb hd => ⟨.none, OpStep.at ⟨ρ, B, _⟩ (setO ⟨ρ, B, _⟩ (some 26) (.one (.val (S (rL (rU UInt8)) v_15)))) (op_sliceLg (ltB rfl) tu25 tz5 (HasO.wk (.tmp (hdl hd 1 22 rfl (by decide +kernel))) wkHL) (.some (.tmp (hdl hd 2 23 rfl (by decide +kernel)))) (.some (.tmp (hdl hd 4 25 rfl (by decide +kernel)))) hv_v_15)⟩)) ?_
      refine DSteps.cons (j := 7) rfl (fun _ => rfl) (.run (fun γ ρ B hb hd => ⟨.none, OpStep.at ⟨ρ, B, _⟩ (setO ⟨ρ, B, _⟩ (some 27) (.one (.val (HL go_5 (rU UInt32) v_4 gc_6)))) (op_move (ltB rfl) (.tmp (hb 4 _ rfl)))⟩)) ?_
      refine DSteps.cons (j := 8) rfl (fun _ => rfl) (.run (fun γ ρ B hb hd => ⟨.none, OpStep.at ⟨ρ, B, _⟩ (setO ⟨ρ, B, _⟩ (some 28) (.one (.val (A (rV 8 (rU UInt32)) v_16)))) ((op_call (js := []) (ltD rfl) cl30 (sim_ref03_press k h_11 v_15 v_4 v_16 hv_v_16) .func (.cons (.tmp (hdl hd 0 21 rfl (by decide +kernel))) (.cons (.tmp (hdl hd 5 26 rfl (by decide +kernel))) (.cons (HasO.wk (.tmp (hdl hd 6 27 rfl (by decide +kernel))) wkHL) .nil))) rfl).post (fun _ => Imp.refl))⟩)) ?_
      refine DSteps.cons (j := 9) rfl (fun _ => rfl) (.run (fun γ ρ B hb hd => ⟨.none, OpStep.at ⟨ρ, (cvar gb_7 (rV 8 (rU UInt32)) h_11) :: B, _⟩ (setO ⟨ρ, (cvar gb_7 (rV 8 (rU UInt32)) v_16) :: B, _⟩ (none) (.one .any)) (op_storeA (j := 0) tA49 (.tmp (hb 3 _ rfl)) (.tmp (hdl hd 7 28 rfl (by decide +kernel))) rfl (UpdR.self (by rfl)) rfl)⟩)) ?_
      exact DSteps.nil)
            (by decide +kernel) (fun _ => rfl) rfl (fun _ => rfl) (fun _ => rfl) rfl (by decide) (by decide) (by decide +kernel) (fun _ d h => by cases h)
            (ρ' := fun γ => [(2, .one (.val (PTR gb_2 0))), (3, .one (.val (PTR gb_7 0))), (4, .one (.val (HL go_5 (rU UInt32) v_4 gc_6))), (5, .one (.val (HL go_9 (rU UInt8) v_8 gc_10))), (6, .one (.val (S (rI .i64) at_12)))])
            (X' := fun γ => [cvar gb_2 (rV 32 (rU UInt8)) (Vector.replicate 32 (0 : UInt8)), cown go_5 (rU UInt32) v_4 (List.length v_4) gc_6, cown go_9 (rU UInt8) v_8 (List.length v_8) gc_10, cvar gb_7 (rV 8 (rU UInt32)) v_16])
            (fun γ ρ hb hd => (.cons (hb 2 _ rfl (by decide)) (.cons (hb 3 _ rfl (by decide)) (.cons (hb 4 _ rfl (by decide)) (.cons (hb 5 _ rfl (by decide)) (.cons (hb 6 _ rfl (by decide)) .nil)))))) (fun _ => rfl) (fun γ => ?_)
        refine JQ.at ⟨[(2, .one (.val (PTR gb_2 0))), (3, .one (.val (PTR gb_7 0))), (4, .one (.val (HL go_5 (rU UInt32) v_4 gc_6))), (5, .one (.val (HL go_9 (rU UInt8) v_8 gc_10))), (6, .one (.val (S (rI .i64) at_12)))], [cvar gb_2 (rV 32 (rU UInt8)) (Vector.replicate 32 (0 : UInt8)), cown go_5 (rU UInt32) v_4 (List.length v_4) gc_6, cown go_9 (rU UInt8) v_8 (List.length v_8) gc_10, cvar gb_7 (rV 8 (rU UInt32)) v_16], []⟩ ?_
        refine JQ.outNB ?_
        refine JQ.then ?_
        refine JC.region ?_
        refine JL.cons rfl (op_move (ltB rfl) (.tmp rfl)) ?_
        replace hx := lt1_inv hx
        obtain ⟨v_17, hv_v_17, hx⟩ := hx
        refine JL.cons rfl (op_arI (ltB rfl) (.tmp rfl) .cI (congrArg some hv_v_17)) ?_
        refine JL.cons rfl (op_assign (ltB rfl) (.tmp rfl)) ?_
        refine JL.nil ?_
        replace hx := Option.some.inj hx
        first | subst hx | clear hx
        refine JQ.pre (Imp.slot (s := 4) rfl wkHH) ?_
        refine JQ.pre (Imp.slot (s := 5) rfl wkHH) ?_
        exact JQ.next () rfl (Imp.norm (js := [0, 2, 0, 0]) rfl (.cons rfl (.cons rfl (.cons rfl (.cons rfl (.cons rfl .nil))))))
      · refine JC.condF (.tmp rfl) hc3 ?_
        refine JC.exit ?_
        refine JQ.outX ?_
        replace hx := Option.some.inj hx
        first | subst hx | clear hx
        have ht := hr _ rfl
        have hq2 := congrArg some ht
        clear hr ht
        refine JQ.outX ?_
        refine JQ.here ?_
        replace hq2 := Option.some.inj hq2
        first | subst hq2 | clear hq2
        exact JQ.join () (Imp.norm (js := [0, 0]) rfl (.cons rfl (.cons rfl .nil)))

theorem sim_law03_ShaSums (k : Nat) (l_1 : (List (List UInt8))) (r : Bool) (hm : law03_ShaSums k l_1 = some r) : Sim Try.prog 3 [S (rL (rL (rU UInt8))) l_1] [] (γ := Unit) (fun q => []) (fun q => .one (.val (S rB r))) := by
  unfold law03_ShaSums at hm
  refine Sim.of Try.func3 rfl rfl (Nat.le_of_ble_eq_true rfl) (fun e0 w0 => ?_)
  refine JC.at ⟨[(0, .one (.val (S (rL (rL (rU UInt8))) l_1)))], [], []⟩ ?_
  refine JC.seq ?_
  refine JC.region ?_
  refine JL.cons rfl (op_assign (ltB rfl) .cB) ?_
  refine JL.nil ?_
  refine JQ.then ?_
  refine JC.seq ?_
  refine JC.seq ?_
  refine JC.region ?_
  refine JL.cons rfl (op_move (ltB rfl) (.tmp rfl)) ?_
  replace hm := bnd_inv hm
  obtain ⟨v_2, hv_v_2, hm⟩ := hm
  refine JL.consX rfl (op_call (js := []) (ltD rfl) cl8 (sim_ref01_Much k l_1 (3000 : Int) v_2 hv_v_2) .func (.cons (.tmp rfl) (.cons .cI .nil)) rfl) (fun _ => ?_)
  refine JL.nil ?_
  refine JQ.then ?_
  replace hm := iteB_inv hm
  rcases hm with ⟨hc1, hm⟩ | ⟨hc1, hm⟩
  · refine JC.condT (.tmp rfl) hc1 ?_
    refine JC.seq ?_
    refine JC.region ?_
    replace hm := bnd_inv hm
    obtain ⟨v_3, hv_v_3, hm⟩ := hm
    refine JL.consX rfl (op_call (js := []) (ltD rfl) cl9 (sim_law03_known k v_3 hv_v_3) .func .nil rfl) (fun _ => ?_)
    refine JL.cons rfl (op_assign (ltB rfl) (.tmp rfl)) ?_
    refine JL.nil ?_
    refine JQ.then ?_
    refine JC.ret ?_
    refine JQ.outR ?_
    replace hm := Option.some.inj hm
    subst hm
    exact JQ.done (js := []) (ss := [.val (S rB v_3)]) () (.inl rfl) (.nil rfl) rfl (.cons (.tmp rfl) .nil) rfl rfl rfl
  · refine JC.condF (.tmp rfl) hc1 ?_
    refine JC.skip ?_
    refine JQ.then ?_
    refine JC.seq ?_
    refine JC.region ?_
    refine JL.cons rfl (op_move (ltB rfl) (.tmp rfl)) ?_
    replace hm := bnd_inv hm
    obtain ⟨v_4, hv_v_4, hm⟩ := hm
    refine JL.consX rfl (op_call (js := []) (ltD rfl) cl10 (sim_ref01_Join k l_1 v_4 hv_v_4) .func (.cons (.tmp rfl) .nil) rfl) (fun q => ?_)
    obtain ⟨go_5, gc_6⟩ := q
    refine JL.pre (Imp.sub (ρ' := [(0, .one (.val (S (rL (rL (rU UInt8))) l_1))), (8, .one (.val (HDR go_5 0 (List.length v_4) gc_6)))]) (.cons rfl (.cons rfl .nil))) ?_
    refine JL.at ⟨[(0, .one (.val (S (rL (rL (rU UInt8))) l_1))), (8, .one (.val (HDR go_5 0 (List.length v_4) gc_6)))], [cown go_5 (rU UInt8) v_4 0 gc_6], []⟩ ?_
    refine JL.cons rfl (op_assign (ltB rfl) (.tmp rfl)) ?_
    refine JL.nil ?_
    refine JQ.then ?_
    replace hm := bnd_inv hm
    obtain ⟨x_15, hx2, hq2⟩ := hm
    refine JC.seqJ (γ := Unit) (stj := fun q => ⟨[(2, .one (.val (S rB x_15)))], [], []⟩) (fun q => ?_) ?_
    · obtain _ := q
      refine JC.at ⟨[(2, .one (.val (S rB x_15)))], [], []⟩ ?_
      refine JC.ret ?_
      replace hq2 := Option.some.inj hq2
      subst hq2
      exact JQ.done (js := []) (ss := [.val (S rB x_15)]) () (.inl rfl) (.nil rfl) rfl (.cons (.tmp rfl) .nil) rfl rfl rfl
    · refine JC.region ?_
      refine JL.cons rfl (op_move (ltB rfl) (.tmp rfl)) ?_
      replace hx2 := bnd_inv hx2
      obtain ⟨v_7, hv_v_7, hx2⟩ := hx2
      refine JL.consX rfl (op_call (js := []) (ltD rfl) cl11 (sim_sha_Sum k l_1 v_7 hv_v_7) .func (.cons (.tmp rfl) .nil) rfl) (fun _ => ?_)
      refine JL.cons rfl (op_move (ltB rfl) (.tmp rfl)) ?_
      replace hx2 := bnd_inv hx2
      obtain ⟨v_8, hv_v_8, hx2⟩ := hx2
      refine JL.pre (Imp.frz (j := 0) rfl (ImpK.slotH (s := 3) rfl (ImpK.slotH (s := 8) rfl (ImpK.slotH (s := 11) rfl ImpK.refl)))) ?_
      refine JL.consX rfl (op_call (js := []) (ltD rfl) cl12 (sim_ref03_Sum k v_4 v_8 hv_v_8) .func (.cons (HasO.wk (.tmp rfl) wkHL) .nil) rfl) (fun _ => ?_)
      refine JL.pre (Imp.sub (ρ' := [(3, .one (.val (HL go_5 (rU UInt8) v_4 gc_6))), (10, .one (.val (A (rV 32 (rU UInt8)) v_7))), (12, .one (.val (A (rV 32 (rU UInt8)) v_8)))]) (.cons rfl (.cons rfl (.cons rfl .nil)))) ?_
      refine JL.at ⟨[(3, .one (.val (HL go_5 (rU UInt8) v_4 gc_6))), (10, .one (.val (A (rV 32 (rU UInt8)) v_7))), (12, .one (.val (A (rV 32 (rU UInt8)) v_8)))], [cown go_5 (rU UInt8) v_4 (List.length v_4) gc_6], []⟩ ?_
      replace hx2 := lt1_inv hx2
      obtain ⟨v_9, hv_v_9, hx2⟩ := hx2
      refine JL.cons rfl (op_eqA (ltB rfl) qa28 (by decide) ng28 (.tmp rfl) (.tmp rfl) hv_v_9) ?_
      refine JL.cons rfl (op_move (ltB rfl) (.tmp rfl)) ?_
      replace hx2 := iteB_inv hx2
      rcases hx2 with ⟨hc4, hx2⟩ | ⟨hc4, hx2⟩
      · refine JL.run (.yes rfl (ltB rfl) rfl hc4) (op_move (ltB rfl) (.tmp rfl)) ?_
        refine JL.run (.yes rfl (ltB rfl) rfl hc4) (op_buildF (r := (rL (rU UInt8))) (ltB rfl) tu22 tz25 tZ25 rfl (Nat.le_of_ble_eq_true rfl) (.S rfl (HasO.wk (.tmp rfl) wkHL) .nil) rfl) ?_
        replace hx2 := bnd_inv hx2
        obtain ⟨v_10, hv_v_10, hx2⟩ := hx2
        refine JL.runX (.yes rfl (ltB rfl) rfl hc4) (op_call (js := []) (ltD rfl) cl11 (sim_sha_Sum k ([v_4] : (List (List UInt8))) v_10 hv_v_10) .func (.cons (.tmp rfl) .nil) rfl) (fun _ => ?_)
        refine JL.run (.yes rfl (ltB rfl) rfl hc4) (op_move (ltB rfl) (.tmp rfl)) ?_
        refine JL.pre (Imp.sub (ρ' := [(14, .one (.val (S rB v_9))), (17, .one (.val (A (rV 32 (rU UInt8)) v_10))), (18, .one (.val (HL go_5 (rU UInt8) v_4 gc_6)))]) (.cons rfl (.cons rfl (.cons rfl .nil)))) ?_
        refine JL.at ⟨[(14, .one (.val (S rB v_9))), (17, .one (.val (A (rV 32 (rU UInt8)) v_10))), (18, .one (.val (HL go_5 (rU UInt8) v_4 gc_6)))], [cown go_5 (rU UInt8) v_4 (List.length v_4) gc_6], []⟩ ?_
        replace hx2 := bnd_inv hx2
        obtain ⟨v_11, hv_v_11, hx2⟩ := hx2
        refine JL.runX (.yes rfl (ltB rfl) rfl hc4) (op_call (js := []) (ltD rfl) cl12 (sim_ref03_Sum k v_4 v_11 hv_v_11) .func (.cons (HasO.wk (.tmp rfl) wkHL) .nil) rfl) (fun _ => ?_)
        replace hx2 := lt1_inv hx2
        obtain ⟨v_12, hv_v_12, hx2⟩ := hx2
        refine JL.run (.yes rfl (ltB rfl) rfl hc4) (op_eqA (ltB rfl) qa28 (by decide) ng28 (.tmp rfl) (.tmp rfl) hv_v_12) ?_
        refine JL.cons rfl (op_pickT (ltB rfl) (.tmp rfl) hc4 (.tmp rfl)) ?_
        refine JL.cons rfl (op_move (ltB rfl) (.tmp rfl)) ?_
        replace hx2 := bnd_inv hx2
        obtain ⟨v_13, hv_v_13, hx2⟩ := hx2
        refine JL.cnd (sv := .one (.val (S rB v_13))) (Guard.isT (ltB rfl) rfl rfl) rfl (ltB rfl) (fun hq_5 => (op_call (js := []) (ltD rfl) cl9 (sim_law03_known k v_13 (ifT hv_v_13 hq_5)) .func .nil rfl).post (fun _ => Imp.refl)) ?_
        replace hx2 := lt1_inv hx2
        obtain ⟨v_14, hv_v_14, hx2⟩ := hx2
        refine JL.cons rfl (op_pickCS (ltB rfl) (.tmp rfl) (fun hb6 => (HasO.cnd (.tmp rfl) hb6)) (fun hb6 => .cB) hv_v_14) ?_
        refine JL.pre (Imp.norm (ρ' := [(24, .one (.val (S rB v_14)))]) (js := []) rfl (.cons rfl .nil)) ?_
        refine JL.at ⟨[(24, .one (.val (S rB v_14)))], [], []⟩ ?_
        refine JL.cons rfl (op_assign (ltB rfl) (.tmp rfl)) ?_
        refine JL.nil ?_
        replace hx2 := Option.some.inj hx2
        first | subst hx2 | clear hx2
        exact JQ.join () (Imp.norm (js := []) rfl (.cons rfl .nil))
      · refine JL.skip (.no rfl (ltB rfl) rfl hc4) (fun d h => by cases h; exact ltB rfl) ?_
        refine JL.skip (.no rfl (ltB rfl) rfl hc4) (fun d h => by cases h; exact ltB rfl) ?_
        refine JL.skip (.no rfl (ltB rfl) rfl hc4) (fun d h => by cases h; exact ltB rfl) ?_
        refine JL.skip (.no rfl (ltB rfl) rfl hc4) (fun d h => by cases h; exact ltB rfl) ?_
        refine JL.skip (.no rfl (ltB rfl) rfl hc4) (fun d h => by cases h; exact ltB rfl) ?_
        refine JL.skip (.no rfl (ltB rfl) rfl hc4) (fun d h => by cases h; exact ltB rfl) ?_
        refine JL.cons rfl (op_pickF (ltB rfl) (.tmp rfl) hc4 .cB) ?_
        refine JL.cons rfl (op_move (ltB rfl) (.tmp rfl)) ?_
        refine JL.skip (.no rfl (ltB rfl) rfl rfl) (fun d h => by cases h; exact ltB rfl) ?_
        refine JL.cons rfl (op_pickF (ltB rfl) (.tmp rfl) rfl .cB) ?_
        refine JL.cons rfl (op_assign (ltB rfl) (.tmp rfl)) ?_
        refine JL.pre (Imp.norm (ρ' := [(2, .one (.val (S rB false)))]) (js := []) rfl (.cons rfl .nil)) ?_
        refine JL.at ⟨[(2, .one (.val (S rB false)))], [], []⟩ ?_
        refine JL.nil ?_
        replace hx2 := Option.some.inj hx2
        first | subst hx2 | clear hx2
        exact JQ.join () (Imp.norm (js := []) rfl (.cons rfl .nil))

end Go.Proofs.Ytdncoiehmkcajaa
