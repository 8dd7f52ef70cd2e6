/- Walks. -/
import Derived.Test.YtnhiiabdoichlaaT
import Derived.Test.YtnhiiabdoichlaaW8
namespace Go.Proofs.Ytnhiiabdoichlaa
open Go Fw
set_option linter.unusedVariables false
set_option maxRecDepth 100000
set_option maxHeartbeats 4000000

theorem sim_wire_Get (k : Nat) (b_1 : (List UInt8)) (r : UInt64 × Int) (hm : wire_Get k b_1 = some r) : Sim Try.prog 42 [S (rL (rU UInt8)) b_1] [] (γ := Unit) (fun q => []) (fun q => .tup [.val (S (rU UInt64) r.1), .val (S (rI .i64) r.2)]) := by
  unfold wire_Get at hm
  refine Sim.of Try.func42 rfl rfl (Nat.le_of_ble_eq_true rfl) (fun e0 w0 => ?_)
  refine JC.at ⟨[(0, .one (.val (S (rL (rU UInt8)) b_1)))], [], []⟩ ?_
  refine JC.seq ?_
  refine JC.region ?_
  refine JL.cons rfl (op_assign (ltB rfl) (HasO.cU (x := (0 : UInt64)) rfl (by decide))) ?_
  refine JL.cons rfl (op_assign (ltB rfl) .cI) ?_
  refine JL.nil ?_
  refine JQ.then ?_
  refine JC.seq ?_
  replace hm := bnd_inv hm
  obtain ⟨x_5, hx1, hq1⟩ := hm
  refine JC.seqJ (γ := Unit) (stj := fun q => ⟨[(0, .one (.val (S (rL (rU UInt8)) b_1))), (14, .one (.val (S rB x_5)))], [], []⟩) (fun q => ?_) ?_
  · obtain _ := q
    refine JC.at ⟨[(0, .one (.val (S (rL (rU UInt8)) b_1))), (14, .one (.val (S rB x_5)))], [], []⟩ ?_
    replace hq1 := iteB_inv hq1
    rcases hq1 with ⟨hc6, hq1⟩ | ⟨hc6, hq1⟩
    · refine JC.condT (.tmp rfl) hc6 ?_
      refine JC.seq ?_
      refine JC.region ?_
      refine JL.cons rfl (op_assign (ltB rfl) (HasO.cU (x := (0 : UInt64)) rfl (by decide))) ?_
      refine JL.cons rfl (op_assign (ltB rfl) .cI) ?_
      refine JL.nil ?_
      refine JQ.then ?_
      refine JC.ret ?_
      refine JQ.outR ?_
      replace hq1 := Option.some.inj hq1
      subst hq1
      exact JQ.done (js := []) (ss := [.val (S (rU UInt64) (0 : UInt64)), .val (S (rI .i64) (2 : Int))]) () (.inl rfl) (.nil rfl) rfl (.cons (.tmp rfl) (.cons (.tmp rfl) .nil)) rfl rfl rfl
    · refine JC.condF (.tmp rfl) hc6 ?_
      refine JC.skip ?_
      refine JQ.then ?_
      refine JC.seq ?_
      refine JC.region ?_
      refine JL.cons rfl (op_assign (ltB rfl) (HasO.cU (x := (0 : UInt64)) rfl (by decide))) ?_
      refine JL.nil ?_
      refine JQ.then ?_
      replace hq1 := bnd_inv hq1
      obtain ⟨n_14, hx7, hq7⟩ := hq1
      refine JC.seqJ (γ := Unit) (stj := fun q => ⟨[(4, .one (.val (S (rU UInt64) n_14)))], [], []⟩) (fun q => ?_) ?_
      · obtain _ := q
        refine JC.at ⟨[(4, .one (.val (S (rU UInt64) n_14)))], [], []⟩ ?_
        refine JC.seq ?_
        refine JC.region ?_
        refine JL.cons rfl (op_move (ltB rfl) (.tmp rfl)) ?_
        refine JL.cons rfl (op_assign (ltB rfl) (.tmp rfl)) ?_
        refine JL.cons rfl (op_assign (ltB rfl) .cI) ?_
        refine JL.nil ?_
        refine JQ.then ?_
        refine JC.ret ?_
        replace hq7 := Option.some.inj hq7
        subst hq7
        exact JQ.done (js := []) (ss := [.val (S (rU UInt64) n_14), .val (S (rI .i64) (0 : Int))]) () (.inl rfl) (.nil rfl) rfl (.cons (.tmp rfl) (.cons (.tmp rfl) .nil)) rfl rfl rfl
      · refine JC.seq ?_
        refine JC.region ?_
        refine JL.cons rfl (op_move (ltB rfl) (.tmp rfl)) ?_
        refine JL.cons rfl (op_lenL (ltB rfl) tu22 (.tmp rfl)) ?_
        refine JL.cons rfl (op_move (ltB rfl) .cI) ?_
        refine JL.nil ?_
        refine JQ.then ?_
        refine JC.block ?_
        refine JC.pre ?_ (JC.loop (γ := Unit) (stf := fun s q => ⟨[(4, .one (.val (S (rU UInt64) s.1))), (15, .one (.val (S (rL (rU UInt8)) b_1))), (16, .one (.val (S (rI .i64) (List.length b_1 : Int)))), (17, .one (.val (S (rI .i64) s.2)))], [], []⟩) (q := ()) hx7 ?_)
        · exact (Imp.norm (js := []) rfl (.cons rfl (.cons rfl (.cons rfl (.cons rfl .nil)))))
        · intro s q x hx hr
          obtain ⟨n_6, x_7⟩ := s
          obtain _ := q
          change wire_Get.b1 k b_1 n_6 x_7 = some x at hx
          unfold wire_Get.b1 at hx
          refine JC.at ⟨[(4, .one (.val (S (rU UInt64) n_6))), (15, .one (.val (S (rL (rU UInt8)) b_1))), (16, .one (.val (S (rI .i64) (List.length b_1 : Int)))), (17, .one (.val (S (rI .i64) x_7)))], [], []⟩ ?_
          refine JC.seq ?_
          refine JC.region ?_
          replace hx := lt1_inv hx
          obtain ⟨v_8, hv_v_8, hx⟩ := hx
          refine JL.cons rfl (op_cmpI (ltB rfl) (.tmp rfl) (.tmp rfl) (congrArg some hv_v_8)) ?_
          refine JL.nil ?_
          refine JQ.then ?_
          refine JC.seq ?_
          replace hx := iteB_inv hx
          rcases hx with ⟨hc9, hx⟩ | ⟨hc9, hx⟩
          · refine JC.condT (.tmp rfl) hc9 ?_
            refine JC.skip ?_
            refine JQ.then ?_
            refine JC.seq ?_
            refine JC.block ?_
            refine JC.seq ?_
            refine JC.region ?_
            replace hx := bnd_inv hx
            obtain ⟨v_9, hv_v_9, hx⟩ := hx
            refine JL.cons rfl (op_indexAddrLg (ltB rfl) tu22 tz5 (.tmp rfl) (.tmp rfl) hv_v_9) ?_
            refine JL.cons rfl (op_loadPSg (ltB rfl) tS5 rfl (.tmp rfl) rfl) ?_
            refine JL.cons rfl (op_assign (ltB rfl) (.tmp rfl)) ?_
            refine JL.nil ?_
            refine JQ.then ?_
            refine JC.region ?_
            refine JL.cons rfl (op_move (ltB rfl) (.tmp rfl)) ?_
            replace hx := lt1_inv hx
            obtain ⟨v_10, hv_v_10, hx⟩ := hx
            refine JL.cons rfl (op_shlUU (ltB rfl) (.tmp rfl) (HasO.cU (x := (8 : UInt64)) rfl (by decide)) hv_v_10) ?_
            refine JL.pre (Imp.sub (ρ' := [(4, .one (.val (S (rU UInt64) n_6))), (6, .one (.val (S (rU UInt8) v_9))), (15, .one (.val (S (rL (rU UInt8)) b_1))), (16, .one (.val (S (rI .i64) (List.length b_1 : Int)))), (17, .one (.val (S (rI .i64) x_7))), (22, .one (.val (S (rU UInt64) v_10)))]) (.cons rfl (.cons rfl (.cons rfl (.cons rfl (.cons rfl (.cons rfl .nil))))))) ?_
            refine JL.at ⟨[(4, .one (.val (S (rU UInt64) n_6))), (6, .one (.val (S (rU UInt8) v_9))), (15, .one (.val (S (rL (rU UInt8)) b_1))), (16, .one (.val (S (rI .i64) (List.length b_1 : Int)))), (17, .one (.val (S (rI .i64) x_7))), (22, .one (.val (S (rU UInt64) v_10)))], [], []⟩ ?_
            refine JL.cons rfl (op_move (ltB rfl) (.tmp rfl)) ?_
            replace hx := lt1_inv hx
            obtain ⟨v_11, hv_v_11, hx⟩ := hx
            refine JL.cons rfl (op_convUU (ltB rfl) tu5 tu23 (.tmp rfl) hv_v_11) ?_
            replace hx := lt1_inv hx
            obtain ⟨v_12, hv_v_12, hx⟩ := hx
            refine JL.cons rfl (op_arU (ltB rfl) (.tmp rfl) (.tmp rfl) (congrArg some hv_v_12)) ?_
            refine JL.cons rfl (op_assign (ltB rfl) (.tmp rfl)) ?_
            refine JL.nil ?_
            refine JQ.outNB ?_
            refine JQ.then ?_
            refine JC.region ?_
            replace hx := lt1_inv hx
            obtain ⟨v_13, hv_v_13, hx⟩ := hx
            refine JL.cons rfl (op_arI (ltB rfl) (.tmp rfl) .cI (congrArg some hv_v_13)) ?_
            refine JL.cons rfl (op_move (ltB rfl) (.tmp rfl)) ?_
            refine JL.pre (Imp.sub (ρ' := [(4, .one (.val (S (rU UInt64) v_12))), (15, .one (.val (S (rL (rU UInt8)) b_1))), (16, .one (.val (S (rI .i64) (List.length b_1 : Int)))), (17, .one (.val (S (rI .i64) v_13)))]) (.cons rfl (.cons rfl (.cons rfl (.cons rfl .nil))))) ?_
            refine JL.at ⟨[(4, .one (.val (S (rU UInt64) v_12))), (15, .one (.val (S (rL (rU UInt8)) b_1))), (16, .one (.val (S (rI .i64) (List.length b_1 : Int)))), (17, .one (.val (S (rI .i64) v_13)))], [], []⟩ ?_
            refine JL.nil ?_
            replace hx := Option.some.inj hx
            first | subst hx | clear hx
            exact JQ.next () rfl (Imp.norm (js := []) rfl (.cons rfl (.cons rfl (.cons rfl (.cons rfl .nil)))))
          · refine JC.condF (.tmp rfl) hc9 ?_
            refine JC.exit ?_
            refine JQ.outX ?_
            replace hx := Option.some.inj hx
            first | subst hx | clear hx
            have ht := hr _ rfl
            have hq8 := congrArg some ht
            clear hr ht
            refine JQ.outX ?_
            refine JQ.here ?_
            replace hq8 := Option.some.inj hq8
            first | subst hq8 | clear hq8
            exact JQ.join () (Imp.norm (js := []) rfl (.cons rfl .nil))
  · refine JC.region ?_
    refine JL.cons rfl (op_move (ltB rfl) (.tmp rfl)) ?_
    refine JL.cons rfl (op_lenL (ltB rfl) tu22 (.tmp rfl)) ?_
    replace hx1 := lt1_inv hx1
    obtain ⟨v_2, hv_v_2, hx1⟩ := hx1
    refine JL.cons rfl (op_cmpI (ltB rfl) (.tmp rfl) .cI (congrArg some hv_v_2)) ?_
    refine JL.cons rfl (op_move (ltB rfl) (.tmp rfl)) ?_
    refine JL.pre (Imp.sub (ρ' := [(0, .one (.val (S (rL (rU UInt8)) b_1))), (10, .one (.val (S rB v_2)))]) (.cons rfl (.cons rfl .nil))) ?_
    refine JL.at ⟨[(0, .one (.val (S (rL (rU UInt8)) b_1))), (10, .one (.val (S rB v_2)))], [], []⟩ ?_
    refine JL.cnd (sv := .one (.val (S (rL (rU UInt8)) b_1))) (Guard.isF (ltB rfl) rfl rfl) rfl (ltB rfl) (fun hq_2 => op_move (ltB rfl) (.tmp rfl)) ?_
    refine JL.cnd (sv := .one (.val (S (rI .i64) (List.length b_1 : Int)))) (Guard.isF (ltB rfl) rfl rfl) rfl (ltB rfl) (fun hq_3 => op_lenL (ltB rfl) tu22 (HasO.cnd (.tmp rfl) (notT (notF hq_3)))) ?_
    replace hx1 := lt1_inv hx1
    obtain ⟨v_3, hv_v_3, hx1⟩ := hx1
    refine JL.cnd (sv := .one (.val (S rB v_3))) (Guard.isF (ltB rfl) rfl rfl) rfl (ltB rfl) (fun hq_4 => op_cmpI (ltB rfl) (HasO.cnd (.tmp rfl) (notT (notF hq_4))) .cI (congrArg some hv_v_3)) ?_
    replace hx1 := lt1_inv hx1
    obtain ⟨v_4, hv_v_4, hx1⟩ := hx1
    refine JL.cons rfl (op_pickCS (ltB rfl) (.tmp rfl) (fun hb5 => .cB) (fun hb5 => (HasO.cnd (.tmp rfl) (notT hb5))) hv_v_4) ?_
    refine JL.nil ?_
    replace hx1 := Option.some.inj hx1
    first | subst hx1 | clear hx1
    exact JQ.join () (Imp.norm (js := []) rfl (.cons rfl (.cons rfl .nil)))

theorem sim_wire_Reader_Number (k : Nat) (size_1 : Int) (is_2 : Bool) (made_3 : Bool) (x_5 : (List UInt8)) (gb_4 : Nat) (go_6 : Option Nat) (gc_7 : Nat) (r : UInt64 × wire_Reader) (hm : wire_Reader_Number k size_1 is_2 made_3 x_5 = some r) : Sim Try.prog 36 [PTR gb_4 0, S (rI .i64) size_1] [cvar gb_4 (rP (rW (HDR go_6 0 (List.length x_5) gc_7)) (rP rB (rP rB r0))) ((), (is_2, (made_3, ()))), cown go_6 (rU UInt8) x_5 0 gc_7] (γ := Unit) (fun q => [cvar gb_4 r_wire_Reader r.2, cown go_6 (rU UInt8) x_5 (List.length x_5) gc_7]) (fun q => .one (.val (S (rU UInt64) r.1))) := by
  unfold wire_Reader_Number at hm
  refine Sim.of Try.func36 rfl rfl (Nat.le_of_ble_eq_true rfl) (fun e0 w0 => ?_)
  refine JC.at ⟨[(0, .one (.val (PTR gb_4 0))), (1, .one (.val (S (rI .i64) size_1)))], [cvar gb_4 (rP (rW (HDR go_6 0 (List.length x_5) gc_7)) (rP rB (rP rB r0))) ((), (is_2, (made_3, ()))), cown go_6 (rU UInt8) x_5 0 gc_7], []⟩ ?_
  refine JC.seq ?_
  refine JC.region ?_
  refine JL.cons rfl (op_assign (ltB rfl) (HasO.cU (x := (0 : UInt64)) rfl (by decide))) ?_
  refine JL.nil ?_
  refine JQ.then ?_
  replace hm := bnd_inv hm
  obtain ⟨size_12, hx1, hq1⟩ := hm
  refine JC.seqJ (γ := Unit) (stj := fun q => ⟨[(0, .one (.val (PTR gb_4 0))), (1, .one (.val (S (rI .i64) size_12)))], [cvar gb_4 (rP (rW (HDR go_6 0 (List.length x_5) gc_7)) (rP rB (rP rB r0))) ((), (is_2, (made_3, ()))), cown go_6 (rU UInt8) x_5 0 gc_7], []⟩) (fun q => ?_) ?_
  · obtain _ := q
    refine JC.at ⟨[(0, .one (.val (PTR gb_4 0))), (1, .one (.val (S (rI .i64) size_12)))], [cvar gb_4 (rP (rW (HDR go_6 0 (List.length x_5) gc_7)) (rP rB (rP rB r0))) ((), (is_2, (made_3, ()))), cown go_6 (rU UInt8) x_5 0 gc_7], []⟩ ?_
    refine JC.seq ?_
    refine JC.region ?_
    refine JL.cons rfl (op_move (ltB rfl) (.tmp rfl)) ?_
    refine JL.cons rfl (op_move (ltB rfl) (.tmp rfl)) ?_
    replace hq1 := bnd_inv hq1
    obtain ⟨⟨v_13, v_14, x_15, x_16, x_17⟩, hv_v_13, hq1⟩ := hq1
    refine JL.consX rfl (op_call (js := [0, 0]) (ltD rfl) cl34 (sim_wire_Reader_take k size_12 is_2 made_3 x_5 gb_4 go_6 gc_7 (v_13, v_14, x_15, x_16, x_17) hv_v_13) .func (.cons (.tmp rfl) (.cons (.tmp rfl) .nil)) rfl) (fun _ => ?_)
    refine JL.pre (Imp.sub (ρ' := [(18, .tup [.val (S (rL (rU UInt8)) v_13), .val (S rB v_14)])]) (.cons rfl .nil)) ?_
    refine JL.at ⟨[(18, .tup [.val (S (rL (rU UInt8)) v_13), .val (S rB v_14)])], [cvar gb_4 (rP (rL (rU UInt8)) (rP rB (rP rB r0))) (x_15, (x_16, (x_17, ()))), cown go_6 (rU UInt8) x_5 (List.length x_5) gc_7], []⟩ ?_
    refine JL.cons rfl (op_move (ltB rfl) (.tmp rfl)) ?_
    refine JL.cons rfl (op_extract (i := 0) (ltB rfl) (.tmp rfl) rfl) ?_
    refine JL.cons rfl (op_extract (i := 1) (ltB rfl) (.tmp rfl) rfl) ?_
    refine JL.cons rfl (op_assign (ltB rfl) (.tmp rfl)) ?_
    refine JL.cons rfl (op_assign (ltB rfl) (.tmp rfl)) ?_
    refine JL.nil ?_
    refine JQ.then ?_
    refine JC.seq ?_
    refine JC.region ?_
    refine JL.cons rfl (op_move (ltB rfl) (.tmp rfl)) ?_
    refine JL.pre (Imp.sub (ρ' := [(22, .one (.val (S (rL (rU UInt8)) v_13)))]) (.cons rfl .nil)) ?_
    refine JL.at ⟨[(22, .one (.val (S (rL (rU UInt8)) v_13)))], [cvar gb_4 (rP (rL (rU UInt8)) (rP rB (rP rB r0))) (x_15, (x_16, (x_17, ()))), cown go_6 (rU UInt8) x_5 (List.length x_5) gc_7], []⟩ ?_
    replace hq1 := bnd_inv hq1
    obtain ⟨⟨v_18, v_19⟩, hv_v_18, hq1⟩ := hq1
    refine JL.consX rfl (op_call (js := []) (ltD rfl) cl42 (sim_wire_Get k v_13 (v_18, v_19) hv_v_18) .func (.cons (.tmp rfl) .nil) rfl) (fun _ => ?_)
    refine JL.cons rfl (op_move (ltB rfl) (.tmp rfl)) ?_
    refine JL.cons rfl (op_extract (i := 0) (ltB rfl) (.tmp rfl) rfl) ?_
    refine JL.cons rfl (op_extract (i := 1) (ltB rfl) (.tmp rfl) rfl) ?_
    refine JL.cons rfl (op_assign (ltB rfl) (.tmp rfl)) ?_
    refine JL.cons rfl (op_assign (ltB rfl) (.tmp rfl)) ?_
    refine JL.pre (Imp.sub (ρ' := [(7, .one (.val (S (rU UInt64) v_18)))]) (.cons rfl .nil)) ?_
    refine JL.at ⟨[(7, .one (.val (S (rU UInt64) v_18)))], [cvar gb_4 (rP (rL (rU UInt8)) (rP rB (rP rB r0))) (x_15, (x_16, (x_17, ()))), cown go_6 (rU UInt8) x_5 (List.length x_5) gc_7], []⟩ ?_
    refine JL.nil ?_
    refine JQ.then ?_
    refine JC.seq ?_
    refine JC.region ?_
    refine JL.cons rfl (op_move (ltB rfl) (.tmp rfl)) ?_
    refine JL.cons rfl (op_assign (ltB rfl) (.tmp rfl)) ?_
    refine JL.nil ?_
    refine JQ.then ?_
    refine JC.ret ?_
    replace hq1 := Option.some.inj hq1
    subst hq1
    refine JQ.pre (Imp.var (j := 0) (q := r_wire_Reader) (y := (wire_Reader.mk x_15 x_16 x_17)) rfl (Wk.st Wk.refl)) ?_
    exact JQ.done (js := [0, 0]) (ss := [.val (S (rU UInt64) v_18)]) () (.inl rfl) (.nil rfl) rfl (.cons (.tmp rfl) .nil) rfl rfl rfl
  · replace hx1 := bnd_inv hx1
    obtain ⟨x_11, hx2, hq2⟩ := hx1
    refine JC.seqJ (γ := Unit) (stj := fun q => ⟨[(0, .one (.val (PTR gb_4 0))), (1, .one (.val (S (rI .i64) size_1))), (14, .one (.val (S rB x_11)))], [cvar gb_4 (rP (rW (HDR go_6 0 (List.length x_5) gc_7)) (rP rB (rP rB r0))) ((), (is_2, (made_3, ()))), cown go_6 (rU UInt8) x_5 0 gc_7], []⟩) (fun q => ?_) ?_
    · obtain _ := q
      refine JC.at ⟨[(0, .one (.val (PTR gb_4 0))), (1, .one (.val (S (rI .i64) size_1))), (14, .one (.val (S rB x_11)))], [cvar gb_4 (rP (rW (HDR go_6 0 (List.length x_5) gc_7)) (rP rB (rP rB r0))) ((), (is_2, (made_3, ()))), cown go_6 (rU UInt8) x_5 0 gc_7], []⟩ ?_
      replace hq2 := iteB_inv hq2
      rcases hq2 with ⟨hc6, hq2⟩ | ⟨hc6, hq2⟩
      · refine JC.condT (.tmp rfl) hc6 ?_
        refine JC.region ?_
        refine JL.cons rfl (op_assign (ltB rfl) .cI) ?_
        refine JL.nil ?_
        replace hq2 := Option.some.inj hq2
        first | subst hq2 | clear hq2
        exact JQ.join () (Imp.norm (js := [0, 0]) rfl (.cons rfl (.cons rfl .nil)))
      · refine JC.condF (.tmp rfl) hc6 ?_
        refine JC.skip ?_
        replace hq2 := Option.some.inj hq2
        first | subst hq2 | clear hq2
        exact JQ.join () (Imp.norm (js := [0, 0]) rfl (.cons rfl (.cons rfl .nil)))
    · refine JC.region ?_
      refine JL.cons rfl (op_move (ltB rfl) (.tmp rfl)) ?_
      replace hx2 := lt1_inv hx2
      obtain ⟨v_8, hv_v_8, hx2⟩ := hx2
      refine JL.cons rfl (op_cmpI (ltB rfl) (.tmp rfl) .cI (congrArg some hv_v_8)) ?_
      refine JL.cons rfl (op_move (ltB rfl) (.tmp rfl)) ?_
      refine JL.cnd (sv := .one (.val (S (rI .i64) size_1))) (Guard.isF (ltB rfl) rfl rfl) rfl (ltB rfl) (fun hq_3 => op_move (ltB rfl) (.tmp rfl)) ?_
      replace hx2 := lt1_inv hx2
      obtain ⟨v_9, hv_v_9, hx2⟩ := hx2
      refine JL.cnd (sv := .one (.val (S rB v_9))) (Guard.isF (ltB rfl) rfl rfl) rfl (ltB rfl) (fun hq_4 => op_cmpI (ltB rfl) (HasO.cnd (.tmp rfl) (notT (notF hq_4))) .cI (congrArg some hv_v_9)) ?_
      refine JL.pre (Imp.sub (ρ' := [(0, .one (.val (PTR gb_4 0))), (1, .one (.val (S (rI .i64) size_1))), (11, .one (.val (S rB v_8))), (13, bif (!v_8) then .one (.val (S rB v_9)) else .one .und)]) (.cons rfl (.cons rfl (.cons rfl (.cons rfl .nil))))) ?_
      refine JL.at ⟨[(0, .one (.val (PTR gb_4 0))), (1, .one (.val (S (rI .i64) size_1))), (11, .one (.val (S rB v_8))), (13, bif (!v_8) then .one (.val (S rB v_9)) else .one .und)], [cvar gb_4 (rP (rW (HDR go_6 0 (List.length x_5) gc_7)) (rP rB (rP rB r0))) ((), (is_2, (made_3, ()))), cown go_6 (rU UInt8) x_5 0 gc_7], []⟩ ?_
      replace hx2 := lt1_inv hx2
      obtain ⟨v_10, hv_v_10, hx2⟩ := hx2
      refine JL.cons rfl (op_pickCS (ltB rfl) (.tmp rfl) (fun hb5 => .cB) (fun hb5 => (HasO.cnd (.tmp rfl) (notT hb5))) hv_v_10) ?_
      refine JL.nil ?_
      replace hx2 := Option.some.inj hx2
      first | subst hx2 | clear hx2
      refine JQ.pre (Imp.var (j := 0) (q := (rP (rW (HDR go_6 0 (List.length x_5) gc_7)) (rP rB (rP rB r0)))) (y := ((), (is_2, (made_3, ())))) rfl Wk.refl) ?_
      exact JQ.join () (Imp.norm (js := [0, 0]) rfl (.cons rfl (.cons rfl (.cons rfl .nil))))

theorem sim_wire_Reader_Vector_1 (k : Nat) (is_2 : Bool) (made_3 : Bool) (x_5 : (List UInt8)) (gb_1 : Nat) (gb_4 : Nat) (go_6 : Option Nat) (gc_7 : Nat) (r : UInt64 × wire_Reader) (hm : wire_Reader_Vector_1 k is_2 made_3 x_5 = some r) : Sim Try.prog 35 [PTR gb_1 0] [cvar gb_1 (rW (PTR gb_4 0)) (), cvar gb_4 (rP (rW (HDR go_6 0 (List.length x_5) gc_7)) (rP rB (rP rB r0))) ((), (is_2, (made_3, ()))), cown go_6 (rU UInt8) x_5 0 gc_7] (γ := Unit) (fun q => [cvar gb_1 (rW (PTR gb_4 0)) (), cvar gb_4 r_wire_Reader r.2, cown go_6 (rU UInt8) x_5 (List.length x_5) gc_7]) (fun q => .one (.val (S (rU UInt64) r.1))) := by
  unfold wire_Reader_Vector_1 at hm
  refine Sim.of Try.func35 rfl rfl (Nat.le_of_ble_eq_true rfl) (fun e0 w0 => ?_)
  refine JC.at ⟨[(0, .one (.val (PTR gb_1 0)))], [cvar gb_1 (rW (PTR gb_4 0)) (), cvar gb_4 (rP (rW (HDR go_6 0 (List.length x_5) gc_7)) (rP rB (rP rB r0))) ((), (is_2, (made_3, ()))), cown go_6 (rU UInt8) x_5 0 gc_7], []⟩ ?_
  refine JC.seq ?_
  refine JC.region ?_
  refine JL.cons rfl (op_assign (ltB rfl) (HasO.cU (x := (0 : UInt64)) rfl (by decide))) ?_
  refine JL.nil ?_
  refine JQ.then ?_
  refine JC.seq ?_
  refine JC.region ?_
  refine JL.cons rfl (op_loadW (j := 0) (ltB rfl) tS47 (.tmp rfl) rfl (Comp.self (rW (PTR gb_4 0)) ())) ?_
  replace hm := bnd_inv hm
  obtain ⟨⟨v_8, x_9⟩, hv_v_8, hm⟩ := hm
  refine JL.consX rfl (op_call (js := [1, 1]) (ltD rfl) cl36 (sim_wire_Reader_Number k (8 : Int) is_2 made_3 x_5 gb_4 go_6 gc_7 (v_8, x_9) hv_v_8) .func (.cons (.tmp rfl) (.cons .cI .nil)) rfl) (fun _ => ?_)
  refine JL.pre (Imp.sub (ρ' := [(1, .one (.val (S (rU UInt64) (0 : UInt64)))), (3, .one (.val (S (rU UInt64) v_8)))]) (.cons rfl (.cons rfl .nil))) ?_
  refine JL.at ⟨[(1, .one (.val (S (rU UInt64) (0 : UInt64)))), (3, .one (.val (S (rU UInt64) v_8)))], [cvar gb_4 r_wire_Reader x_9, cown go_6 (rU UInt8) x_5 (List.length x_5) gc_7, cvar gb_1 (rW (PTR gb_4 0)) ()], []⟩ ?_
  refine JL.cons rfl (op_assign (ltB rfl) (.tmp rfl)) ?_
  refine JL.nil ?_
  refine JQ.then ?_
  refine JC.ret ?_
  replace hm := Option.some.inj hm
  subst hm
  exact JQ.done (js := [2, 0, 0]) (ss := [.val (S (rU UInt64) v_8)]) () (.inl rfl) (.nil rfl) rfl (.cons (.tmp rfl) .nil) rfl rfl rfl

theorem sim_wire_Reader_Failed'2 (k : Nat) (r_1 : wire_Reader) (gb_2 : Nat) (r : Bool) (hm : wire_Reader_Failed'2 k r_1 = some r) : Sim Try.prog 41 [PTR gb_2 0] [cvar gb_2 r_wire_Reader r_1] (γ := Unit) (fun q => [cvar gb_2 r_wire_Reader r_1]) (fun q => .one (.val (S rB r))) := by
  unfold wire_Reader_Failed'2 at hm
  refine Sim.of Try.func41 rfl rfl (Nat.le_of_ble_eq_true rfl) (fun e0 w0 => ?_)
  refine JC.at ⟨[(0, .one (.val (PTR gb_2 0)))], [cvar gb_2 r_wire_Reader r_1], []⟩ ?_
  refine JC.seq ?_
  refine JC.region ?_
  refine JL.cons rfl (op_assign (ltB rfl) .cB) ?_
  refine JL.nil ?_
  refine JQ.then ?_
  replace hm := bnd_inv hm
  obtain ⟨x_4, hx1, hq1⟩ := hm
  refine JC.seqJ (γ := Unit) (stj := fun q => ⟨[(2, .one (.val (S rB x_4)))], [cvar gb_2 r_wire_Reader r_1], []⟩) (fun q => ?_) ?_
  · obtain _ := q
    refine JC.at ⟨[(2, .one (.val (S rB x_4)))], [cvar gb_2 r_wire_Reader r_1], []⟩ ?_
    refine JC.ret ?_
    replace hq1 := Option.some.inj hq1
    subst hq1
    exact JQ.done (js := [0]) (ss := [.val (S rB x_4)]) () (.inl rfl) (.nil rfl) rfl (.cons (.tmp rfl) .nil) rfl rfl rfl
  · refine JC.region ?_
    refine JL.cons rfl (op_move (ltB rfl) (.tmp rfl)) ?_
    refine JL.cons rfl (op_nilP (neg := false) (ltB rfl) tu47 (.tmp rfl) (HasO.const (p := PTO none) fun _ => rfl)) ?_
    refine JL.cons rfl (op_move (ltB rfl) (.tmp rfl)) ?_
    refine JL.run (.yes rfl (ltB rfl) rfl rfl) (op_move (ltB rfl) (.tmp rfl)) ?_
    refine JL.run (.yes rfl (ltB rfl) rfl rfl) (op_nilCheck (ltB rfl) (.tmp rfl) (fun e v h => by subst h; rfl)) ?_
    refine JL.pre (Imp.sub (ρ' := [(2, .one (.val (S rB false))), (5, .one (.val (S rB false))), (7, .one (.val (PTR gb_2 0)))]) (.cons rfl (.cons rfl (.cons rfl .nil)))) ?_
    refine JL.at ⟨[(2, .one (.val (S rB false))), (5, .one (.val (S rB false))), (7, .one (.val (PTR gb_2 0)))], [cvar gb_2 r_wire_Reader r_1], []⟩ ?_
    refine JL.run (.yes rfl (ltB rfl) rfl rfl) (op_fieldAddr (off := 1) (ltB rfl) tf58_1 (.tmp rfl)) ?_
    refine JL.run (.yes rfl (ltB rfl) rfl rfl) (op_loadS (j := 0) (ltB rfl) tS4 (.tmp rfl) rfl (Comp.trans (Comp.self r_wire_Reader r_1) (comp_wire_Reader_is r_1) (Nat.le_of_ble_eq_true rfl)) rfl rfl) ?_
    replace hx1 := lt1_inv hx1
    obtain ⟨v_3, hv_v_3, hx1⟩ := hx1
    refine JL.run (.yes rfl (ltB rfl) rfl rfl) (op_not (ltB rfl) (.tmp rfl) hv_v_3) ?_
    refine JL.cons rfl (op_pickF (ltB rfl) (.tmp rfl) rfl (.tmp rfl)) ?_
    refine JL.cons rfl (op_assign (ltB rfl) (.tmp rfl)) ?_
    refine JL.nil ?_
    replace hx1 := Option.some.inj hx1
    first | subst hx1 | clear hx1
    exact JQ.join () (Imp.norm (js := [0]) rfl (.cons rfl .nil))

theorem sim_wire_Reader_take'2 (k : Nat) (n_1 : Int) (r_2 : wire_Reader) (gb_3 : Nat) (r : (List UInt8) × Bool × wire_Reader) (hm : wire_Reader_take'2 k n_1 r_2 = some r) : Sim Try.prog 34 [PTR gb_3 0, S (rI .i64) n_1] [cvar gb_3 r_wire_Reader r_2] (γ := Unit) (fun q => [cvar gb_3 r_wire_Reader r.2.2]) (fun q => .tup [.val (S (rL (rU UInt8)) r.1), .val (S rB r.2.1)]) := by
  unfold wire_Reader_take'2 at hm
  refine Sim.of Try.func34 rfl rfl (Nat.le_of_ble_eq_true rfl) (fun e0 w0 => ?_)
  refine JC.at ⟨[(0, .one (.val (PTR gb_3 0))), (1, .one (.val (S (rI .i64) n_1)))], [cvar gb_3 r_wire_Reader r_2], []⟩ ?_
  refine JC.seq ?_
  refine JC.region ?_
  refine JL.cons rfl (op_assign (ltB rfl) HasO.nilH) ?_
  refine JL.cons rfl (op_assign (ltB rfl) .cB) ?_
  refine JL.nil ?_
  refine JQ.then ?_
  refine JC.seq ?_
  refine JC.block ?_
  refine JC.seq ?_
  refine JC.region ?_
  refine JL.cons rfl (op_move (ltB rfl) (.tmp rfl)) ?_
  replace hm := bnd_inv hm
  obtain ⟨v_4, hv_v_4, hm⟩ := hm
  refine JL.consX rfl (op_call (js := [0]) (ltD rfl) cl41 (sim_wire_Reader_Failed'2 k r_2 gb_3 v_4 hv_v_4) .func (.cons (.tmp rfl) .nil) rfl) (fun _ => ?_)
  refine JL.pre (Imp.sub (ρ' := [(0, .one (.val (PTR gb_3 0))), (1, .one (.val (S (rI .i64) n_1))), (9, .one (.val (S rB v_4)))]) (.cons rfl (.cons rfl (.cons rfl .nil)))) ?_
  refine JL.at ⟨[(0, .one (.val (PTR gb_3 0))), (1, .one (.val (S (rI .i64) n_1))), (9, .one (.val (S rB v_4)))], [cvar gb_3 r_wire_Reader r_2], []⟩ ?_
  refine JL.cons rfl (op_assign (ltB rfl) (.tmp rfl)) ?_
  refine JL.nil ?_
  refine JQ.then ?_
  replace hm := iteB_inv hm
  rcases hm with ⟨hc1, hm⟩ | ⟨hc1, hm⟩
  · refine JC.condT (.tmp rfl) hc1 ?_
    refine JC.seq ?_
    refine JC.region ?_
    refine JL.cons rfl (op_assign (ltB rfl) HasO.nilH) ?_
    refine JL.cons rfl (op_assign (ltB rfl) .cB) ?_
    refine JL.nil ?_
    refine JQ.then ?_
    refine JC.ret ?_
    refine JQ.outRB ?_
    refine JQ.outR ?_
    replace hm := Option.some.inj hm
    subst hm
    refine JQ.pre (Imp.slot (s := 4) (q := S (rL (rU UInt8)) ([] : (List UInt8))) rfl wkNil) ?_
    exact JQ.done (js := [0]) (ss := [.val (S (rL (rU UInt8)) ([] : (List UInt8))), .val (S rB false)]) () (.inl rfl) (.nil rfl) rfl (.cons (.tmp rfl) (.cons (.tmp rfl) .nil)) rfl rfl rfl
  · refine JC.condF (.tmp rfl) hc1 ?_
    replace hm := bnd_inv hm
    obtain ⟨x_7, hx2, hq2⟩ := hm
    refine JC.seqJ (γ := Unit) (stj := fun q => ⟨[(0, .one (.val (PTR gb_3 0))), (1, .one (.val (S (rI .i64) n_1))), (10, .one (.val (S rB x_7)))], [cvar gb_3 r_wire_Reader r_2], []⟩) (fun q => ?_) ?_
    · obtain _ := q
      refine JC.at ⟨[(0, .one (.val (PTR gb_3 0))), (1, .one (.val (S (rI .i64) n_1))), (10, .one (.val (S rB x_7)))], [cvar gb_3 r_wire_Reader r_2], []⟩ ?_
      replace hq2 := iteB_inv hq2
      rcases hq2 with ⟨hc6, hq2⟩ | ⟨hc6, hq2⟩
      · refine JC.condT (.tmp rfl) hc6 ?_
        refine JC.seq ?_
        refine JC.region ?_
        refine JL.cons rfl (op_move (ltB rfl) (.tmp rfl)) ?_
        refine JL.cons rfl (op_build (ltB rfl) tZ58 zr58 tp58 (.S (off := 2) rfl .cB rfl ((UpdR.snd (UpdR.snd (UpdR.fst (UpdR.self (by rfl))))).at (by rfl)) .nil) rfl) ?_
        refine JL.cons rfl (op_nilCheck (ltB rfl) (.tmp rfl) (fun e v h => by subst h; rfl)) ?_
        refine JL.cons rfl (op_storeA (j := 0) tA58 (.tmp rfl) (.tmp rfl) rfl (UpdR.self (by rfl)) rfl) ?_
        refine JL.pre (Imp.sub (ρ' := []) .nil) ?_
        refine JL.at ⟨[], [cvar gb_3 (rP (rW (HDR none 0 0 0)) (rP rB (rP rB r0))) ((), (false, (true, ())))], []⟩ ?_
        refine JL.nil ?_
        refine JQ.then ?_
        refine JC.seq ?_
        refine JC.region ?_
        refine JL.cons rfl (op_assign (ltB rfl) HasO.nilH) ?_
        refine JL.cons rfl (op_assign (ltB rfl) .cB) ?_
        refine JL.nil ?_
        refine JQ.then ?_
        refine JC.ret ?_
        refine JQ.outRB ?_
        refine JQ.outR ?_
        replace hq2 := Option.some.inj hq2
        subst hq2
        refine JQ.pre (Imp.slot (s := 4) (q := S (rL (rU UInt8)) ([] : (List UInt8))) rfl wkNil) ?_
        refine JQ.pre (Imp.var (j := 0) (q := r_wire_Reader) (y := (wire_Reader.mk ([] : (List UInt8)) false true)) rfl (Wk.st (Wk.pair Wk.nil (Wk.pair Wk.refl (Wk.pair Wk.refl Wk.refl))))) ?_
        exact JQ.done (js := [0]) (ss := [.val (S (rL (rU UInt8)) ([] : (List UInt8))), .val (S rB false)]) () (.inl rfl) (.nil rfl) rfl (.cons (.tmp rfl) (.cons (.tmp rfl) .nil)) rfl rfl rfl
      · refine JC.condF (.tmp rfl) hc6 ?_
        refine JC.skip ?_
        refine JQ.outNB ?_
        refine JQ.then ?_
        refine JC.seq ?_
        refine JC.region ?_
        refine JL.cons rfl (op_move (ltB rfl) (.tmp rfl)) ?_
        refine JL.cons rfl (op_nilCheck (ltB rfl) (.tmp rfl) (fun e v h => by subst h; rfl)) ?_
        refine JL.cons rfl (op_fieldAddr (off := 0) (ltB rfl) tf58_0 (.tmp rfl)) ?_
        refine JL.cons rfl (op_loadS (j := 0) (ltB rfl) tS22 (.tmp rfl) rfl (Comp.trans (Comp.self r_wire_Reader r_2) (comp_wire_Reader_rest r_2) (Nat.le_of_ble_eq_true rfl)) rfl rfl) ?_
        refine JL.cons rfl (op_move (ltB rfl) (.tmp rfl)) ?_
        refine JL.cons rfl (op_move (ltB rfl) (.tmp rfl)) ?_
        refine JL.pre (Imp.sub (ρ' := [(0, .one (.val (PTR gb_3 0))), (1, .one (.val (S (rI .i64) n_1))), (28, .one (.val (S (rL (rU UInt8)) r_2.rest))), (29, .one (.val (S (rI .i64) n_1))), (30, .one (.val (S (rI .i64) n_1)))]) (.cons rfl (.cons rfl (.cons rfl (.cons rfl (.cons rfl .nil)))))) ?_
        refine JL.at ⟨[(0, .one (.val (PTR gb_3 0))), (1, .one (.val (S (rI .i64) n_1))), (28, .one (.val (S (rL (rU UInt8)) r_2.rest))), (29, .one (.val (S (rI .i64) n_1))), (30, .one (.val (S (rI .i64) n_1)))], [cvar gb_3 r_wire_Reader r_2], []⟩ ?_
        replace hq2 := bnd_inv hq2
        obtain ⟨v_8, hv_v_8, hq2⟩ := hq2
        refine JL.cons rfl (op_sliceLcg (ltB rfl) tu22 tz5 (.tmp rfl) .none (.some (.tmp rfl)) (.some (.tmp rfl)) hv_v_8) ?_
        refine JL.cons rfl (op_assign (ltB rfl) (.tmp rfl)) ?_
        refine JL.nil ?_
        refine JQ.then ?_
        refine JC.seq ?_
        refine JC.region ?_
        refine JL.cons rfl (op_move (ltB rfl) (.tmp rfl)) ?_
        refine JL.cons rfl (op_move (ltB rfl) (.tmp rfl)) ?_
        refine JL.cons rfl (op_nilCheck (ltB rfl) (.tmp rfl) (fun e v h => by subst h; rfl)) ?_
        refine JL.cons rfl (op_fieldAddr (off := 0) (ltB rfl) tf58_0 (.tmp rfl)) ?_
        refine JL.pre (Imp.sub (ρ' := [(1, .one (.val (S (rI .i64) n_1))), (6, .one (.val (S (rLc (rU UInt8)) v_8))), (32, .one (.val (PTR gb_3 0))), (35, .one (.val (PTR gb_3 (0 + 0))))]) (.cons rfl (.cons rfl (.cons rfl (.cons rfl .nil))))) ?_
        refine JL.at ⟨[(1, .one (.val (S (rI .i64) n_1))), (6, .one (.val (S (rLc (rU UInt8)) v_8))), (32, .one (.val (PTR gb_3 0))), (35, .one (.val (PTR gb_3 (0 + 0))))], [cvar gb_3 r_wire_Reader r_2], []⟩ ?_
        refine JL.cons rfl (op_loadS (j := 0) (ltB rfl) tS22 (.tmp rfl) rfl (Comp.trans (Comp.self r_wire_Reader r_2) (comp_wire_Reader_rest r_2) (Nat.le_of_ble_eq_true rfl)) rfl rfl) ?_
        refine JL.cons rfl (op_move (ltB rfl) (.tmp rfl)) ?_
        replace hq2 := bnd_inv hq2
        obtain ⟨v_9, hv_v_9, hq2⟩ := hq2
        refine JL.cons rfl (op_sliceLg (ltB rfl) tu22 tz5 (.tmp rfl) (.some (.tmp rfl)) .none hv_v_9) ?_
        refine JL.cons rfl (op_nilCheck (ltB rfl) (.tmp rfl) (fun e v h => by subst h; rfl)) ?_
        refine JL.cons rfl (op_fieldAddr (off := 0) (ltB rfl) tf58_0 (.tmp rfl)) ?_
        replace hq2 := lt1_inv hq2
        obtain ⟨x_10, hv_x_10, hq2⟩ := hq2
        refine JL.cons rfl (op_storeS (j := 0) tS22 (.tmp rfl) (.tmp rfl) rfl rfl (Upd.trans (Comp.self r_wire_Reader r_2) (Upd.self r_wire_Reader r_2 _) (upd_wire_Reader_rest r_2 v_9)).R hv_x_10) ?_
        refine JL.pre (Imp.sub (ρ' := [(6, .one (.val (S (rLc (rU UInt8)) v_8)))]) (.cons rfl .nil)) ?_
        refine JL.at ⟨[(6, .one (.val (S (rLc (rU UInt8)) v_8)))], [cvar gb_3 r_wire_Reader x_10], []⟩ ?_
        refine JL.nil ?_
        refine JQ.then ?_
        refine JC.seq ?_
        refine JC.region ?_
        refine JL.cons rfl (op_move (ltB rfl) (.tmp rfl)) ?_
        refine JL.cons rfl (op_assign (ltB rfl) (.tmp rfl)) ?_
        refine JL.cons rfl (op_assign (ltB rfl) .cB) ?_
        refine JL.nil ?_
        refine JQ.then ?_
        refine JC.ret ?_
        replace hq2 := Option.some.inj hq2
        subst hq2
        refine JQ.pre (Imp.slotS (s := 4) rfl Wk.clip) ?_
        exact JQ.done (js := [0]) (ss := [.val (S (rL (rU UInt8)) v_8), .val (S rB true)]) () (.inl rfl) (.nil rfl) rfl (.cons (.tmp rfl) (.cons (.tmp rfl) .nil)) rfl rfl rfl
    · refine JC.region ?_
      refine JL.cons rfl (op_move (ltB rfl) (.tmp rfl)) ?_
      replace hx2 := lt1_inv hx2
      obtain ⟨v_5, hv_v_5, hx2⟩ := hx2
      refine JL.cons rfl (op_cmpI (ltB rfl) (.tmp rfl) .cI (congrArg some hv_v_5)) ?_
      refine JL.cons rfl (op_move (ltB rfl) (.tmp rfl)) ?_
      refine JL.cnd (sv := .one (.val (S (rI .i64) n_1))) (Guard.isF (ltB rfl) rfl rfl) rfl (ltB rfl) (fun hq_3 => op_move (ltB rfl) (.tmp rfl)) ?_
      replace hx2 := iteB_inv hx2
      rcases hx2 with ⟨hc5, hx2⟩ | ⟨hc5, hx2⟩
      · refine JL.skip (.no rfl (ltB rfl) rfl hc5) (fun d h => by cases h; exact ltB rfl) ?_
        refine JL.skip (.no rfl (ltB rfl) rfl hc5) (fun d h => by cases h; exact ltB rfl) ?_
        refine JL.skip (.no rfl (ltB rfl) rfl hc5) (fun d h => by cases h; exact ltB rfl) ?_
        refine JL.skip (.no rfl (ltB rfl) rfl hc5) (fun d h => by cases h; exact ltB rfl) ?_
        refine JL.skip (.no rfl (ltB rfl) rfl hc5) (fun d h => by cases h; exact ltB rfl) ?_
        refine JL.skip (.no rfl (ltB rfl) rfl hc5) (fun d h => by cases h; exact ltB rfl) ?_
        refine JL.cons rfl (op_pickT (ltB rfl) (.tmp rfl) hc5 .cB) ?_
        refine JL.pre (Imp.sub (ρ' := [(0, .one (.val (PTR gb_3 0))), (1, .one (.val (S (rI .i64) n_1))), (21, .one (.val (S rB true)))]) (.cons rfl (.cons rfl (.cons rfl .nil)))) ?_
        refine JL.at ⟨[(0, .one (.val (PTR gb_3 0))), (1, .one (.val (S (rI .i64) n_1))), (21, .one (.val (S rB true)))], [cvar gb_3 r_wire_Reader r_2], []⟩ ?_
        refine JL.cons rfl (op_assign (ltB rfl) (.tmp rfl)) ?_
        refine JL.nil ?_
        replace hx2 := Option.some.inj hx2
        first | subst hx2 | clear hx2
        exact JQ.join () (Imp.norm (js := [0]) rfl (.cons rfl (.cons rfl (.cons rfl .nil))))
      · refine JL.run (.yes rfl (ltB rfl) rfl hc5) (op_move (ltB rfl) (.tmp rfl)) ?_
        refine JL.pre (Imp.sub (ρ' := [(0, .one (.val (PTR gb_3 0))), (1, .one (.val (S (rI .i64) n_1))), (13, .one (.val (S rB v_5))), (14, bif (!v_5) then .one (.val (S (rI .i64) n_1)) else .one .und), (15, .one (.val (PTR gb_3 0)))]) (.cons rfl (.cons rfl (.cons rfl (.cons rfl (.cons rfl .nil)))))) ?_
        refine JL.at ⟨[(0, .one (.val (PTR gb_3 0))), (1, .one (.val (S (rI .i64) n_1))), (13, .one (.val (S rB v_5))), (14, bif (!v_5) then .one (.val (S (rI .i64) n_1)) else .one .und), (15, .one (.val (PTR gb_3 0)))], [cvar gb_3 r_wire_Reader r_2], []⟩ ?_
        refine JL.run (.yes rfl (ltB rfl) rfl hc5) (op_nilCheck (ltB rfl) (.tmp rfl) (fun e v h => by subst h; rfl)) ?_
        refine JL.run (.yes rfl (ltB rfl) rfl hc5) (op_fieldAddr (off := 0) (ltB rfl) tf58_0 (.tmp rfl)) ?_
        refine JL.run (.yes rfl (ltB rfl) rfl hc5) (op_loadS (j := 0) (ltB rfl) tS22 (.tmp rfl) rfl (Comp.trans (Comp.self r_wire_Reader r_2) (comp_wire_Reader_rest r_2) (Nat.le_of_ble_eq_true rfl)) rfl rfl) ?_
        refine JL.run (.yes rfl (ltB rfl) rfl hc5) (op_lenL (ltB rfl) tu22 (.tmp rfl)) ?_
        replace hx2 := lt1_inv hx2
        obtain ⟨v_6, hv_v_6, hx2⟩ := hx2
        refine JL.run (.yes rfl (ltB rfl) rfl hc5) (op_cmpI (ltB rfl) (HasO.cnd (.tmp rfl) (notT hc5)) (.tmp rfl) (congrArg some hv_v_6)) ?_
        refine JL.cons rfl (op_pickF (ltB rfl) (.tmp rfl) hc5 (.tmp rfl)) ?_
        refine JL.pre (Imp.sub (ρ' := [(0, .one (.val (PTR gb_3 0))), (1, .one (.val (S (rI .i64) n_1))), (21, .one (.val (S rB v_6)))]) (.cons rfl (.cons rfl (.cons rfl .nil)))) ?_
        refine JL.at ⟨[(0, .one (.val (PTR gb_3 0))), (1, .one (.val (S (rI .i64) n_1))), (21, .one (.val (S rB v_6)))], [cvar gb_3 r_wire_Reader r_2], []⟩ ?_
        refine JL.cons rfl (op_assign (ltB rfl) (.tmp rfl)) ?_
        refine JL.nil ?_
        replace hx2 := Option.some.inj hx2
        first | subst hx2 | clear hx2
        exact JQ.join () (Imp.norm (js := [0]) rfl (.cons rfl (.cons rfl (.cons rfl .nil))))

end Go.Proofs.Ytnhiiabdoichlaa
