/- Walks. -/
import Derived.Test.YtnhiiabdoichlaaT
import Derived.Test.YtnhiiabdoichlaaW3
namespace Go.Proofs.Ytnhiiabdoichlaa
open Go Fw
set_option linter.unusedVariables false
set_option maxRecDepth 100000
set_option maxHeartbeats 4000000

theorem sim_slices_Concatbyte_byte (k : Nat) (slices_1 : (List (List UInt8))) (r : (List UInt8)) (hm : slices_Concatbyte_byte k slices_1 = some r) : Sim Try.prog 49 [S (rL (rL (rU UInt8))) slices_1] [] (γ := Option Nat × Nat) (fun q => [cown q.1 (rU UInt8) r 0 q.2]) (fun q => .one (.val (HDR q.1 0 (List.length r) q.2))) := by
  unfold slices_Concatbyte_byte at hm
  refine Sim.of Try.func49 rfl rfl (Nat.le_of_ble_eq_true rfl) (fun e0 w0 => ?_)
  refine JC.at ⟨[(0, .one (.val (S (rL (rL (rU UInt8))) slices_1)))], [], []⟩ ?_
  refine JC.seq ?_
  refine JC.region ?_
  refine JL.cons rfl (op_assign (ltB rfl) HasO.nilH) ?_
  refine JL.nil ?_
  refine JQ.then ?_
  refine JC.seq ?_
  refine JC.region ?_
  refine JL.cons rfl (op_assign (ltB rfl) .cI) ?_
  refine JL.nil ?_
  refine JQ.then ?_
  replace hm := bnd_inv hm
  obtain ⟨size_10, hx1, hq1⟩ := hm
  refine JC.seqJ (γ := Unit) (stj := fun q => ⟨[(0, .one (.val (S (rL (rL (rU UInt8))) slices_1))), (3, .one (.val (S (rI .i64) size_10)))], [], []⟩) (fun q => ?_) ?_
  · obtain _ := q
    refine JC.at ⟨[(0, .one (.val (S (rL (rL (rU UInt8))) slices_1))), (3, .one (.val (S (rI .i64) size_10)))], [], []⟩ ?_
    refine JC.seq ?_
    refine JC.region ?_
    refine JL.cons rfl (op_move (ltB rfl) (.tmp rfl)) ?_
    replace hq1 := bnd_inv hq1
    obtain ⟨_, hv_u_13, hq1⟩ := hq1
    refine JL.consX rfl (op_call (js := []) (ltD rfl) cl61 (sim_slices_Growbyte_byte k size_10 () hv_u_13) .func (.cons HasO.nilH (.cons (.tmp rfl) .nil)) rfl) (fun q => ?_)
    obtain ⟨go_11, gc_12⟩ := q
    refine JL.pre (Imp.sub (ρ' := [(0, .one (.val (S (rL (rL (rU UInt8))) slices_1))), (24, .one (.val (HDR go_11 0 (List.length ([] : (List UInt8))) gc_12)))]) (.cons rfl (.cons rfl .nil))) ?_
    refine JL.at ⟨[(0, .one (.val (S (rL (rL (rU UInt8))) slices_1))), (24, .one (.val (HDR go_11 0 (List.length ([] : (List UInt8))) gc_12)))], [cown go_11 (rU UInt8) ([] : (List UInt8)) 0 gc_12], []⟩ ?_
    refine JL.cons rfl (op_assign (ltB rfl) (.tmp rfl)) ?_
    refine JL.nil ?_
    refine JQ.then ?_
    replace hq1 := bnd_inv hq1
    obtain ⟨newslice_24, hx6, hq6⟩ := hq1
    refine JC.seqJ (γ := Option Nat × Nat) (stj := fun q => ⟨[(6, .one (.val (HDR q.1 0 (List.length newslice_24) q.2)))], [cown q.1 (rU UInt8) newslice_24 0 q.2], []⟩) (fun q => ?_) ?_
    · obtain ⟨go_25, gc_26⟩ := q
      refine JC.at ⟨[(6, .one (.val (HDR go_25 0 (List.length newslice_24) gc_26)))], [cown go_25 (rU UInt8) newslice_24 0 gc_26], []⟩ ?_
      refine JC.seq ?_
      refine JC.region ?_
      refine JL.cons rfl (op_move (ltB rfl) (.tmp rfl)) ?_
      refine JL.cons rfl (op_assign (ltB rfl) (.tmp rfl)) ?_
      refine JL.nil ?_
      refine JQ.then ?_
      refine JC.ret ?_
      replace hq6 := Option.some.inj hq6
      subst hq6
      exact JQ.done (js := [0]) (ss := [.val (HDR go_25 0 (List.length newslice_24) gc_26)]) (go_25, gc_26) (.inl rfl) (.nil rfl) rfl (.cons (.tmp rfl) .nil) rfl rfl rfl
    · refine JC.seq ?_
      refine JC.region ?_
      refine JL.cons rfl (op_move (ltB rfl) (.tmp rfl)) ?_
      refine JL.cons rfl (op_lenL (ltB rfl) tu65 (.tmp rfl)) ?_
      refine JL.cons rfl (op_move (ltB rfl) .cI) ?_
      refine JL.nil ?_
      refine JQ.then ?_
      refine JC.block ?_
      refine JC.pre ?_ (JC.loop (γ := Option Nat × Nat) (stf := fun s q => ⟨[(6, .one (.val (HDR q.1 0 (List.length s.1) q.2))), (25, .one (.val (S (rL (rL (rU UInt8))) slices_1))), (26, .one (.val (S (rI .i64) (List.length slices_1 : Int)))), (27, .one (.val (S (rI .i64) s.2)))], [cown q.1 (rU UInt8) s.1 0 q.2], []⟩) (q := (go_11, gc_12)) hx6 ?_)
      · exact (Imp.norm (js := [0]) rfl (.cons rfl (.cons rfl (.cons rfl (.cons rfl .nil)))))
      · intro s q x hx hr
        obtain ⟨newslice_14, x_15⟩ := s
        obtain ⟨go_16, gc_17⟩ := q
        change slices_Concatbyte_byte.b2 k slices_1 newslice_14 x_15 = some x at hx
        unfold slices_Concatbyte_byte.b2 at hx
        refine JC.at ⟨[(6, .one (.val (HDR go_16 0 (List.length newslice_14) gc_17))), (25, .one (.val (S (rL (rL (rU UInt8))) slices_1))), (26, .one (.val (S (rI .i64) (List.length slices_1 : Int)))), (27, .one (.val (S (rI .i64) x_15)))], [cown go_16 (rU UInt8) newslice_14 0 gc_17], []⟩ ?_
        refine JC.seq ?_
        refine JC.region ?_
        replace hx := lt1_inv hx
        obtain ⟨v_18, hv_v_18, hx⟩ := hx
        refine JL.cons rfl (op_cmpI (ltB rfl) (.tmp rfl) (.tmp rfl) (congrArg some hv_v_18)) ?_
        refine JL.nil ?_
        refine JQ.then ?_
        refine JC.seq ?_
        replace hx := iteB_inv hx
        rcases hx with ⟨hc8, hx⟩ | ⟨hc8, hx⟩
        · refine JC.condT (.tmp rfl) hc8 ?_
          refine JC.skip ?_
          refine JQ.then ?_
          refine JC.seq ?_
          refine JC.block ?_
          refine JC.seq ?_
          refine JC.region ?_
          replace hx := bnd_inv hx
          obtain ⟨v_19, hv_v_19, hx⟩ := hx
          refine JL.cons rfl (op_indexAddrLg (ltB rfl) tu65 tz22 (.tmp rfl) (.tmp rfl) hv_v_19) ?_
          refine JL.cons rfl (op_loadPSg (ltB rfl) tS22 rfl (.tmp rfl) rfl) ?_
          refine JL.cons rfl (op_assign (ltB rfl) (.tmp rfl)) ?_
          refine JL.nil ?_
          refine JQ.then ?_
          refine JC.region ?_
          refine JL.cons rfl (op_move (ltB rfl) (.tmp rfl)) ?_
          refine JL.cons rfl (op_move (ltB rfl) (.tmp rfl)) ?_
          refine JL.pre (Imp.sub (ρ' := [(6, .one (.val (HDR go_16 0 (List.length newslice_14) gc_17))), (25, .one (.val (S (rL (rL (rU UInt8))) slices_1))), (26, .one (.val (S (rI .i64) (List.length slices_1 : Int)))), (27, .one (.val (S (rI .i64) x_15))), (31, .one (.val (HDR go_16 0 (List.length newslice_14) gc_17))), (32, .one (.val (S (rL (rU UInt8)) v_19)))]) (.cons rfl (.cons rfl (.cons rfl (.cons rfl (.cons rfl (.cons rfl .nil))))))) ?_
          refine JL.at ⟨[(6, .one (.val (HDR go_16 0 (List.length newslice_14) gc_17))), (25, .one (.val (S (rL (rL (rU UInt8))) slices_1))), (26, .one (.val (S (rI .i64) (List.length slices_1 : Int)))), (27, .one (.val (S (rI .i64) x_15))), (31, .one (.val (HDR go_16 0 (List.length newslice_14) gc_17))), (32, .one (.val (S (rL (rU UInt8)) v_19)))], [cown go_16 (rU UInt8) newslice_14 0 gc_17], []⟩ ?_
          replace hx := bnd_inv hx
          obtain ⟨newslice_20, hv_newslice_20, hx⟩ := hx
          refine JL.consX rfl (op_appendL (j := 0) (ltB rfl) tu22 tu22 rfl tB5 rfl (Nat.lt_of_lt_of_le Nat.zero_lt_one (Nat.le_of_ble_eq_true rfl)) (Nat.lt_of_lt_of_le Nat.zero_lt_one (Nat.le_of_ble_eq_true rfl))  rfl (.tmp rfl) (.tmp rfl) hv_newslice_20) (fun q => ?_)
          obtain ⟨go_21, gc_22⟩ := q
          refine JL.pre (Imp.sub (ρ' := [(25, .one (.val (S (rL (rL (rU UInt8))) slices_1))), (26, .one (.val (S (rI .i64) (List.length slices_1 : Int)))), (27, .one (.val (S (rI .i64) x_15))), (33, .one (.val (HDR go_21 0 (List.length newslice_20) gc_22)))]) (.cons rfl (.cons rfl (.cons rfl (.cons rfl .nil))))) ?_
          refine JL.at ⟨[(25, .one (.val (S (rL (rL (rU UInt8))) slices_1))), (26, .one (.val (S (rI .i64) (List.length slices_1 : Int)))), (27, .one (.val (S (rI .i64) x_15))), (33, .one (.val (HDR go_21 0 (List.length newslice_20) gc_22)))], [cown go_21 (rU UInt8) newslice_20 0 gc_22], []⟩ ?_
          refine JL.cons rfl (op_assign (ltB rfl) (.tmp rfl)) ?_
          refine JL.nil ?_
          refine JQ.outNB ?_
          refine JQ.then ?_
          refine JC.region ?_
          replace hx := lt1_inv hx
          obtain ⟨v_23, hv_v_23, hx⟩ := hx
          refine JL.cons rfl (op_arI (ltB rfl) (.tmp rfl) .cI (congrArg some hv_v_23)) ?_
          refine JL.cons rfl (op_move (ltB rfl) (.tmp rfl)) ?_
          refine JL.nil ?_
          replace hx := Option.some.inj hx
          first | subst hx | clear hx
          exact JQ.next (go_21, gc_22) rfl (Imp.norm (js := [0]) rfl (.cons rfl (.cons rfl (.cons rfl (.cons rfl .nil)))))
        · refine JC.condF (.tmp rfl) hc8 ?_
          refine JC.exit ?_
          refine JQ.outX ?_
          replace hx := Option.some.inj hx
          first | subst hx | clear hx
          have ht := hr _ rfl
          have hq7 := congrArg some ht
          clear hr ht
          refine JQ.outX ?_
          refine JQ.here ?_
          replace hq7 := Option.some.inj hq7
          first | subst hq7 | clear hq7
          exact JQ.join (go_16, gc_17) (Imp.norm (js := [0]) rfl (.cons rfl .nil))
  · refine JC.seq ?_
    refine JC.region ?_
    refine JL.cons rfl (op_move (ltB rfl) (.tmp rfl)) ?_
    refine JL.cons rfl (op_lenL (ltB rfl) tu65 (.tmp rfl)) ?_
    refine JL.cons rfl (op_move (ltB rfl) .cI) ?_
    refine JL.nil ?_
    refine JQ.then ?_
    refine JC.block ?_
    refine JC.pre ?_ (JC.loop (γ := Unit) (stf := fun s q => ⟨[(0, .one (.val (S (rL (rL (rU UInt8))) slices_1))), (3, .one (.val (S (rI .i64) s.1))), (9, .one (.val (S (rL (rL (rU UInt8))) slices_1))), (10, .one (.val (S (rI .i64) (List.length slices_1 : Int)))), (11, .one (.val (S (rI .i64) s.2)))], [], []⟩) (q := ()) hx1 ?_)
    · exact (Imp.norm (js := []) rfl (.cons rfl (.cons rfl (.cons rfl (.cons rfl (.cons rfl .nil))))))
    · intro s q x hx hr
      obtain ⟨size_2, x_3⟩ := s
      obtain _ := q
      change slices_Concatbyte_byte.b1 k slices_1 size_2 x_3 = some x at hx
      unfold slices_Concatbyte_byte.b1 at hx
      refine JC.at ⟨[(0, .one (.val (S (rL (rL (rU UInt8))) slices_1))), (3, .one (.val (S (rI .i64) size_2))), (9, .one (.val (S (rL (rL (rU UInt8))) slices_1))), (10, .one (.val (S (rI .i64) (List.length slices_1 : Int)))), (11, .one (.val (S (rI .i64) x_3)))], [], []⟩ ?_
      refine JC.seq ?_
      refine JC.region ?_
      replace hx := lt1_inv hx
      obtain ⟨v_4, hv_v_4, hx⟩ := hx
      refine JL.cons rfl (op_cmpI (ltB rfl) (.tmp rfl) (.tmp rfl) (congrArg some hv_v_4)) ?_
      refine JL.nil ?_
      refine JQ.then ?_
      refine JC.seq ?_
      replace hx := iteB_inv hx
      rcases hx with ⟨hc3, hx⟩ | ⟨hc3, hx⟩
      · refine JC.condT (.tmp rfl) hc3 ?_
        refine JC.skip ?_
        refine JQ.then ?_
        replace hx := bnd_inv hx
        obtain ⟨size_8, hx4, hq4⟩ := hx
        refine JC.seqJ (γ := Unit) (stj := fun q => ⟨[(0, .one (.val (S (rL (rL (rU UInt8))) slices_1))), (3, .one (.val (S (rI .i64) size_8))), (9, .one (.val (S (rL (rL (rU UInt8))) slices_1))), (10, .one (.val (S (rI .i64) (List.length slices_1 : Int)))), (11, .one (.val (S (rI .i64) x_3)))], [], []⟩) (fun q => ?_) ?_
        · obtain _ := q
          refine JC.at ⟨[(0, .one (.val (S (rL (rL (rU UInt8))) slices_1))), (3, .one (.val (S (rI .i64) size_8))), (9, .one (.val (S (rL (rL (rU UInt8))) slices_1))), (10, .one (.val (S (rI .i64) (List.length slices_1 : Int)))), (11, .one (.val (S (rI .i64) x_3)))], [], []⟩ ?_
          refine JC.region ?_
          replace hq4 := lt1_inv hq4
          obtain ⟨v_9, hv_v_9, hq4⟩ := hq4
          refine JL.cons rfl (op_arI (ltB rfl) (.tmp rfl) .cI (congrArg some hv_v_9)) ?_
          refine JL.cons rfl (op_move (ltB rfl) (.tmp rfl)) ?_
          refine JL.nil ?_
          replace hq4 := Option.some.inj hq4
          first | subst hq4 | clear hq4
          exact JQ.next () rfl (Imp.norm (js := []) rfl (.cons rfl (.cons rfl (.cons rfl (.cons rfl (.cons rfl .nil))))))
        · refine JC.block ?_
          refine JC.seq ?_
          refine JC.region ?_
          replace hx4 := bnd_inv hx4
          obtain ⟨v_5, hv_v_5, hx4⟩ := hx4
          refine JL.cons rfl (op_indexAddrLg (ltB rfl) tu65 tz22 (.tmp rfl) (.tmp rfl) hv_v_5) ?_
          refine JL.cons rfl (op_loadPSg (ltB rfl) tS22 rfl (.tmp rfl) rfl) ?_
          refine JL.cons rfl (op_assign (ltB rfl) (.tmp rfl)) ?_
          refine JL.nil ?_
          refine JQ.then ?_
          refine JC.seq ?_
          refine JC.region ?_
          refine JL.cons rfl (op_move (ltB rfl) (.tmp rfl)) ?_
          refine JL.cons rfl (op_move (ltB rfl) (.tmp rfl)) ?_
          refine JL.pre (Imp.sub (ρ' := [(0, .one (.val (S (rL (rL (rU UInt8))) slices_1))), (3, .one (.val (S (rI .i64) size_2))), (9, .one (.val (S (rL (rL (rU UInt8))) slices_1))), (10, .one (.val (S (rI .i64) (List.length slices_1 : Int)))), (11, .one (.val (S (rI .i64) x_3))), (15, .one (.val (S (rI .i64) size_2))), (16, .one (.val (S (rL (rU UInt8)) v_5)))]) (.cons rfl (.cons rfl (.cons rfl (.cons rfl (.cons rfl (.cons rfl (.cons rfl .nil)))))))) ?_
          refine JL.at ⟨[(0, .one (.val (S (rL (rL (rU UInt8))) slices_1))), (3, .one (.val (S (rI .i64) size_2))), (9, .one (.val (S (rL (rL (rU UInt8))) slices_1))), (10, .one (.val (S (rI .i64) (List.length slices_1 : Int)))), (11, .one (.val (S (rI .i64) x_3))), (15, .one (.val (S (rI .i64) size_2))), (16, .one (.val (S (rL (rU UInt8)) v_5)))], [], []⟩ ?_
          refine JL.cons rfl (op_lenL (ltB rfl) tu22 (.tmp rfl)) ?_
          replace hx4 := lt1_inv hx4
          obtain ⟨v_6, hv_v_6, hx4⟩ := hx4
          refine JL.cons rfl (op_arI (ltB rfl) (.tmp rfl) (.tmp rfl) (congrArg some hv_v_6)) ?_
          refine JL.cons rfl (op_assign (ltB rfl) (.tmp rfl)) ?_
          refine JL.nil ?_
          refine JQ.then ?_
          refine JC.seq ?_
          refine JC.region ?_
          refine JL.cons rfl (op_move (ltB rfl) (.tmp rfl)) ?_
          replace hx4 := lt1_inv hx4
          obtain ⟨v_7, hv_v_7, hx4⟩ := hx4
          refine JL.cons rfl (op_cmpI (ltB rfl) (.tmp rfl) .cI (congrArg some hv_v_7)) ?_
          refine JL.nil ?_
          refine JQ.then ?_
          replace hx4 := iteB_inv hx4
          rcases hx4 with ⟨hc5, hx4⟩ | ⟨hc5, hx4⟩
          · refine JC.condT (.tmp rfl) hc5 ?_
            refine JC.region ?_
            cases hx4
          · refine JC.condF (.tmp rfl) hc5 ?_
            refine JC.skip ?_
            refine JQ.outNB ?_
            replace hx4 := Option.some.inj hx4
            first | subst hx4 | clear hx4
            exact JQ.join () (Imp.norm (js := []) rfl (.cons rfl (.cons rfl (.cons rfl (.cons rfl (.cons rfl .nil))))))
      · refine JC.condF (.tmp rfl) hc3 ?_
        refine JC.exit ?_
        refine JQ.outX ?_
        replace hx := Option.some.inj hx
        first | subst hx | clear hx
        have ht := hr _ rfl
        have hq2 := congrArg some ht
        clear hr ht
        refine JQ.outX ?_
        refine JQ.here ?_
        replace hq2 := Option.some.inj hq2
        first | subst hq2 | clear hq2
        exact JQ.join () (Imp.norm (js := []) rfl (.cons rfl (.cons rfl .nil)))

theorem sim_math_bits_RotateLeft32 (k : Nat) (x_1 : UInt32) (k_2 : Int) (r : UInt32) (hm : math_bits_RotateLeft32 k x_1 k_2 = some r) : Sim Try.prog 63 [S (rU UInt32) x_1, S (rI .i64) k_2] [] (γ := Unit) (fun q => []) (fun q => .one (.val (S (rU UInt32) r))) := by
  unfold math_bits_RotateLeft32 at hm
  refine Sim.of Try.func63 rfl rfl (Nat.le_of_ble_eq_true rfl) (fun e0 w0 => ?_)
  refine JC.at ⟨[(0, .one (.val (S (rU UInt32) x_1))), (1, .one (.val (S (rI .i64) k_2)))], [], []⟩ ?_
  refine JC.seq ?_
  refine JC.region ?_
  refine JL.cons rfl (op_assign (ltB rfl) (HasO.cU (x := (0 : UInt32)) rfl (by decide))) ?_
  refine JL.nil ?_
  refine JQ.then ?_
  refine JC.seq ?_
  refine JC.region ?_
  refine JL.cons rfl (op_move (ltB rfl) (.tmp rfl)) ?_
  replace hm := lt1_inv hm
  obtain ⟨v_3, hv_v_3, hm⟩ := hm
  refine JL.cons rfl (op_convIU (ltB rfl) tu3 tu80 (.tmp rfl) hv_v_3) ?_
  replace hm := lt1_inv hm
  obtain ⟨v_4, hv_v_4, hm⟩ := hm
  refine JL.cons rfl (op_arU (ltB rfl) (.tmp rfl) (HasO.cU (x := (31 : UInt64)) rfl (by decide)) (congrArg some hv_v_4)) ?_
  refine JL.cons rfl (op_assign (ltB rfl) (.tmp rfl)) ?_
  refine JL.nil ?_
  refine JQ.then ?_
  refine JC.seq ?_
  refine JC.region ?_
  refine JL.cons rfl (op_move (ltB rfl) (.tmp rfl)) ?_
  refine JL.pre (Imp.sub (ρ' := [(0, .one (.val (S (rU UInt32) x_1))), (4, .one (.val (S (rU UInt32) (0 : UInt32)))), (5, .one (.val (S (rU UInt64) v_4))), (9, .one (.val (S (rU UInt32) x_1)))]) (.cons rfl (.cons rfl (.cons rfl (.cons rfl .nil))))) ?_
  refine JL.at ⟨[(0, .one (.val (S (rU UInt32) x_1))), (4, .one (.val (S (rU UInt32) (0 : UInt32)))), (5, .one (.val (S (rU UInt64) v_4))), (9, .one (.val (S (rU UInt32) x_1)))], [], []⟩ ?_
  refine JL.cons rfl (op_move (ltB rfl) (.tmp rfl)) ?_
  replace hm := lt1_inv hm
  obtain ⟨v_5, hv_v_5, hm⟩ := hm
  refine JL.cons rfl (op_shlUU (ltB rfl) (.tmp rfl) (.tmp rfl) hv_v_5) ?_
  refine JL.cons rfl (op_move (ltB rfl) (.tmp rfl)) ?_
  refine JL.cons rfl (op_move (ltB rfl) (.tmp rfl)) ?_
  replace hm := lt1_inv hm
  obtain ⟨v_6, hv_v_6, hm⟩ := hm
  refine JL.cons rfl (op_arU (ltB rfl) (HasO.cU (x := (32 : UInt64)) rfl (by decide)) (.tmp rfl) (congrArg some hv_v_6)) ?_
  replace hm := lt1_inv hm
  obtain ⟨v_7, hv_v_7, hm⟩ := hm
  refine JL.cons rfl (op_shrUU (ltB rfl) (.tmp rfl) (.tmp rfl) hv_v_7) ?_
  refine JL.pre (Imp.sub (ρ' := [(4, .one (.val (S (rU UInt32) (0 : UInt32)))), (11, .one (.val (S (rU UInt32) v_5))), (15, .one (.val (S (rU UInt32) v_7)))]) (.cons rfl (.cons rfl (.cons rfl .nil)))) ?_
  refine JL.at ⟨[(4, .one (.val (S (rU UInt32) (0 : UInt32)))), (11, .one (.val (S (rU UInt32) v_5))), (15, .one (.val (S (rU UInt32) v_7)))], [], []⟩ ?_
  replace hm := lt1_inv hm
  obtain ⟨v_8, hv_v_8, hm⟩ := hm
  refine JL.cons rfl (op_arU (ltB rfl) (.tmp rfl) (.tmp rfl) (congrArg some hv_v_8)) ?_
  refine JL.cons rfl (op_assign (ltB rfl) (.tmp rfl)) ?_
  refine JL.nil ?_
  refine JQ.then ?_
  refine JC.ret ?_
  replace hm := Option.some.inj hm
  subst hm
  exact JQ.done (js := []) (ss := [.val (S (rU UInt32) v_8)]) () (.inl rfl) (.nil rfl) rfl (.cons (.tmp rfl) .nil) rfl rfl rfl

theorem sim_sha_state_press_1 (k : Nat) (x_1 : UInt32) (l_2 : (List Int)) (r : UInt32) (hm : sha_state_press_1 k x_1 l_2 = some r) : Sim Try.prog 62 [S (rU UInt32) x_1, S (rL (rI .i64)) l_2] [] (γ := Unit) (fun q => []) (fun q => .one (.val (S (rU UInt32) r))) := by
  unfold sha_state_press_1 at hm
  refine Sim.of Try.func62 rfl rfl (Nat.le_of_ble_eq_true rfl) (fun e0 w0 => ?_)
  refine JC.at ⟨[(0, .one (.val (S (rU UInt32) x_1))), (1, .one (.val (S (rL (rI .i64)) l_2)))], [], []⟩ ?_
  refine JC.seq ?_
  refine JC.region ?_
  refine JL.cons rfl (op_assign (ltB rfl) (HasO.cU (x := (0 : UInt32)) rfl (by decide))) ?_
  refine JL.nil ?_
  refine JQ.then ?_
  refine JC.seq ?_
  refine JC.region ?_
  refine JL.cons rfl (op_assign (ltB rfl) (HasO.cU (x := (0 : UInt32)) rfl (by decide))) ?_
  refine JL.nil ?_
  refine JQ.then ?_
  replace hm := bnd_inv hm
  obtain ⟨y_11, hx1, hq1⟩ := hm
  refine JC.seqJ (γ := Unit) (stj := fun q => ⟨[(5, .one (.val (S (rU UInt32) y_11)))], [], []⟩) (fun q => ?_) ?_
  · obtain _ := q
    refine JC.at ⟨[(5, .one (.val (S (rU UInt32) y_11)))], [], []⟩ ?_
    refine JC.seq ?_
    refine JC.region ?_
    refine JL.cons rfl (op_move (ltB rfl) (.tmp rfl)) ?_
    refine JL.cons rfl (op_assign (ltB rfl) (.tmp rfl)) ?_
    refine JL.nil ?_
    refine JQ.then ?_
    refine JC.ret ?_
    replace hq1 := Option.some.inj hq1
    subst hq1
    exact JQ.done (js := []) (ss := [.val (S (rU UInt32) y_11)]) () (.inl rfl) (.nil rfl) rfl (.cons (.tmp rfl) .nil) rfl rfl rfl
  · refine JC.seq ?_
    refine JC.region ?_
    refine JL.cons rfl (op_move (ltB rfl) (.tmp rfl)) ?_
    refine JL.cons rfl (op_lenL (ltB rfl) tu98 (.tmp rfl)) ?_
    refine JL.cons rfl (op_move (ltB rfl) .cI) ?_
    refine JL.nil ?_
    refine JQ.then ?_
    refine JC.block ?_
    refine JC.pre ?_ (JC.loop (γ := Unit) (stf := fun s q => ⟨[(0, .one (.val (S (rU UInt32) x_1))), (5, .one (.val (S (rU UInt32) s.1))), (8, .one (.val (S (rL (rI .i64)) l_2))), (9, .one (.val (S (rI .i64) (List.length l_2 : Int)))), (10, .one (.val (S (rI .i64) s.2)))], [], []⟩) (q := ()) hx1 ?_)
    · exact (Imp.norm (js := []) rfl (.cons rfl (.cons rfl (.cons rfl (.cons rfl (.cons rfl .nil))))))
    · intro s q x hx hr
      obtain ⟨y_3, x_4⟩ := s
      obtain _ := q
      change sha_state_press_1.b1 k l_2 x_1 y_3 x_4 = some x at hx
      unfold sha_state_press_1.b1 at hx
      refine JC.at ⟨[(0, .one (.val (S (rU UInt32) x_1))), (5, .one (.val (S (rU UInt32) y_3))), (8, .one (.val (S (rL (rI .i64)) l_2))), (9, .one (.val (S (rI .i64) (List.length l_2 : Int)))), (10, .one (.val (S (rI .i64) x_4)))], [], []⟩ ?_
      refine JC.seq ?_
      refine JC.region ?_
      replace hx := lt1_inv hx
      obtain ⟨v_5, hv_v_5, hx⟩ := hx
      refine JL.cons rfl (op_cmpI (ltB rfl) (.tmp rfl) (.tmp rfl) (congrArg some hv_v_5)) ?_
      refine JL.nil ?_
      refine JQ.then ?_
      refine JC.seq ?_
      replace hx := iteB_inv hx
      rcases hx with ⟨hc3, hx⟩ | ⟨hc3, hx⟩
      · refine JC.condT (.tmp rfl) hc3 ?_
        refine JC.skip ?_
        refine JQ.then ?_
        refine JC.seq ?_
        refine JC.block ?_
        refine JC.seq ?_
        refine JC.region ?_
        replace hx := bnd_inv hx
        obtain ⟨v_6, hv_v_6, hx⟩ := hx
        refine JL.cons rfl (op_indexAddrLg (ltB rfl) tu98 tz3 (.tmp rfl) (.tmp rfl) hv_v_6) ?_
        refine JL.cons rfl (op_loadPSg (ltB rfl) tS3 rfl (.tmp rfl) rfl) ?_
        refine JL.cons rfl (op_assign (ltB rfl) (.tmp rfl)) ?_
        refine JL.nil ?_
        refine JQ.then ?_
        refine JC.region ?_
        refine JL.cons rfl (op_move (ltB rfl) (.tmp rfl)) ?_
        refine JL.cons rfl (op_move (ltB rfl) (.tmp rfl)) ?_
        refine JL.pre (Imp.sub (ρ' := [(0, .one (.val (S (rU UInt32) x_1))), (5, .one (.val (S (rU UInt32) y_3))), (7, .one (.val (S (rI .i64) v_6))), (8, .one (.val (S (rL (rI .i64)) l_2))), (9, .one (.val (S (rI .i64) (List.length l_2 : Int)))), (10, .one (.val (S (rI .i64) x_4))), (14, .one (.val (S (rU UInt32) y_3))), (15, .one (.val (S (rU UInt32) x_1)))]) (.cons rfl (.cons rfl (.cons rfl (.cons rfl (.cons rfl (.cons rfl (.cons rfl (.cons rfl .nil))))))))) ?_
        refine JL.at ⟨[(0, .one (.val (S (rU UInt32) x_1))), (5, .one (.val (S (rU UInt32) y_3))), (7, .one (.val (S (rI .i64) v_6))), (8, .one (.val (S (rL (rI .i64)) l_2))), (9, .one (.val (S (rI .i64) (List.length l_2 : Int)))), (10, .one (.val (S (rI .i64) x_4))), (14, .one (.val (S (rU UInt32) y_3))), (15, .one (.val (S (rU UInt32) x_1)))], [], []⟩ ?_
        refine JL.cons rfl (op_move (ltB rfl) (.tmp rfl)) ?_
        replace hx := lt1_inv hx
        obtain ⟨v_7, hv_v_7, hx⟩ := hx
        refine JL.cons rfl (op_neg (ltB rfl) (.tmp rfl) hv_v_7) ?_
        replace hx := bnd_inv hx
        obtain ⟨v_8, hv_v_8, hx⟩ := hx
        refine JL.consX rfl (op_call (js := []) (ltD rfl) cl63 (sim_math_bits_RotateLeft32 k x_1 v_7 v_8 hv_v_8) .func (.cons (.tmp rfl) (.cons (.tmp rfl) .nil)) rfl) (fun _ => ?_)
        replace hx := lt1_inv hx
        obtain ⟨v_9, hv_v_9, hx⟩ := hx
        refine JL.cons rfl (op_arU (ltB rfl) (.tmp rfl) (.tmp rfl) (congrArg some hv_v_9)) ?_
        refine JL.cons rfl (op_assign (ltB rfl) (.tmp rfl)) ?_
        refine JL.nil ?_
        refine JQ.outNB ?_
        refine JQ.then ?_
        refine JC.region ?_
        replace hx := lt1_inv hx
        obtain ⟨v_10, hv_v_10, hx⟩ := hx
        refine JL.cons rfl (op_arI (ltB rfl) (.tmp rfl) .cI (congrArg some hv_v_10)) ?_
        refine JL.pre (Imp.sub (ρ' := [(0, .one (.val (S (rU UInt32) x_1))), (5, .one (.val (S (rU UInt32) v_9))), (8, .one (.val (S (rL (rI .i64)) l_2))), (9, .one (.val (S (rI .i64) (List.length l_2 : Int)))), (10, .one (.val (S (rI .i64) x_4))), (20, .one (.val (S (rI .i64) v_10)))]) (.cons rfl (.cons rfl (.cons rfl (.cons rfl (.cons rfl (.cons rfl .nil))))))) ?_
        refine JL.at ⟨[(0, .one (.val (S (rU UInt32) x_1))), (5, .one (.val (S (rU UInt32) v_9))), (8, .one (.val (S (rL (rI .i64)) l_2))), (9, .one (.val (S (rI .i64) (List.length l_2 : Int)))), (10, .one (.val (S (rI .i64) x_4))), (20, .one (.val (S (rI .i64) v_10)))], [], []⟩ ?_
        refine JL.cons rfl (op_move (ltB rfl) (.tmp rfl)) ?_
        refine JL.nil ?_
        replace hx := Option.some.inj hx
        first | subst hx | clear hx
        exact JQ.next () rfl (Imp.norm (js := []) rfl (.cons rfl (.cons rfl (.cons rfl (.cons rfl (.cons rfl .nil))))))
      · refine JC.condF (.tmp rfl) hc3 ?_
        refine JC.exit ?_
        refine JQ.outX ?_
        replace hx := Option.some.inj hx
        first | subst hx | clear hx
        have ht := hr _ rfl
        have hq2 := congrArg some ht
        clear hr ht
        refine JQ.outX ?_
        refine JQ.here ?_
        replace hq2 := Option.some.inj hq2
        first | subst hq2 | clear hq2
        exact JQ.join () (Imp.norm (js := []) rfl (.cons rfl .nil))

end Go.Proofs.Ytnhiiabdoichlaa
