/- Walks. -/
import Derived.Test.YtnhiiabdoichlaaT
import Derived.Test.YtnhiiabdoichlaaW4
import Derived.Test.YtnhiiabdoichlaaW5
namespace Go.Proofs.Ytnhiiabdoichlaa
open Go Fw
set_option linter.unusedVariables false
set_option maxRecDepth 100000
set_option maxHeartbeats 4000000

theorem sim_sha_state_hash (k : Nat) (s_1 : sha_state) (l_2 : (List (List UInt8))) (r : (Vector UInt8 32)) (hm : sha_state_hash k s_1 l_2 = some r) : Sim Try.prog 40 [A r_sha_state s_1, S (rL (rL (rU UInt8))) l_2] [] (γ := Unit) (fun q => []) (fun q => .one (.val (A (rV 32 (rU UInt8)) r))) := by
  unfold sha_state_hash at hm
  refine Sim.of Try.func40 rfl rfl (Nat.le_of_ble_eq_true rfl) (fun e0 w0 => ?_)
  refine JC.at ⟨[(0, .one (.val (A r_sha_state s_1))), (1, .one (.val (S (rL (rL (rU UInt8))) l_2)))], [], []⟩ ?_
  refine JC.seq ?_
  refine JC.region ?_
  refine JL.consX rfl (op_boxA (ltB rfl) (.tmp rfl)) (fun q => ?_)
  obtain ⟨gb_3, hqq⟩ : ∃ z, z = q := ⟨_, rfl⟩
  subst hqq
  refine JL.pre (Imp.sub (ρ' := [(1, .one (.val (S (rL (rL (rU UInt8))) l_2))), (2, .one (.val (PTR gb_3 0)))]) (.cons rfl (.cons rfl .nil))) ?_
  refine JL.at ⟨[(1, .one (.val (S (rL (rL (rU UInt8))) l_2))), (2, .one (.val (PTR gb_3 0)))], [cvar gb_3 r_sha_state s_1], []⟩ ?_
  refine JL.consX rfl (op_alloc (ltB rfl) tZ45 zr45) (fun q => ?_)
  obtain ⟨gb_4, hqq⟩ : ∃ z, z = q := ⟨_, rfl⟩
  subst hqq
  refine JL.pre (Imp.sub (ρ' := [(1, .one (.val (S (rL (rL (rU UInt8))) l_2))), (2, .one (.val (PTR gb_3 0))), (4, .one (.val (PTR gb_4 0)))]) (.cons rfl (.cons rfl (.cons rfl .nil)))) ?_
  refine JL.at ⟨[(1, .one (.val (S (rL (rL (rU UInt8))) l_2))), (2, .one (.val (PTR gb_3 0))), (4, .one (.val (PTR gb_4 0)))], [cvar gb_3 r_sha_state s_1, cvar gb_4 (rV 32 (rU UInt8)) (Vector.replicate 32 (0 : UInt8))], []⟩ ?_
  refine JL.nil ?_
  refine JQ.then ?_
  refine JC.seq ?_
  refine JC.region ?_
  refine JL.cons rfl (op_move (ltB rfl) (.tmp rfl)) ?_
  replace hm := bnd_inv hm
  obtain ⟨v_5, hv_v_5, hm⟩ := hm
  refine JL.consX rfl (op_call (js := []) (ltD rfl) cl49 (sim_slices_Concatbyte_byte k l_2 v_5 hv_v_5) .func (.cons (.tmp rfl) .nil) rfl) (fun q => ?_)
  obtain ⟨go_6, gc_7⟩ := q
  refine JL.pre (Imp.sub (ρ' := [(2, .one (.val (PTR gb_3 0))), (4, .one (.val (PTR gb_4 0))), (10, .one (.val (HDR go_6 0 (List.length v_5) gc_7)))]) (.cons rfl (.cons rfl (.cons rfl .nil)))) ?_
  refine JL.at ⟨[(2, .one (.val (PTR gb_3 0))), (4, .one (.val (PTR gb_4 0))), (10, .one (.val (HDR go_6 0 (List.length v_5) gc_7)))], [cown go_6 (rU UInt8) v_5 0 gc_7, cvar gb_3 r_sha_state s_1, cvar gb_4 (rV 32 (rU UInt8)) (Vector.replicate 32 (0 : UInt8))], []⟩ ?_
  refine JL.cons rfl (op_assign (ltB rfl) (.tmp rfl)) ?_
  refine JL.nil ?_
  refine JQ.then ?_
  refine JC.seq ?_
  refine JC.region ?_
  refine JL.cons rfl (op_move (ltB rfl) (.tmp rfl)) ?_
  refine JL.cons rfl (op_lenH (ltB rfl) tu22 (.tmp rfl)) ?_
  replace hm := lt1_inv hm
  obtain ⟨v_8, hv_v_8, hm⟩ := hm
  refine JL.cons rfl (op_convIU (ltB rfl) tu3 tu23 (.tmp rfl) hv_v_8) ?_
  replace hm := lt1_inv hm
  obtain ⟨v_9, hv_v_9, hm⟩ := hm
  refine JL.cons rfl (op_arU (ltB rfl) (.tmp rfl) (HasO.cU (x := (8 : UInt64)) rfl (by decide)) (congrArg some hv_v_9)) ?_
  refine JL.cons rfl (op_assign (ltB rfl) (.tmp rfl)) ?_
  refine JL.pre (Imp.sub (ρ' := [(2, .one (.val (PTR gb_3 0))), (4, .one (.val (PTR gb_4 0))), (5, .one (.val (HDR go_6 0 (List.length v_5) gc_7))), (6, .one (.val (S (rU UInt64) v_9)))]) (.cons rfl (.cons rfl (.cons rfl (.cons rfl .nil))))) ?_
  refine JL.at ⟨[(2, .one (.val (PTR gb_3 0))), (4, .one (.val (PTR gb_4 0))), (5, .one (.val (HDR go_6 0 (List.length v_5) gc_7))), (6, .one (.val (S (rU UInt64) v_9)))], [cown go_6 (rU UInt8) v_5 0 gc_7, cvar gb_3 r_sha_state s_1, cvar gb_4 (rV 32 (rU UInt8)) (Vector.replicate 32 (0 : UInt8))], []⟩ ?_
  refine JL.nil ?_
  refine JQ.then ?_
  refine JC.seq ?_
  refine JC.region ?_
  refine JL.cons rfl (op_move (ltB rfl) (.tmp rfl)) ?_
  refine JL.cons rfl (op_buildF (r := (rU UInt8)) (ltB rfl) tu22 tz5 tZ5 rfl (Nat.le_of_ble_eq_true rfl) (.S rfl (HasO.cU (x := (128 : UInt8)) rfl (by decide)) .nil) rfl) ?_
  replace hm := bnd_inv hm
  obtain ⟨b_10, hv_b_10, hm⟩ := hm
  refine JL.consX rfl (op_appendL (j := 0) (ltB rfl) tu22 tu22 rfl tB5 rfl (Nat.lt_of_lt_of_le Nat.zero_lt_one (Nat.le_of_ble_eq_true rfl)) (Nat.lt_of_lt_of_le Nat.zero_lt_one (Nat.le_of_ble_eq_true rfl))  rfl (.tmp rfl) (.tmp rfl) hv_b_10) (fun q => ?_)
  obtain ⟨go_11, gc_12⟩ := q
  refine JL.pre (Imp.sub (ρ' := [(2, .one (.val (PTR gb_3 0))), (4, .one (.val (PTR gb_4 0))), (6, .one (.val (S (rU UInt64) v_9))), (17, .one (.val (HDR go_11 0 (List.length b_10) gc_12)))]) (.cons rfl (.cons rfl (.cons rfl (.cons rfl .nil))))) ?_
  refine JL.at ⟨[(2, .one (.val (PTR gb_3 0))), (4, .one (.val (PTR gb_4 0))), (6, .one (.val (S (rU UInt64) v_9))), (17, .one (.val (HDR go_11 0 (List.length b_10) gc_12)))], [cown go_11 (rU UInt8) b_10 0 gc_12, cvar gb_3 r_sha_state s_1, cvar gb_4 (rV 32 (rU UInt8)) (Vector.replicate 32 (0 : UInt8))], []⟩ ?_
  refine JL.cons rfl (op_assign (ltB rfl) (.tmp rfl)) ?_
  refine JL.nil ?_
  refine JQ.then ?_
  refine JC.seq ?_
  refine JC.region ?_
  refine JL.cons rfl (op_move (ltB rfl) (.tmp rfl)) ?_
  refine JL.cons rfl (op_move (ltB rfl) (.tmp rfl)) ?_
  refine JL.cons rfl (op_lenH (ltB rfl) tu22 (.tmp rfl)) ?_
  replace hm := bnd_inv hm
  obtain ⟨v_13, hv_v_13, hm⟩ := hm
  refine JL.cons rfl (op_arI (ltB rfl) (.tmp rfl) .cI hv_v_13) ?_
  replace hm := lt1_inv hm
  obtain ⟨v_14, hv_v_14, hm⟩ := hm
  refine JL.cons rfl (op_arI (ltB rfl) .cI (.tmp rfl) (congrArg some hv_v_14)) ?_
  refine JL.pre (Imp.sub (ρ' := [(2, .one (.val (PTR gb_3 0))), (4, .one (.val (PTR gb_4 0))), (5, .one (.val (HDR go_11 0 (List.length b_10) gc_12))), (6, .one (.val (S (rU UInt64) v_9))), (18, .one (.val (HDR go_11 0 (List.length b_10) gc_12))), (22, .one (.val (S (rI .i64) v_14)))]) (.cons rfl (.cons rfl (.cons rfl (.cons rfl (.cons rfl (.cons rfl .nil))))))) ?_
  refine JL.at ⟨[(2, .one (.val (PTR gb_3 0))), (4, .one (.val (PTR gb_4 0))), (5, .one (.val (HDR go_11 0 (List.length b_10) gc_12))), (6, .one (.val (S (rU UInt64) v_9))), (18, .one (.val (HDR go_11 0 (List.length b_10) gc_12))), (22, .one (.val (S (rI .i64) v_14)))], [cown go_11 (rU UInt8) b_10 0 gc_12, cvar gb_3 r_sha_state s_1, cvar gb_4 (rV 32 (rU UInt8)) (Vector.replicate 32 (0 : UInt8))], []⟩ ?_
  replace hm := bnd_inv hm
  obtain ⟨v_15, hv_v_15, hm⟩ := hm
  refine JL.cons rfl (op_arI (ltB rfl) (.tmp rfl) .cI hv_v_15) ?_
  replace hm := bnd_inv hm
  obtain ⟨b_16, hv_b_16, hm⟩ := hm
  refine JL.consX rfl (op_appendZ (j := 0) (ltB rfl) tu22 tu3 tB5 zv5 rfl (Nat.lt_of_lt_of_le Nat.zero_lt_one (Nat.le_of_ble_eq_true rfl)) (Nat.lt_of_lt_of_le Nat.zero_lt_one (Nat.le_of_ble_eq_true rfl)) rfl (.tmp rfl) (.tmp rfl) hv_b_16) (fun q => ?_)
  obtain ⟨go_17, gc_18⟩ := q
  refine JL.pre (Imp.sub (ρ' := [(2, .one (.val (PTR gb_3 0))), (4, .one (.val (PTR gb_4 0))), (6, .one (.val (S (rU UInt64) v_9))), (24, .one (.val (HDR go_17 0 (List.length b_16) gc_18)))]) (.cons rfl (.cons rfl (.cons rfl (.cons rfl .nil))))) ?_
  refine JL.at ⟨[(2, .one (.val (PTR gb_3 0))), (4, .one (.val (PTR gb_4 0))), (6, .one (.val (S (rU UInt64) v_9))), (24, .one (.val (HDR go_17 0 (List.length b_16) gc_18)))], [cown go_17 (rU UInt8) b_16 0 gc_18, cvar gb_3 r_sha_state s_1, cvar gb_4 (rV 32 (rU UInt8)) (Vector.replicate 32 (0 : UInt8))], []⟩ ?_
  refine JL.cons rfl (op_assign (ltB rfl) (.tmp rfl)) ?_
  refine JL.nil ?_
  refine JQ.then ?_
  replace hm := bnd_inv hm
  obtain ⟨b_32, hx1, hq1⟩ := hm
  refine JC.seqJ (γ := Option Nat × Nat) (stj := fun q => ⟨[(2, .one (.val (PTR gb_3 0))), (4, .one (.val (PTR gb_4 0))), (5, .one (.val (HDR q.1 0 (List.length b_32) q.2)))], [cvar gb_3 r_sha_state s_1, cvar gb_4 (rV 32 (rU UInt8)) (Vector.replicate 32 (0 : UInt8)), cown q.1 (rU UInt8) b_32 0 q.2], []⟩) (fun q => ?_) ?_
  · obtain ⟨go_33, gc_34⟩ := q
    refine JC.at ⟨[(2, .one (.val (PTR gb_3 0))), (4, .one (.val (PTR gb_4 0))), (5, .one (.val (HDR go_33 0 (List.length b_32) gc_34)))], [cvar gb_3 r_sha_state s_1, cvar gb_4 (rV 32 (rU UInt8)) (Vector.replicate 32 (0 : UInt8)), cown go_33 (rU UInt8) b_32 0 gc_34], []⟩ ?_
    replace hq1 := bnd_inv hq1
    obtain ⟨s_41, hx4, hq4⟩ := hq1
    refine JC.seqJ (γ := Unit) (stj := fun q => ⟨[(2, .one (.val (PTR gb_3 0))), (4, .one (.val (PTR gb_4 0)))], [cvar gb_3 r_sha_state s_41, cvar gb_4 (rV 32 (rU UInt8)) (Vector.replicate 32 (0 : UInt8))], []⟩) (fun q => ?_) ?_
    · obtain _ := q
      refine JC.at ⟨[(2, .one (.val (PTR gb_3 0))), (4, .one (.val (PTR gb_4 0)))], [cvar gb_3 r_sha_state s_41, cvar gb_4 (rV 32 (rU UInt8)) (Vector.replicate 32 (0 : UInt8))], []⟩ ?_
      replace hq4 := bnd_inv hq4
      obtain ⟨out_56, hx7, hq7⟩ := hq4
      refine JC.seqJ (γ := Unit) (stj := fun q => ⟨[(4, .one (.val (PTR gb_4 0)))], [cvar gb_4 (rV 32 (rU UInt8)) out_56], []⟩) (fun q => ?_) ?_
      · obtain _ := q
        refine JC.at ⟨[(4, .one (.val (PTR gb_4 0)))], [cvar gb_4 (rV 32 (rU UInt8)) out_56], []⟩ ?_
        refine JC.seq ?_
        refine JC.region ?_
        refine JL.cons rfl (op_loadA (j := 0) (ltB rfl) tA45 (.tmp rfl) rfl (Comp.self (rV 32 (rU UInt8)) out_56) rfl) ?_
        refine JL.cons rfl (op_storeA (j := 0) tA45 (.tmp rfl) (.tmp rfl) rfl (UpdR.self (by rfl)) rfl) ?_
        refine JL.nil ?_
        refine JQ.then ?_
        refine JC.ret ?_
        replace hq7 := Option.some.inj hq7
        subst hq7
        exact JQ.done (js := []) (ss := [.val (A (rV 32 (rU UInt8)) out_56)]) () (.inl rfl) (.nil rfl) rfl (.cons (.cellA (j := 0) tA45 rfl rfl) .nil) rfl rfl rfl
      · refine JC.seq ?_
        refine JC.region ?_
        refine JL.cons rfl (op_move (ltB rfl) .cI) ?_
        refine JL.nil ?_
        refine JQ.then ?_
        refine JC.block ?_
        refine JC.pre ?_ (JC.loop (γ := Unit) (stf := fun s q => ⟨[(2, .one (.val (PTR gb_3 0))), (4, .one (.val (PTR gb_4 0))), (46, .one (.val (S (rI .i64) s.2)))], [cvar gb_3 r_sha_state s_41, cvar gb_4 (rV 32 (rU UInt8)) s.1], []⟩) (q := ()) hx7 ?_)
        · exact (Imp.norm (js := [0, 0]) rfl (.cons rfl (.cons rfl (.cons rfl .nil))))
        · intro s q x hx hr
          obtain ⟨out_42, x_43⟩ := s
          obtain _ := q
          change sha_state_hash.b3 k s_41 out_42 x_43 = some x at hx
          unfold sha_state_hash.b3 at hx
          refine JC.at ⟨[(2, .one (.val (PTR gb_3 0))), (4, .one (.val (PTR gb_4 0))), (46, .one (.val (S (rI .i64) x_43)))], [cvar gb_3 r_sha_state s_41, cvar gb_4 (rV 32 (rU UInt8)) out_42], []⟩ ?_
          refine JC.seq ?_
          refine JC.region ?_
          replace hx := lt1_inv hx
          obtain ⟨v_44, hv_v_44, hx⟩ := hx
          refine JL.cons rfl (op_cmpI (ltB rfl) (.tmp rfl) .cI (congrArg some hv_v_44)) ?_
          refine JL.nil ?_
          refine JQ.then ?_
          refine JC.seq ?_
          replace hx := iteB_inv hx
          rcases hx with ⟨hc9, hx⟩ | ⟨hc9, hx⟩
          · refine JC.condT (.tmp rfl) hc9 ?_
            refine JC.skip ?_
            refine JQ.then ?_
            refine JC.seq ?_
            refine JC.block ?_
            refine JC.seq ?_
            refine JC.region ?_
            refine JL.cons rfl (op_move (ltB rfl) (.tmp rfl)) ?_
            refine JL.cons rfl (op_assign (ltB rfl) (.tmp rfl)) ?_
            refine JL.nil ?_
            refine JQ.then ?_
            refine JC.region ?_
            refine JL.cons rfl (op_move (ltB rfl) (.tmp rfl)) ?_
            refine JL.cons rfl (op_move (ltB rfl) (.tmp rfl)) ?_
            replace hx := bnd_inv hx
            obtain ⟨v_45, hv_v_45, hx⟩ := hx
            refine JL.cons rfl (op_arI (ltB rfl) (.tmp rfl) .cI hv_v_45) ?_
            refine JL.pre (Imp.sub (ρ' := [(2, .one (.val (PTR gb_3 0))), (4, .one (.val (PTR gb_4 0))), (8, .one (.val (S (rI .i64) x_43))), (46, .one (.val (S (rI .i64) x_43))), (49, .one (.val (S (rI .i64) x_43))), (51, .one (.val (S (rI .i64) v_45)))]) (.cons rfl (.cons rfl (.cons rfl (.cons rfl (.cons rfl (.cons rfl .nil))))))) ?_
            refine JL.at ⟨[(2, .one (.val (PTR gb_3 0))), (4, .one (.val (PTR gb_4 0))), (8, .one (.val (S (rI .i64) x_43))), (46, .one (.val (S (rI .i64) x_43))), (49, .one (.val (S (rI .i64) x_43))), (51, .one (.val (S (rI .i64) v_45)))], [cvar gb_3 r_sha_state s_41, cvar gb_4 (rV 32 (rU UInt8)) out_42], []⟩ ?_
            refine JL.cons rfl (op_fieldAddr (off := 0) (ltB rfl) tf70_0 (.tmp rfl)) ?_
            replace hx := bnd_inv hx
            obtain ⟨i_46, hv_i_46, hx⟩ := hx
            refine JL.cons rfl (op_indexAddrIF (ltB rfl) tr67 (.tmp rfl) (.tmp rfl) hv_i_46) ?_
            replace hx := lt1_inv hx
            obtain ⟨v_47, hv_v_47, hx⟩ := hx
            refine JL.cons rfl (op_loadS (j := 0) (ltB rfl) tS66 (.tmp rfl) rfl (Comp.at (Comp.trans (Comp.self r_sha_state s_41) (comp_sha_state_h s_41) (Nat.le_of_ble_eq_true rfl)) i_46.2 rfl) rfl hv_v_47) ?_
            refine JL.cons rfl (op_move (ltB rfl) (.tmp rfl)) ?_
            replace hx := bnd_inv hx
            obtain ⟨v_48, hv_v_48, hx⟩ := hx
            refine JL.cons rfl (op_arI (ltB rfl) (.tmp rfl) .cI hv_v_48) ?_
            replace hx := lt1_inv hx
            obtain ⟨v_49, hv_v_49, hx⟩ := hx
            refine JL.cons rfl (op_arI (ltB rfl) .cI (.tmp rfl) (congrArg some hv_v_49)) ?_
            refine JL.pre (Imp.sub (ρ' := [(2, .one (.val (PTR gb_3 0))), (4, .one (.val (PTR gb_4 0))), (46, .one (.val (S (rI .i64) x_43))), (49, .one (.val (S (rI .i64) x_43))), (54, .one (.val (S (rU UInt32) v_47))), (57, .one (.val (S (rI .i64) v_49)))]) (.cons rfl (.cons rfl (.cons rfl (.cons rfl (.cons rfl (.cons rfl .nil))))))) ?_
            refine JL.at ⟨[(2, .one (.val (PTR gb_3 0))), (4, .one (.val (PTR gb_4 0))), (46, .one (.val (S (rI .i64) x_43))), (49, .one (.val (S (rI .i64) x_43))), (54, .one (.val (S (rU UInt32) v_47))), (57, .one (.val (S (rI .i64) v_49)))], [cvar gb_3 r_sha_state s_41, cvar gb_4 (rV 32 (rU UInt8)) out_42], []⟩ ?_
            replace hx := lt1_inv hx
            obtain ⟨v_50, hv_v_50, hx⟩ := hx
            refine JL.cons rfl (op_arI (ltB rfl) .cI (.tmp rfl) (congrArg some hv_v_50)) ?_
            replace hx := bnd_inv hx
            obtain ⟨v_51, hv_v_51, hx⟩ := hx
            refine JL.cons rfl (op_shrUI (ltB rfl) (.tmp rfl) (.tmp rfl) hv_v_51) ?_
            replace hx := lt1_inv hx
            obtain ⟨v_52, hv_v_52, hx⟩ := hx
            refine JL.cons rfl (op_convUU (ltB rfl) tu66 tu5 (.tmp rfl) hv_v_52) ?_
            replace hx := bnd_inv hx
            obtain ⟨i_53, hv_i_53, hx⟩ := hx
            refine JL.cons rfl (op_indexAddrIF (ltB rfl) tr45 (.tmp rfl) (.tmp rfl) hv_i_53) ?_
            replace hx := lt1_inv hx
            obtain ⟨out_54, hv_out_54, hx⟩ := hx
            refine JL.cons rfl (op_storeS (j := 1) tS5 (.tmp rfl) (.tmp rfl) rfl rfl (Upd.at (Comp.self (rV 32 (rU UInt8)) out_42) i_53.2 rfl (Upd.self (rV 32 (rU UInt8)) out_42 _)).R hv_out_54) ?_
            refine JL.pre (Imp.sub (ρ' := [(2, .one (.val (PTR gb_3 0))), (4, .one (.val (PTR gb_4 0))), (46, .one (.val (S (rI .i64) x_43)))]) (.cons rfl (.cons rfl (.cons rfl .nil)))) ?_
            refine JL.at ⟨[(2, .one (.val (PTR gb_3 0))), (4, .one (.val (PTR gb_4 0))), (46, .one (.val (S (rI .i64) x_43)))], [cvar gb_3 r_sha_state s_41, cvar gb_4 (rV 32 (rU UInt8)) out_54], []⟩ ?_
            refine JL.nil ?_
            refine JQ.outNB ?_
            refine JQ.then ?_
            refine JC.region ?_
            replace hx := lt1_inv hx
            obtain ⟨v_55, hv_v_55, hx⟩ := hx
            refine JL.cons rfl (op_arI (ltB rfl) (.tmp rfl) .cI (congrArg some hv_v_55)) ?_
            refine JL.cons rfl (op_move (ltB rfl) (.tmp rfl)) ?_
            refine JL.nil ?_
            replace hx := Option.some.inj hx
            first | subst hx | clear hx
            exact JQ.next () rfl (Imp.norm (js := [0, 0]) rfl (.cons rfl (.cons rfl (.cons rfl .nil))))
          · refine JC.condF (.tmp rfl) hc9 ?_
            refine JC.exit ?_
            refine JQ.outX ?_
            replace hx := Option.some.inj hx
            first | subst hx | clear hx
            have ht := hr _ rfl
            have hq8 := congrArg some ht
            clear hr ht
            refine JQ.outX ?_
            refine JQ.here ?_
            replace hq8 := Option.some.inj hq8
            first | subst hq8 | clear hq8
            exact JQ.join () (Imp.norm (js := [1]) rfl (.cons rfl .nil))
    · refine JC.block ?_
      refine JC.pre (Imp.frz (j := 2) rfl (ImpK.slotH (s := 5) rfl ImpK.refl)) ?_
      refine JC.pre (Imp.slot (s := 5) rfl wkHL) ?_
      refine JC.pre ?_ (JC.loop (γ := Unit) (stf := fun s q => ⟨[(2, .one (.val (PTR gb_3 0))), (4, .one (.val (PTR gb_4 0))), (5, .one (.val (S (rL (rU UInt8)) s.2)))], [cvar gb_3 r_sha_state s.1, cvar gb_4 (rV 32 (rU UInt8)) (Vector.replicate 32 (0 : UInt8))], []⟩) (q := ()) hx4 ?_)
      · exact (Imp.norm (js := [0, 0]) rfl (.cons rfl (.cons rfl (.cons rfl .nil))))
      · intro s q x hx hr
        obtain ⟨s_35, b_36⟩ := s
        obtain _ := q
        change sha_state_hash.b2 k s_35 b_36 = some x at hx
        unfold sha_state_hash.b2 at hx
        refine JC.at ⟨[(2, .one (.val (PTR gb_3 0))), (4, .one (.val (PTR gb_4 0))), (5, .one (.val (S (rL (rU UInt8)) b_36)))], [cvar gb_3 r_sha_state s_35, cvar gb_4 (rV 32 (rU UInt8)) (Vector.replicate 32 (0 : UInt8))], []⟩ ?_
        refine JC.seq ?_
        refine JC.seq ?_
        refine JC.region ?_
        refine JL.cons rfl (op_move (ltB rfl) (.tmp rfl)) ?_
        refine JL.cons rfl (op_lenL (ltB rfl) tu22 (.tmp rfl)) ?_
        replace hx := lt1_inv hx
        obtain ⟨v_37, hv_v_37, hx⟩ := hx
        refine JL.cons rfl (op_cmpI (ltB rfl) (.tmp rfl) .cI (congrArg some hv_v_37)) ?_
        refine JL.nil ?_
        refine JQ.then ?_
        replace hx := iteB_inv hx
        rcases hx with ⟨hc6, hx⟩ | ⟨hc6, hx⟩
        · refine JC.condT (.tmp rfl) hc6 ?_
          refine JC.skip ?_
          refine JQ.then ?_
          refine JC.seq ?_
          refine JC.block ?_
          refine JC.region ?_
          refine JL.cons rfl (op_move (ltB rfl) (.tmp rfl)) ?_
          replace hx := bnd_inv hx
          obtain ⟨v_38, hv_v_38, hx⟩ := hx
          refine JL.cons rfl (op_sliceLg (ltB rfl) tu22 tz5 (.tmp rfl) .none (.some .cI) hv_v_38) ?_
          replace hx := bnd_inv hx
          obtain ⟨x_39, hv_x_39, hx⟩ := hx
          refine JL.consX rfl (op_call (js := [0]) (ltD rfl) cl50 (sim_sha_state_press k v_38 s_35 gb_3 x_39 hv_x_39) .func (.cons (.tmp rfl) (.cons (.tmp rfl) .nil)) rfl) (fun _ => ?_)
          refine JL.pre (Imp.sub (ρ' := [(2, .one (.val (PTR gb_3 0))), (4, .one (.val (PTR gb_4 0))), (5, .one (.val (S (rL (rU UInt8)) b_36)))]) (.cons rfl (.cons rfl (.cons rfl .nil)))) ?_
          refine JL.at ⟨[(2, .one (.val (PTR gb_3 0))), (4, .one (.val (PTR gb_4 0))), (5, .one (.val (S (rL (rU UInt8)) b_36)))], [cvar gb_3 r_sha_state x_39, cvar gb_4 (rV 32 (rU UInt8)) (Vector.replicate 32 (0 : UInt8))], []⟩ ?_
          refine JL.nil ?_
          refine JQ.outNB ?_
          refine JQ.then ?_
          refine JC.region ?_
          refine JL.cons rfl (op_move (ltB rfl) (.tmp rfl)) ?_
          replace hx := bnd_inv hx
          obtain ⟨v_40, hv_v_40, hx⟩ := hx
          refine JL.cons rfl (op_sliceLg (ltB rfl) tu22 tz5 (.tmp rfl) (.some .cI) .none hv_v_40) ?_
          refine JL.cons rfl (op_assign (ltB rfl) (.tmp rfl)) ?_
          refine JL.nil ?_
          replace hx := Option.some.inj hx
          first | subst hx | clear hx
          exact JQ.next () rfl (Imp.norm (js := [0, 0]) rfl (.cons rfl (.cons rfl (.cons rfl .nil))))
        · refine JC.condF (.tmp rfl) hc6 ?_
          refine JC.exit ?_
          refine JQ.outX ?_
          replace hx := Option.some.inj hx
          first | subst hx | clear hx
          have ht := hr _ rfl
          have hq5 := congrArg some ht
          clear hr ht
          refine JQ.outX ?_
          refine JQ.here ?_
          replace hq5 := Option.some.inj hq5
          first | subst hq5 | clear hq5
          exact JQ.join () (Imp.norm (js := [0, 0]) rfl (.cons rfl (.cons rfl .nil)))
  · refine JC.seq ?_
    refine JC.region ?_
    refine JL.cons rfl (op_move (ltB rfl) .cI) ?_
    refine JL.nil ?_
    refine JQ.then ?_
    refine JC.block ?_
    refine JC.pre ?_ (JC.loop (γ := Option Nat × Nat) (stf := fun s q => ⟨[(2, .one (.val (PTR gb_3 0))), (4, .one (.val (PTR gb_4 0))), (5, .one (.val (HDR q.1 0 (List.length s.1) q.2))), (6, .one (.val (S (rU UInt64) v_9))), (25, .one (.val (S (rI .i64) s.2)))], [cvar gb_3 r_sha_state s_1, cvar gb_4 (rV 32 (rU UInt8)) (Vector.replicate 32 (0 : UInt8)), cown q.1 (rU UInt8) s.1 0 q.2], []⟩) (q := (go_17, gc_18)) hx1 ?_)
    · exact (Imp.norm (js := [1, 1, 0]) rfl (.cons rfl (.cons rfl (.cons rfl (.cons rfl (.cons rfl .nil))))))
    · intro s q x hx hr
      obtain ⟨b_19, x_20⟩ := s
      obtain ⟨go_21, gc_22⟩ := q
      change sha_state_hash.b1 k v_9 b_19 x_20 = some x at hx
      unfold sha_state_hash.b1 at hx
      refine JC.at ⟨[(2, .one (.val (PTR gb_3 0))), (4, .one (.val (PTR gb_4 0))), (5, .one (.val (HDR go_21 0 (List.length b_19) gc_22))), (6, .one (.val (S (rU UInt64) v_9))), (25, .one (.val (S (rI .i64) x_20)))], [cvar gb_3 r_sha_state s_1, cvar gb_4 (rV 32 (rU UInt8)) (Vector.replicate 32 (0 : UInt8)), cown go_21 (rU UInt8) b_19 0 gc_22], []⟩ ?_
      refine JC.seq ?_
      refine JC.region ?_
      replace hx := lt1_inv hx
      obtain ⟨v_23, hv_v_23, hx⟩ := hx
      refine JL.cons rfl (op_cmpI (ltB rfl) (.tmp rfl) .cI (congrArg some hv_v_23)) ?_
      refine JL.nil ?_
      refine JQ.then ?_
      refine JC.seq ?_
      replace hx := iteB_inv hx
      rcases hx with ⟨hc3, hx⟩ | ⟨hc3, hx⟩
      · refine JC.condT (.tmp rfl) hc3 ?_
        refine JC.skip ?_
        refine JQ.then ?_
        refine JC.seq ?_
        refine JC.block ?_
        refine JC.seq ?_
        refine JC.region ?_
        refine JL.cons rfl (op_move (ltB rfl) (.tmp rfl)) ?_
        refine JL.cons rfl (op_assign (ltB rfl) (.tmp rfl)) ?_
        refine JL.nil ?_
        refine JQ.then ?_
        refine JC.region ?_
        refine JL.cons rfl (op_move (ltB rfl) (.tmp rfl)) ?_
        refine JL.cons rfl (op_move (ltB rfl) (.tmp rfl)) ?_
        refine JL.cons rfl (op_move (ltB rfl) (.tmp rfl)) ?_
        refine JL.pre (Imp.sub (ρ' := [(2, .one (.val (PTR gb_3 0))), (4, .one (.val (PTR gb_4 0))), (5, .one (.val (HDR go_21 0 (List.length b_19) gc_22))), (6, .one (.val (S (rU UInt64) v_9))), (25, .one (.val (S (rI .i64) x_20))), (28, .one (.val (HDR go_21 0 (List.length b_19) gc_22))), (29, .one (.val (S (rU UInt64) v_9))), (30, .one (.val (S (rI .i64) x_20)))]) (.cons rfl (.cons rfl (.cons rfl (.cons rfl (.cons rfl (.cons rfl (.cons rfl (.cons rfl .nil))))))))) ?_
        refine JL.at ⟨[(2, .one (.val (PTR gb_3 0))), (4, .one (.val (PTR gb_4 0))), (5, .one (.val (HDR go_21 0 (List.length b_19) gc_22))), (6, .one (.val (S (rU UInt64) v_9))), (25, .one (.val (S (rI .i64) x_20))), (28, .one (.val (HDR go_21 0 (List.length b_19) gc_22))), (29, .one (.val (S (rU UInt64) v_9))), (30, .one (.val (S (rI .i64) x_20)))], [cvar gb_3 r_sha_state s_1, cvar gb_4 (rV 32 (rU UInt8)) (Vector.replicate 32 (0 : UInt8)), cown go_21 (rU UInt8) b_19 0 gc_22], []⟩ ?_
        replace hx := lt1_inv hx
        obtain ⟨v_24, hv_v_24, hx⟩ := hx
        refine JL.cons rfl (op_arI (ltB rfl) .cI (.tmp rfl) (congrArg some hv_v_24)) ?_
        replace hx := lt1_inv hx
        obtain ⟨v_25, hv_v_25, hx⟩ := hx
        refine JL.cons rfl (op_arI (ltB rfl) .cI (.tmp rfl) (congrArg some hv_v_25)) ?_
        replace hx := bnd_inv hx
        obtain ⟨v_26, hv_v_26, hx⟩ := hx
        refine JL.cons rfl (op_shrUI (ltB rfl) (.tmp rfl) (.tmp rfl) hv_v_26) ?_
        replace hx := lt1_inv hx
        obtain ⟨v_27, hv_v_27, hx⟩ := hx
        refine JL.cons rfl (op_convUU (ltB rfl) tu23 tu5 (.tmp rfl) hv_v_27) ?_
        refine JL.cons rfl (op_buildF (r := (rU UInt8)) (ltB rfl) tu22 tz5 tZ5 rfl (Nat.le_of_ble_eq_true rfl) (.S rfl (.tmp rfl) .nil) rfl) ?_
        replace hx := bnd_inv hx
        obtain ⟨b_28, hv_b_28, hx⟩ := hx
        refine JL.consX rfl (op_appendL (j := 2) (ltB rfl) tu22 tu22 rfl tB5 rfl (Nat.lt_of_lt_of_le Nat.zero_lt_one (Nat.le_of_ble_eq_true rfl)) (Nat.lt_of_lt_of_le Nat.zero_lt_one (Nat.le_of_ble_eq_true rfl))  rfl (.tmp rfl) (.tmp rfl) hv_b_28) (fun q => ?_)
        obtain ⟨go_29, gc_30⟩ := q
        refine JL.pre (Imp.sub (ρ' := [(2, .one (.val (PTR gb_3 0))), (4, .one (.val (PTR gb_4 0))), (6, .one (.val (S (rU UInt64) v_9))), (25, .one (.val (S (rI .i64) x_20))), (36, .one (.val (HDR go_29 0 (List.length b_28) gc_30)))]) (.cons rfl (.cons rfl (.cons rfl (.cons rfl (.cons rfl .nil)))))) ?_
        refine JL.at ⟨[(2, .one (.val (PTR gb_3 0))), (4, .one (.val (PTR gb_4 0))), (6, .one (.val (S (rU UInt64) v_9))), (25, .one (.val (S (rI .i64) x_20))), (36, .one (.val (HDR go_29 0 (List.length b_28) gc_30)))], [cvar gb_3 r_sha_state s_1, cvar gb_4 (rV 32 (rU UInt8)) (Vector.replicate 32 (0 : UInt8)), cown go_29 (rU UInt8) b_28 0 gc_30], []⟩ ?_
        refine JL.cons rfl (op_assign (ltB rfl) (.tmp rfl)) ?_
        refine JL.nil ?_
        refine JQ.outNB ?_
        refine JQ.then ?_
        refine JC.region ?_
        replace hx := lt1_inv hx
        obtain ⟨v_31, hv_v_31, hx⟩ := hx
        refine JL.cons rfl (op_arI (ltB rfl) (.tmp rfl) .cI (congrArg some hv_v_31)) ?_
        refine JL.cons rfl (op_move (ltB rfl) (.tmp rfl)) ?_
        refine JL.nil ?_
        replace hx := Option.some.inj hx
        first | subst hx | clear hx
        exact JQ.next (go_29, gc_30) rfl (Imp.norm (js := [0, 0, 0]) rfl (.cons rfl (.cons rfl (.cons rfl (.cons rfl (.cons rfl .nil))))))
      · refine JC.condF (.tmp rfl) hc3 ?_
        refine JC.exit ?_
        refine JQ.outX ?_
        replace hx := Option.some.inj hx
        first | subst hx | clear hx
        have ht := hr _ rfl
        have hq2 := congrArg some ht
        clear hr ht
        refine JQ.outX ?_
        refine JQ.here ?_
        replace hq2 := Option.some.inj hq2
        first | subst hq2 | clear hq2
        exact JQ.join (go_21, gc_22) (Imp.norm (js := [0, 0, 0]) rfl (.cons rfl (.cons rfl (.cons rfl .nil))))

end Go.Proofs.Ytnhiiabdoichlaa
