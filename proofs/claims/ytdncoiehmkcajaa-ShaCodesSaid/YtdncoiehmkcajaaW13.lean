/- Walks. -/
import Derived.Test.YtdncoiehmkcajaaT
import Derived.Test.YtdncoiehmkcajaaW12
namespace Go.Proofs.Ytdncoiehmkcajaa
open Go Fw
set_option linter.unusedVariables false
set_option maxRecDepth 100000
set_option maxHeartbeats 4000000

theorem sim_ref03_Code (k : Nat) (secret_1 : (List UInt8)) (b_2 : (List UInt8)) (r : (Vector UInt8 32)) (hm : ref03_Code k secret_1 b_2 = some r) : Sim Try.prog 14 [S (rL (rU UInt8)) secret_1, S (rL (rU UInt8)) b_2] [] (γ := Unit) (fun q => []) (fun q => .one (.val (A (rV 32 (rU UInt8)) r))) := by
  unfold ref03_Code at hm
  refine Sim.of Try.func14 rfl rfl (Nat.le_of_ble_eq_true rfl) (fun e0 w0 => ?_)
  refine JC.at ⟨[(0, .one (.val (S (rL (rU UInt8)) secret_1))), (1, .one (.val (S (rL (rU UInt8)) b_2)))], [], []⟩ ?_
  refine JC.seq ?_
  refine JC.region ?_
  refine JL.consX rfl (op_alloc (ltB rfl) tZ28 zr28) (fun q => ?_)
  obtain ⟨gb_3, hqq⟩ : ∃ z, z = q := ⟨_, rfl⟩
  subst hqq
  refine JL.pre (Imp.sub (ρ' := [(0, .one (.val (S (rL (rU UInt8)) secret_1))), (1, .one (.val (S (rL (rU UInt8)) b_2))), (4, .one (.val (PTR gb_3 0)))]) (.cons rfl (.cons rfl (.cons rfl .nil)))) ?_
  refine JL.at ⟨[(0, .one (.val (S (rL (rU UInt8)) secret_1))), (1, .one (.val (S (rL (rU UInt8)) b_2))), (4, .one (.val (PTR gb_3 0)))], [cvar gb_3 (rV 32 (rU UInt8)) (Vector.replicate 32 (0 : UInt8))], []⟩ ?_
  refine JL.nil ?_
  refine JQ.then ?_
  refine JC.seq ?_
  refine JC.region ?_
  refine JL.cons rfl (op_move (ltB rfl) (.tmp rfl)) ?_
  replace hm := bnd_inv hm
  obtain ⟨v_4, hv_v_4, hm⟩ := hm
  refine JL.pre (Imp.nilown (rU UInt8)) ?_
  refine JL.consX rfl (op_appendL (j := 1) (ltB rfl) tu25 tu25 rfl tB5 rfl (Nat.lt_of_lt_of_le Nat.zero_lt_one (Nat.le_of_ble_eq_true rfl)) (Nat.lt_of_lt_of_le Nat.zero_lt_one (Nat.le_of_ble_eq_true rfl))  rfl HasO.nilH (.tmp rfl) hv_v_4) (fun q => ?_)
  obtain ⟨go_5, gc_6⟩ := q
  refine JL.pre (Imp.sub (ρ' := [(0, .one (.val (S (rL (rU UInt8)) secret_1))), (1, .one (.val (S (rL (rU UInt8)) b_2))), (4, .one (.val (PTR gb_3 0))), (12, .one (.val (HDR go_5 0 (List.length v_4) gc_6)))]) (.cons rfl (.cons rfl (.cons rfl (.cons rfl .nil))))) ?_
  refine JL.at ⟨[(0, .one (.val (S (rL (rU UInt8)) secret_1))), (1, .one (.val (S (rL (rU UInt8)) b_2))), (4, .one (.val (PTR gb_3 0))), (12, .one (.val (HDR go_5 0 (List.length v_4) gc_6)))], [cvar gb_3 (rV 32 (rU UInt8)) (Vector.replicate 32 (0 : UInt8)), cown go_5 (rU UInt8) v_4 0 gc_6], []⟩ ?_
  refine JL.cons rfl (op_assign (ltB rfl) (.tmp rfl)) ?_
  refine JL.nil ?_
  refine JQ.then ?_
  replace hm := bnd_inv hm
  obtain ⟨k_14, hx1, hq1⟩ := hm
  refine JC.seqJ (γ := Option Nat × Nat) (stj := fun q => ⟨[(1, .one (.val (S (rL (rU UInt8)) b_2))), (4, .one (.val (PTR gb_3 0))), (5, .one (.val (HDR q.1 0 (List.length k_14) q.2)))], [cvar gb_3 (rV 32 (rU UInt8)) (Vector.replicate 32 (0 : UInt8)), cown q.1 (rU UInt8) k_14 0 q.2], []⟩) (fun q => ?_) ?_
  · obtain ⟨go_15, gc_16⟩ := q
    refine JC.at ⟨[(1, .one (.val (S (rL (rU UInt8)) b_2))), (4, .one (.val (PTR gb_3 0))), (5, .one (.val (HDR go_15 0 (List.length k_14) gc_16)))], [cvar gb_3 (rV 32 (rU UInt8)) (Vector.replicate 32 (0 : UInt8)), cown go_15 (rU UInt8) k_14 0 gc_16], []⟩ ?_
    replace hq1 := bnd_inv hq1
    obtain ⟨k_24, hx3, hq3⟩ := hq1
    refine JC.seqJ (γ := Option Nat × Nat) (stj := fun q => ⟨[(1, .one (.val (S (rL (rU UInt8)) b_2))), (4, .one (.val (PTR gb_3 0))), (5, .one (.val (HDR q.1 0 (List.length k_24) q.2)))], [cvar gb_3 (rV 32 (rU UInt8)) (Vector.replicate 32 (0 : UInt8)), cown q.1 (rU UInt8) k_24 0 q.2], []⟩) (fun q => ?_) ?_
    · obtain ⟨go_25, gc_26⟩ := q
      refine JC.at ⟨[(1, .one (.val (S (rL (rU UInt8)) b_2))), (4, .one (.val (PTR gb_3 0))), (5, .one (.val (HDR go_25 0 (List.length k_24) gc_26)))], [cvar gb_3 (rV 32 (rU UInt8)) (Vector.replicate 32 (0 : UInt8)), cown go_25 (rU UInt8) k_24 0 gc_26], []⟩ ?_
      refine JC.seq ?_
      refine JC.region ?_
      refine JL.cons rfl (op_assign (ltB rfl) HasO.nilH) ?_
      refine JL.cons rfl (op_assign (ltB rfl) HasO.nilH) ?_
      refine JL.nil ?_
      refine JQ.then ?_
      replace hq3 := bnd_inv hq3
      obtain ⟨⟨i_48, o_49⟩, hx6, hq6⟩ := hq3
      refine JC.seqJ (γ := Option Nat × Nat × Option Nat × Nat) (stj := fun q => ⟨[(1, .one (.val (S (rL (rU UInt8)) b_2))), (4, .one (.val (PTR gb_3 0))), (7, .one (.val (HDR q.1 0 (List.length i_48) q.2.1))), (8, .one (.val (HDR q.2.2.1 0 (List.length o_49) q.2.2.2)))], [cvar gb_3 (rV 32 (rU UInt8)) (Vector.replicate 32 (0 : UInt8)), cown q.1 (rU UInt8) i_48 0 q.2.1, cown q.2.2.1 (rU UInt8) o_49 0 q.2.2.2], []⟩) (fun q => ?_) ?_
      · obtain ⟨go_50, gc_51, go_52, gc_53⟩ := q
        refine JC.at ⟨[(1, .one (.val (S (rL (rU UInt8)) b_2))), (4, .one (.val (PTR gb_3 0))), (7, .one (.val (HDR go_50 0 (List.length i_48) gc_51))), (8, .one (.val (HDR go_52 0 (List.length o_49) gc_53)))], [cvar gb_3 (rV 32 (rU UInt8)) (Vector.replicate 32 (0 : UInt8)), cown go_50 (rU UInt8) i_48 0 gc_51, cown go_52 (rU UInt8) o_49 0 gc_53], []⟩ ?_
        refine JC.seq ?_
        refine JC.region ?_
        refine JL.cons rfl (op_move (ltB rfl) (.tmp rfl)) ?_
        refine JL.cons rfl (op_move (ltB rfl) (.tmp rfl)) ?_
        replace hq6 := bnd_inv hq6
        obtain ⟨i_54, hv_i_54, hq6⟩ := hq6
        refine JL.consX rfl (op_appendL (j := 1) (ltB rfl) tu25 tu25 rfl tB5 rfl (Nat.lt_of_lt_of_le Nat.zero_lt_one (Nat.le_of_ble_eq_true rfl)) (Nat.lt_of_lt_of_le Nat.zero_lt_one (Nat.le_of_ble_eq_true rfl))  rfl (.tmp rfl) (.tmp rfl) hv_i_54) (fun q => ?_)
        obtain ⟨go_55, gc_56⟩ := q
        refine JL.pre (Imp.sub (ρ' := [(4, .one (.val (PTR gb_3 0))), (8, .one (.val (HDR go_52 0 (List.length o_49) gc_53))), (48, .one (.val (HDR go_55 0 (List.length i_54) gc_56)))]) (.cons rfl (.cons rfl (.cons rfl .nil)))) ?_
        refine JL.at ⟨[(4, .one (.val (PTR gb_3 0))), (8, .one (.val (HDR go_52 0 (List.length o_49) gc_53))), (48, .one (.val (HDR go_55 0 (List.length i_54) gc_56)))], [cvar gb_3 (rV 32 (rU UInt8)) (Vector.replicate 32 (0 : UInt8)), cown go_55 (rU UInt8) i_54 0 gc_56, cown go_52 (rU UInt8) o_49 0 gc_53], []⟩ ?_
        replace hq6 := bnd_inv hq6
        obtain ⟨v_57, hv_v_57, hq6⟩ := hq6
        refine JL.pre (Imp.frz (j := 1) rfl (ImpK.slotH (s := 48) rfl ImpK.refl)) ?_
        refine JL.consX rfl (op_call (js := []) (ltD rfl) cl12 (sim_ref03_Sum k i_54 v_57 hv_v_57) .func (.cons (HasO.wk (.tmp rfl) wkHL) .nil) rfl) (fun _ => ?_)
        refine JL.pre (Imp.norm (ρ' := [(4, .one (.val (PTR gb_3 0))), (8, .one (.val (HDR go_52 0 (List.length o_49) gc_53))), (49, .one (.val (A (rV 32 (rU UInt8)) v_57)))]) (js := [0, 1]) rfl (.cons rfl (.cons rfl (.cons rfl .nil)))) ?_
        refine JL.at ⟨[(4, .one (.val (PTR gb_3 0))), (8, .one (.val (HDR go_52 0 (List.length o_49) gc_53))), (49, .one (.val (A (rV 32 (rU UInt8)) v_57)))], [cvar gb_3 (rV 32 (rU UInt8)) (Vector.replicate 32 (0 : UInt8)), cown go_52 (rU UInt8) o_49 0 gc_53], []⟩ ?_
        refine JL.consX rfl (op_alloc (ltB rfl) tZ28 zr28) (fun q => ?_)
        obtain ⟨gb_58, hqq⟩ : ∃ z, z = q := ⟨_, rfl⟩
        subst hqq
        refine JL.pre (Imp.sub (ρ' := [(4, .one (.val (PTR gb_3 0))), (8, .one (.val (HDR go_52 0 (List.length o_49) gc_53))), (10, .one (.val (PTR gb_58 0))), (49, .one (.val (A (rV 32 (rU UInt8)) v_57)))]) (.cons rfl (.cons rfl (.cons rfl (.cons rfl .nil))))) ?_
        refine JL.at ⟨[(4, .one (.val (PTR gb_3 0))), (8, .one (.val (HDR go_52 0 (List.length o_49) gc_53))), (10, .one (.val (PTR gb_58 0))), (49, .one (.val (A (rV 32 (rU UInt8)) v_57)))], [cvar gb_3 (rV 32 (rU UInt8)) (Vector.replicate 32 (0 : UInt8)), cown go_52 (rU UInt8) o_49 0 gc_53, cvar gb_58 (rV 32 (rU UInt8)) (Vector.replicate 32 (0 : UInt8))], []⟩ ?_
        refine JL.cons rfl (op_storeA (j := 2) tA28 (.tmp rfl) (.tmp rfl) rfl (UpdR.self (by rfl)) rfl) ?_
        refine JL.pre (Imp.sub (ρ' := [(4, .one (.val (PTR gb_3 0))), (8, .one (.val (HDR go_52 0 (List.length o_49) gc_53))), (10, .one (.val (PTR gb_58 0)))]) (.cons rfl (.cons rfl (.cons rfl .nil)))) ?_
        refine JL.at ⟨[(4, .one (.val (PTR gb_3 0))), (8, .one (.val (HDR go_52 0 (List.length o_49) gc_53))), (10, .one (.val (PTR gb_58 0)))], [cvar gb_3 (rV 32 (rU UInt8)) (Vector.replicate 32 (0 : UInt8)), cown go_52 (rU UInt8) o_49 0 gc_53, cvar gb_58 (rV 32 (rU UInt8)) v_57], []⟩ ?_
        refine JL.nil ?_
        refine JQ.then ?_
        refine JC.seq ?_
        refine JC.region ?_
        refine JL.cons rfl (op_move (ltB rfl) (.tmp rfl)) ?_
        replace hq6 := bnd_inv hq6
        obtain ⟨v_59, hv_v_59, hq6⟩ := hq6
        refine JL.pre (Imp.frzVar (j := 2) rfl (ImpK.slotP (s := 10) rfl (Comp.self (rV 32 (rU UInt8)) v_57) ImpK.refl)) ?_
        refine JL.cons rfl (op_sliceP (ltB rfl) tu28 tz5 (.tmp rfl) .none .none hv_v_59) ?_
        refine JL.pre (Imp.sub (ρ' := [(4, .one (.val (PTR gb_3 0))), (50, .one (.val (HDR go_52 0 (List.length o_49) gc_53))), (51, .one (.val (S (rL (rU UInt8)) v_59)))]) (.cons rfl (.cons rfl (.cons rfl .nil)))) ?_
        refine JL.at ⟨[(4, .one (.val (PTR gb_3 0))), (50, .one (.val (HDR go_52 0 (List.length o_49) gc_53))), (51, .one (.val (S (rL (rU UInt8)) v_59)))], [cvar gb_3 (rV 32 (rU UInt8)) (Vector.replicate 32 (0 : UInt8)), cown go_52 (rU UInt8) o_49 0 gc_53], []⟩ ?_
        replace hq6 := bnd_inv hq6
        obtain ⟨x_60, hv_x_60, hq6⟩ := hq6
        refine JL.consX rfl (op_appendL (j := 1) (ltB rfl) tu25 tu25 rfl tB5 rfl (Nat.lt_of_lt_of_le Nat.zero_lt_one (Nat.le_of_ble_eq_true rfl)) (Nat.lt_of_lt_of_le Nat.zero_lt_one (Nat.le_of_ble_eq_true rfl))  rfl (.tmp rfl) (.tmp rfl) hv_x_60) (fun q => ?_)
        obtain ⟨go_61, gc_62⟩ := q
        refine JL.pre (Imp.sub (ρ' := [(4, .one (.val (PTR gb_3 0))), (52, .one (.val (HDR go_61 0 (List.length x_60) gc_62)))]) (.cons rfl (.cons rfl .nil))) ?_
        refine JL.at ⟨[(4, .one (.val (PTR gb_3 0))), (52, .one (.val (HDR go_61 0 (List.length x_60) gc_62)))], [cvar gb_3 (rV 32 (rU UInt8)) (Vector.replicate 32 (0 : UInt8)), cown go_61 (rU UInt8) x_60 0 gc_62], []⟩ ?_
        replace hq6 := bnd_inv hq6
        obtain ⟨v_63, hv_v_63, hq6⟩ := hq6
        refine JL.pre (Imp.frz (j := 1) rfl (ImpK.slotH (s := 52) rfl ImpK.refl)) ?_
        refine JL.consX rfl (op_call (js := []) (ltD rfl) cl12 (sim_ref03_Sum k x_60 v_63 hv_v_63) .func (.cons (HasO.wk (.tmp rfl) wkHL) .nil) rfl) (fun _ => ?_)
        refine JL.pre (Imp.norm (ρ' := [(4, .one (.val (PTR gb_3 0))), (53, .one (.val (A (rV 32 (rU UInt8)) v_63)))]) (js := [0]) rfl (.cons rfl (.cons rfl .nil))) ?_
        refine JL.at ⟨[(4, .one (.val (PTR gb_3 0))), (53, .one (.val (A (rV 32 (rU UInt8)) v_63)))], [cvar gb_3 (rV 32 (rU UInt8)) (Vector.replicate 32 (0 : UInt8))], []⟩ ?_
        refine JL.cons rfl (op_storeA (j := 0) tA28 (.tmp rfl) (.tmp rfl) rfl (UpdR.self (by rfl)) rfl) ?_
        refine JL.pre (Imp.sub (ρ' := [(4, .one (.val (PTR gb_3 0)))]) (.cons rfl .nil)) ?_
        refine JL.at ⟨[(4, .one (.val (PTR gb_3 0)))], [cvar gb_3 (rV 32 (rU UInt8)) v_63], []⟩ ?_
        refine JL.nil ?_
        refine JQ.then ?_
        refine JC.ret ?_
        replace hq6 := Option.some.inj hq6
        subst hq6
        exact JQ.done (js := []) (ss := [.val (A (rV 32 (rU UInt8)) v_63)]) () (.inl rfl) (.nil rfl) rfl (.cons (.cellA (j := 0) tA28 rfl rfl) .nil) rfl rfl rfl
      · refine JC.seq ?_
        refine JC.region ?_
        refine JL.cons rfl (op_assign (ltB rfl) .cI) ?_
        refine JL.nil ?_
        refine JQ.then ?_
        refine JC.block ?_
        refine JC.pre (Imp.nilown (rU UInt8)) ?_
        refine JC.pre (Imp.nilown (rU UInt8)) ?_
        refine JC.pre ?_ (JC.loop (γ := Option Nat × Nat × Option Nat × Nat) (stf := fun s q => ⟨[(1, .one (.val (S (rL (rU UInt8)) b_2))), (4, .one (.val (PTR gb_3 0))), (5, .one (.val (HDR go_25 0 (List.length k_24) gc_26))), (7, .one (.val (HDR q.1 0 (List.length s.1) q.2.1))), (8, .one (.val (HDR q.2.2.1 0 (List.length s.2.1) q.2.2.2))), (9, .one (.val (S (rI .i64) s.2.2)))], [cvar gb_3 (rV 32 (rU UInt8)) (Vector.replicate 32 (0 : UInt8)), cown go_25 (rU UInt8) k_24 0 gc_26, cown q.1 (rU UInt8) s.1 0 q.2.1, cown q.2.2.1 (rU UInt8) s.2.1 0 q.2.2.2], []⟩) (q := (none, 0, none, 0)) hx6 ?_)
        · exact (Imp.norm (js := [0, 0, 0, 0]) rfl (.cons rfl (.cons rfl (.cons rfl (.cons rfl (.cons rfl (.cons rfl .nil)))))))
        · intro s q x hx hr
          obtain ⟨i_27, o_28, n_29⟩ := s
          obtain ⟨go_30, gc_31, go_32, gc_33⟩ := q
          change ref03_Code.b2 k k_24 i_27 o_28 n_29 = some x at hx
          unfold ref03_Code.b2 at hx
          refine JC.at ⟨[(1, .one (.val (S (rL (rU UInt8)) b_2))), (4, .one (.val (PTR gb_3 0))), (5, .one (.val (HDR go_25 0 (List.length k_24) gc_26))), (7, .one (.val (HDR go_30 0 (List.length i_27) gc_31))), (8, .one (.val (HDR go_32 0 (List.length o_28) gc_33))), (9, .one (.val (S (rI .i64) n_29)))], [cvar gb_3 (rV 32 (rU UInt8)) (Vector.replicate 32 (0 : UInt8)), cown go_25 (rU UInt8) k_24 0 gc_26, cown go_30 (rU UInt8) i_27 0 gc_31, cown go_32 (rU UInt8) o_28 0 gc_33], []⟩ ?_
          refine JC.seq ?_
          refine JC.seq ?_
          refine JC.region ?_
          refine JL.cons rfl (op_move (ltB rfl) (.tmp rfl)) ?_
          replace hx := lt1_inv hx
          obtain ⟨v_34, hv_v_34, hx⟩ := hx
          refine JL.cons rfl (op_cmpI (ltB rfl) (.tmp rfl) .cI (congrArg some hv_v_34)) ?_
          refine JL.nil ?_
          refine JQ.then ?_
          replace hx := iteB_inv hx
          rcases hx with ⟨hc8, hx⟩ | ⟨hc8, hx⟩
          · refine JC.condT (.tmp rfl) hc8 ?_
            refine JC.skip ?_
            refine JQ.then ?_
            refine JC.seq ?_
            refine JC.block ?_
            refine JC.seq ?_
            refine JC.region ?_
            refine JL.cons rfl (op_move (ltB rfl) (.tmp rfl)) ?_
            refine JL.cons rfl (op_move (ltB rfl) (.tmp rfl)) ?_
            refine JL.cons rfl (op_move (ltB rfl) (.tmp rfl)) ?_
            replace hx := bnd_inv hx
            obtain ⟨i_35, hv_i_35, hx⟩ := hx
            refine JL.cons rfl (op_indexAddrOF (r := (rU UInt8)) (j := 1) (ltB rfl) tu25 tz5 rfl (.tmp rfl) (.tmp rfl) hv_i_35) ?_
            refine JL.pre (Imp.sub (ρ' := [(1, .one (.val (S (rL (rU UInt8)) b_2))), (4, .one (.val (PTR gb_3 0))), (5, .one (.val (HDR go_25 0 (List.length k_24) gc_26))), (7, .one (.val (HDR go_30 0 (List.length i_27) gc_31))), (8, .one (.val (HDR go_32 0 (List.length o_28) gc_33))), (9, .one (.val (S (rI .i64) n_29))), (30, .one (.val (HDR go_30 0 (List.length i_27) gc_31))), (33, .one (.val (EPT go_25 (i_35 * 1))))]) (.cons rfl (.cons rfl (.cons rfl (.cons rfl (.cons rfl (.cons rfl (.cons rfl (.cons rfl .nil))))))))) ?_
            refine JL.at ⟨[(1, .one (.val (S (rL (rU UInt8)) b_2))), (4, .one (.val (PTR gb_3 0))), (5, .one (.val (HDR go_25 0 (List.length k_24) gc_26))), (7, .one (.val (HDR go_30 0 (List.length i_27) gc_31))), (8, .one (.val (HDR go_32 0 (List.length o_28) gc_33))), (9, .one (.val (S (rI .i64) n_29))), (30, .one (.val (HDR go_30 0 (List.length i_27) gc_31))), (33, .one (.val (EPT go_25 (i_35 * 1))))], [cvar gb_3 (rV 32 (rU UInt8)) (Vector.replicate 32 (0 : UInt8)), cown go_25 (rU UInt8) k_24 0 gc_26, cown go_30 (rU UInt8) i_27 0 gc_31, cown go_32 (rU UInt8) o_28 0 gc_33], []⟩ ?_
            replace hx := bnd_inv hx
            obtain ⟨v_36, hv_v_36, hx⟩ := hx
            refine JL.cons rfl (op_loadOS (r := (rU UInt8)) (i := i_35) (off := 0) (j := 1) (ltB rfl) tS5 rfl rfl (.tmp rfl) hv_v_36 (Comp.self (rU UInt8) v_36) (by decide)) ?_
            replace hx := lt1_inv hx
            obtain ⟨v_37, hv_v_37, hx⟩ := hx
            refine JL.cons rfl (op_arU (ltB rfl) (.tmp rfl) (HasO.cU (x := (54 : UInt8)) rfl (by decide)) (congrArg some hv_v_37)) ?_
            refine JL.cons rfl (op_buildF (r := (rU UInt8)) (ltB rfl) tu25 tz5 tZ5 rfl (Nat.le_of_ble_eq_true rfl) (.S rfl (.tmp rfl) .nil) rfl) ?_
            replace hx := bnd_inv hx
            obtain ⟨i_38, hv_i_38, hx⟩ := hx
            refine JL.consX rfl (op_appendL (j := 2) (ltB rfl) tu25 tu25 rfl tB5 rfl (Nat.lt_of_lt_of_le Nat.zero_lt_one (Nat.le_of_ble_eq_true rfl)) (Nat.lt_of_lt_of_le Nat.zero_lt_one (Nat.le_of_ble_eq_true rfl))  rfl (.tmp rfl) (.tmp rfl) hv_i_38) (fun q => ?_)
            obtain ⟨go_39, gc_40⟩ := q
            refine JL.pre (Imp.sub (ρ' := [(1, .one (.val (S (rL (rU UInt8)) b_2))), (4, .one (.val (PTR gb_3 0))), (5, .one (.val (HDR go_25 0 (List.length k_24) gc_26))), (8, .one (.val (HDR go_32 0 (List.length o_28) gc_33))), (9, .one (.val (S (rI .i64) n_29))), (37, .one (.val (HDR go_39 0 (List.length i_38) gc_40)))]) (.cons rfl (.cons rfl (.cons rfl (.cons rfl (.cons rfl (.cons rfl .nil))))))) ?_
            refine JL.at ⟨[(1, .one (.val (S (rL (rU UInt8)) b_2))), (4, .one (.val (PTR gb_3 0))), (5, .one (.val (HDR go_25 0 (List.length k_24) gc_26))), (8, .one (.val (HDR go_32 0 (List.length o_28) gc_33))), (9, .one (.val (S (rI .i64) n_29))), (37, .one (.val (HDR go_39 0 (List.length i_38) gc_40)))], [cvar gb_3 (rV 32 (rU UInt8)) (Vector.replicate 32 (0 : UInt8)), cown go_25 (rU UInt8) k_24 0 gc_26, cown go_39 (rU UInt8) i_38 0 gc_40, cown go_32 (rU UInt8) o_28 0 gc_33], []⟩ ?_
            refine JL.cons rfl (op_assign (ltB rfl) (.tmp rfl)) ?_
            refine JL.nil ?_
            refine JQ.then ?_
            refine JC.region ?_
            refine JL.cons rfl (op_move (ltB rfl) (.tmp rfl)) ?_
            refine JL.cons rfl (op_move (ltB rfl) (.tmp rfl)) ?_
            refine JL.cons rfl (op_move (ltB rfl) (.tmp rfl)) ?_
            replace hx := bnd_inv hx
            obtain ⟨i_41, hv_i_41, hx⟩ := hx
            refine JL.cons rfl (op_indexAddrOF (r := (rU UInt8)) (j := 1) (ltB rfl) tu25 tz5 rfl (.tmp rfl) (.tmp rfl) hv_i_41) ?_
            replace hx := bnd_inv hx
            obtain ⟨v_42, hv_v_42, hx⟩ := hx
            refine JL.cons rfl (op_loadOS (r := (rU UInt8)) (i := i_41) (off := 0) (j := 1) (ltB rfl) tS5 rfl rfl (.tmp rfl) hv_v_42 (Comp.self (rU UInt8) v_42) (by decide)) ?_
            refine JL.pre (Imp.sub (ρ' := [(1, .one (.val (S (rL (rU UInt8)) b_2))), (4, .one (.val (PTR gb_3 0))), (5, .one (.val (HDR go_25 0 (List.length k_24) gc_26))), (7, .one (.val (HDR go_39 0 (List.length i_38) gc_40))), (8, .one (.val (HDR go_32 0 (List.length o_28) gc_33))), (9, .one (.val (S (rI .i64) n_29))), (38, .one (.val (HDR go_32 0 (List.length o_28) gc_33))), (42, .one (.val (S (rU UInt8) v_42)))]) (.cons rfl (.cons rfl (.cons rfl (.cons rfl (.cons rfl (.cons rfl (.cons rfl (.cons rfl .nil))))))))) ?_
            refine JL.at ⟨[(1, .one (.val (S (rL (rU UInt8)) b_2))), (4, .one (.val (PTR gb_3 0))), (5, .one (.val (HDR go_25 0 (List.length k_24) gc_26))), (7, .one (.val (HDR go_39 0 (List.length i_38) gc_40))), (8, .one (.val (HDR go_32 0 (List.length o_28) gc_33))), (9, .one (.val (S (rI .i64) n_29))), (38, .one (.val (HDR go_32 0 (List.length o_28) gc_33))), (42, .one (.val (S (rU UInt8) v_42)))], [cvar gb_3 (rV 32 (rU UInt8)) (Vector.replicate 32 (0 : UInt8)), cown go_25 (rU UInt8) k_24 0 gc_26, cown go_39 (rU UInt8) i_38 0 gc_40, cown go_32 (rU UInt8) o_28 0 gc_33], []⟩ ?_
            replace hx := lt1_inv hx
            obtain ⟨v_43, hv_v_43, hx⟩ := hx
            refine JL.cons rfl (op_arU (ltB rfl) (.tmp rfl) (HasO.cU (x := (92 : UInt8)) rfl (by decide)) (congrArg some hv_v_43)) ?_
            refine JL.cons rfl (op_buildF (r := (rU UInt8)) (ltB rfl) tu25 tz5 tZ5 rfl (Nat.le_of_ble_eq_true rfl) (.S rfl (.tmp rfl) .nil) rfl) ?_
            replace hx := bnd_inv hx
            obtain ⟨o_44, hv_o_44, hx⟩ := hx
            refine JL.consX rfl (op_appendL (j := 3) (ltB rfl) tu25 tu25 rfl tB5 rfl (Nat.lt_of_lt_of_le Nat.zero_lt_one (Nat.le_of_ble_eq_true rfl)) (Nat.lt_of_lt_of_le Nat.zero_lt_one (Nat.le_of_ble_eq_true rfl))  rfl (.tmp rfl) (.tmp rfl) hv_o_44) (fun q => ?_)
            obtain ⟨go_45, gc_46⟩ := q
            refine JL.pre (Imp.sub (ρ' := [(1, .one (.val (S (rL (rU UInt8)) b_2))), (4, .one (.val (PTR gb_3 0))), (5, .one (.val (HDR go_25 0 (List.length k_24) gc_26))), (7, .one (.val (HDR go_39 0 (List.length i_38) gc_40))), (9, .one (.val (S (rI .i64) n_29))), (45, .one (.val (HDR go_45 0 (List.length o_44) gc_46)))]) (.cons rfl (.cons rfl (.cons rfl (.cons rfl (.cons rfl (.cons rfl .nil))))))) ?_
            refine JL.at ⟨[(1, .one (.val (S (rL (rU UInt8)) b_2))), (4, .one (.val (PTR gb_3 0))), (5, .one (.val (HDR go_25 0 (List.length k_24) gc_26))), (7, .one (.val (HDR go_39 0 (List.length i_38) gc_40))), (9, .one (.val (S (rI .i64) n_29))), (45, .one (.val (HDR go_45 0 (List.length o_44) gc_46)))], [cvar gb_3 (rV 32 (rU UInt8)) (Vector.replicate 32 (0 : UInt8)), cown go_25 (rU UInt8) k_24 0 gc_26, cown go_39 (rU UInt8) i_38 0 gc_40, cown go_45 (rU UInt8) o_44 0 gc_46], []⟩ ?_
            refine JL.cons rfl (op_assign (ltB rfl) (.tmp rfl)) ?_
            refine JL.nil ?_
            refine JQ.outNB ?_
            refine JQ.then ?_
            refine JC.region ?_
            refine JL.cons rfl (op_move (ltB rfl) (.tmp rfl)) ?_
            replace hx := lt1_inv hx
            obtain ⟨v_47, hv_v_47, hx⟩ := hx
            refine JL.cons rfl (op_arI (ltB rfl) (.tmp rfl) .cI (congrArg some hv_v_47)) ?_
            refine JL.cons rfl (op_assign (ltB rfl) (.tmp rfl)) ?_
            refine JL.nil ?_
            replace hx := Option.some.inj hx
            first | subst hx | clear hx
            exact JQ.next (go_39, gc_40, go_45, gc_46) rfl (Imp.norm (js := [0, 0, 0, 0]) rfl (.cons rfl (.cons rfl (.cons rfl (.cons rfl (.cons rfl (.cons rfl .nil)))))))
          · refine JC.condF (.tmp rfl) hc8 ?_
            refine JC.exit ?_
            refine JQ.outX ?_
            replace hx := Option.some.inj hx
            first | subst hx | clear hx
            have ht := hr _ rfl
            have hq7 := congrArg some ht
            clear hr ht
            refine JQ.outX ?_
            refine JQ.here ?_
            replace hq7 := Option.some.inj hq7
            replace hq7 := Prod.mk.inj hq7
            obtain ⟨hq7_a, hq7⟩ := hq7
            first | subst hq7_a | clear hq7_a
            first | subst hq7 | clear hq7
            exact JQ.join (go_30, gc_31, go_32, gc_33) (Imp.norm (js := [0, 1, 1]) rfl (.cons rfl (.cons rfl (.cons rfl (.cons rfl .nil)))))
    · refine JC.block ?_
      refine JC.pre ?_ (JC.loop (γ := Option Nat × Nat) (stf := fun s q => ⟨[(1, .one (.val (S (rL (rU UInt8)) b_2))), (4, .one (.val (PTR gb_3 0))), (5, .one (.val (HDR q.1 0 (List.length s) q.2)))], [cvar gb_3 (rV 32 (rU UInt8)) (Vector.replicate 32 (0 : UInt8)), cown q.1 (rU UInt8) s 0 q.2], []⟩) (q := (go_15, gc_16)) hx3 ?_)
      · exact (Imp.norm (js := [0, 0]) rfl (.cons rfl (.cons rfl (.cons rfl .nil))))
      · intro k_17 q x hx hr
        obtain ⟨go_18, gc_19⟩ := q
        change ref03_Code.b1 k k_17 = some x at hx
        unfold ref03_Code.b1 at hx
        refine JC.at ⟨[(1, .one (.val (S (rL (rU UInt8)) b_2))), (4, .one (.val (PTR gb_3 0))), (5, .one (.val (HDR go_18 0 (List.length k_17) gc_19)))], [cvar gb_3 (rV 32 (rU UInt8)) (Vector.replicate 32 (0 : UInt8)), cown go_18 (rU UInt8) k_17 0 gc_19], []⟩ ?_
        refine JC.seq ?_
        refine JC.seq ?_
        refine JC.region ?_
        refine JL.cons rfl (op_move (ltB rfl) (.tmp rfl)) ?_
        refine JL.cons rfl (op_lenH (ltB rfl) tu25 (.tmp rfl)) ?_
        replace hx := lt1_inv hx
        obtain ⟨v_20, hv_v_20, hx⟩ := hx
        refine JL.cons rfl (op_cmpI (ltB rfl) (.tmp rfl) .cI (congrArg some hv_v_20)) ?_
        refine JL.nil ?_
        refine JQ.then ?_
        replace hx := iteB_inv hx
        rcases hx with ⟨hc5, hx⟩ | ⟨hc5, hx⟩
        · refine JC.condT (.tmp rfl) hc5 ?_
          refine JC.skip ?_
          refine JQ.then ?_
          refine JC.block ?_
          refine JC.region ?_
          refine JL.cons rfl (op_move (ltB rfl) (.tmp rfl)) ?_
          refine JL.cons rfl (op_buildF (r := (rU UInt8)) (ltB rfl) tu25 tz5 tZ5 rfl (Nat.le_of_ble_eq_true rfl) (.S rfl (HasO.cU (x := (0 : UInt8)) rfl (by decide)) .nil) rfl) ?_
          replace hx := bnd_inv hx
          obtain ⟨k_21, hv_k_21, hx⟩ := hx
          refine JL.consX rfl (op_appendL (j := 1) (ltB rfl) tu25 tu25 rfl tB5 rfl (Nat.lt_of_lt_of_le Nat.zero_lt_one (Nat.le_of_ble_eq_true rfl)) (Nat.lt_of_lt_of_le Nat.zero_lt_one (Nat.le_of_ble_eq_true rfl))  rfl (.tmp rfl) (.tmp rfl) hv_k_21) (fun q => ?_)
          obtain ⟨go_22, gc_23⟩ := q
          refine JL.pre (Imp.sub (ρ' := [(1, .one (.val (S (rL (rU UInt8)) b_2))), (4, .one (.val (PTR gb_3 0))), (25, .one (.val (HDR go_22 0 (List.length k_21) gc_23)))]) (.cons rfl (.cons rfl (.cons rfl .nil)))) ?_
          refine JL.at ⟨[(1, .one (.val (S (rL (rU UInt8)) b_2))), (4, .one (.val (PTR gb_3 0))), (25, .one (.val (HDR go_22 0 (List.length k_21) gc_23)))], [cvar gb_3 (rV 32 (rU UInt8)) (Vector.replicate 32 (0 : UInt8)), cown go_22 (rU UInt8) k_21 0 gc_23], []⟩ ?_
          refine JL.cons rfl (op_assign (ltB rfl) (.tmp rfl)) ?_
          refine JL.nil ?_
          refine JQ.outNB ?_
          replace hx := Option.some.inj hx
          first | subst hx | clear hx
          exact JQ.next (go_22, gc_23) rfl (Imp.norm (js := [0, 0]) rfl (.cons rfl (.cons rfl (.cons rfl .nil))))
        · refine JC.condF (.tmp rfl) hc5 ?_
          refine JC.exit ?_
          refine JQ.outX ?_
          replace hx := Option.some.inj hx
          first | subst hx | clear hx
          have ht := hr _ rfl
          have hq4 := congrArg some ht
          clear hr ht
          refine JQ.outX ?_
          refine JQ.here ?_
          replace hq4 := Option.some.inj hq4
          first | subst hq4 | clear hq4
          exact JQ.join (go_18, gc_19) (Imp.norm (js := [0, 0]) rfl (.cons rfl (.cons rfl (.cons rfl .nil))))
  · refine JC.seq ?_
    refine JC.region ?_
    refine JL.cons rfl (op_move (ltB rfl) (.tmp rfl)) ?_
    refine JL.cons rfl (op_lenH (ltB rfl) tu25 (.tmp rfl)) ?_
    replace hx1 := lt1_inv hx1
    obtain ⟨v_7, hv_v_7, hx1⟩ := hx1
    refine JL.cons rfl (op_cmpI (ltB rfl) (.tmp rfl) .cI (congrArg some hv_v_7)) ?_
    refine JL.nil ?_
    refine JQ.then ?_
    replace hx1 := iteB_inv hx1
    rcases hx1 with ⟨hc2, hx1⟩ | ⟨hc2, hx1⟩
    · refine JC.condT (.tmp rfl) hc2 ?_
      refine JC.seq ?_
      refine JC.region ?_
      refine JL.cons rfl (op_move (ltB rfl) (.tmp rfl)) ?_
      replace hx1 := bnd_inv hx1
      obtain ⟨v_8, hv_v_8, hx1⟩ := hx1
      refine JL.consX rfl (op_call (js := []) (ltD rfl) cl12 (sim_ref03_Sum k secret_1 v_8 hv_v_8) .func (.cons (.tmp rfl) .nil) rfl) (fun _ => ?_)
      refine JL.pre (Imp.norm (ρ' := [(1, .one (.val (S (rL (rU UInt8)) b_2))), (4, .one (.val (PTR gb_3 0))), (17, .one (.val (A (rV 32 (rU UInt8)) v_8)))]) (js := [0]) rfl (.cons rfl (.cons rfl (.cons rfl .nil)))) ?_
      refine JL.at ⟨[(1, .one (.val (S (rL (rU UInt8)) b_2))), (4, .one (.val (PTR gb_3 0))), (17, .one (.val (A (rV 32 (rU UInt8)) v_8)))], [cvar gb_3 (rV 32 (rU UInt8)) (Vector.replicate 32 (0 : UInt8))], []⟩ ?_
      refine JL.consX rfl (op_alloc (ltB rfl) tZ28 zr28) (fun q => ?_)
      obtain ⟨gb_9, hqq⟩ : ∃ z, z = q := ⟨_, rfl⟩
      subst hqq
      refine JL.pre (Imp.sub (ρ' := [(1, .one (.val (S (rL (rU UInt8)) b_2))), (4, .one (.val (PTR gb_3 0))), (6, .one (.val (PTR gb_9 0))), (17, .one (.val (A (rV 32 (rU UInt8)) v_8)))]) (.cons rfl (.cons rfl (.cons rfl (.cons rfl .nil))))) ?_
      refine JL.at ⟨[(1, .one (.val (S (rL (rU UInt8)) b_2))), (4, .one (.val (PTR gb_3 0))), (6, .one (.val (PTR gb_9 0))), (17, .one (.val (A (rV 32 (rU UInt8)) v_8)))], [cvar gb_3 (rV 32 (rU UInt8)) (Vector.replicate 32 (0 : UInt8)), cvar gb_9 (rV 32 (rU UInt8)) (Vector.replicate 32 (0 : UInt8))], []⟩ ?_
      refine JL.cons rfl (op_storeA (j := 1) tA28 (.tmp rfl) (.tmp rfl) rfl (UpdR.self (by rfl)) rfl) ?_
      refine JL.pre (Imp.sub (ρ' := [(1, .one (.val (S (rL (rU UInt8)) b_2))), (4, .one (.val (PTR gb_3 0))), (6, .one (.val (PTR gb_9 0)))]) (.cons rfl (.cons rfl (.cons rfl .nil)))) ?_
      refine JL.at ⟨[(1, .one (.val (S (rL (rU UInt8)) b_2))), (4, .one (.val (PTR gb_3 0))), (6, .one (.val (PTR gb_9 0)))], [cvar gb_3 (rV 32 (rU UInt8)) (Vector.replicate 32 (0 : UInt8)), cvar gb_9 (rV 32 (rU UInt8)) v_8], []⟩ ?_
      refine JL.nil ?_
      refine JQ.then ?_
      refine JC.region ?_
      replace hx1 := bnd_inv hx1
      obtain ⟨v_10, hv_v_10, hx1⟩ := hx1
      refine JL.pre (Imp.frzVar (j := 1) rfl (ImpK.slotP (s := 6) rfl (Comp.self (rV 32 (rU UInt8)) v_8) ImpK.refl)) ?_
      refine JL.cons rfl (op_sliceP (ltB rfl) tu28 tz5 (.tmp rfl) .none .none hv_v_10) ?_
      refine JL.pre (Imp.sub (ρ' := [(1, .one (.val (S (rL (rU UInt8)) b_2))), (4, .one (.val (PTR gb_3 0))), (18, .one (.val (S (rL (rU UInt8)) v_10)))]) (.cons rfl (.cons rfl (.cons rfl .nil)))) ?_
      refine JL.at ⟨[(1, .one (.val (S (rL (rU UInt8)) b_2))), (4, .one (.val (PTR gb_3 0))), (18, .one (.val (S (rL (rU UInt8)) v_10)))], [cvar gb_3 (rV 32 (rU UInt8)) (Vector.replicate 32 (0 : UInt8))], []⟩ ?_
      replace hx1 := bnd_inv hx1
      obtain ⟨v_11, hv_v_11, hx1⟩ := hx1
      refine JL.pre (Imp.nilown (rU UInt8)) ?_
      refine JL.consX rfl (op_appendL (j := 1) (ltB rfl) tu25 tu25 rfl tB5 rfl (Nat.lt_of_lt_of_le Nat.zero_lt_one (Nat.le_of_ble_eq_true rfl)) (Nat.lt_of_lt_of_le Nat.zero_lt_one (Nat.le_of_ble_eq_true rfl))  rfl HasO.nilH (.tmp rfl) hv_v_11) (fun q => ?_)
      obtain ⟨go_12, gc_13⟩ := q
      refine JL.pre (Imp.sub (ρ' := [(1, .one (.val (S (rL (rU UInt8)) b_2))), (4, .one (.val (PTR gb_3 0))), (19, .one (.val (HDR go_12 0 (List.length v_11) gc_13)))]) (.cons rfl (.cons rfl (.cons rfl .nil)))) ?_
      refine JL.at ⟨[(1, .one (.val (S (rL (rU UInt8)) b_2))), (4, .one (.val (PTR gb_3 0))), (19, .one (.val (HDR go_12 0 (List.length v_11) gc_13)))], [cvar gb_3 (rV 32 (rU UInt8)) (Vector.replicate 32 (0 : UInt8)), cown go_12 (rU UInt8) v_11 0 gc_13], []⟩ ?_
      refine JL.cons rfl (op_assign (ltB rfl) (.tmp rfl)) ?_
      refine JL.nil ?_
      replace hx1 := Option.some.inj hx1
      first | subst hx1 | clear hx1
      exact JQ.join (go_12, gc_13) (Imp.norm (js := [0, 0]) rfl (.cons rfl (.cons rfl (.cons rfl .nil))))
    · refine JC.condF (.tmp rfl) hc2 ?_
      refine JC.skip ?_
      replace hx1 := Option.some.inj hx1
      first | subst hx1 | clear hx1
      exact JQ.join (go_5, gc_6) (Imp.norm (js := [0, 0]) rfl (.cons rfl (.cons rfl (.cons rfl .nil))))

end Go.Proofs.Ytdncoiehmkcajaa
