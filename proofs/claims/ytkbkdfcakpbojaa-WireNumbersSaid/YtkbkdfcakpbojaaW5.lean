/- Walks. -/
import Derived.Test.YtkbkdfcakpbojaaT
import Derived.Test.YtkbkdfcakpbojaaW0
import Derived.Test.YtkbkdfcakpbojaaW1
import Derived.Test.YtkbkdfcakpbojaaW3
import Derived.Test.YtkbkdfcakpbojaaW4
namespace Go.Proofs.Ytkbkdfcakpbojaa
open Go Fw
set_option linter.unusedVariables false
set_option maxRecDepth 100000
set_option maxHeartbeats 4000000

theorem sim_law01_WireNumbers (k : Nat) (t_1 : UInt64) (a_2 : Int) (a_3 : (List UInt8)) (r : Bool) (hm : law01_WireNumbers k t_1 a_2 a_3 = some r) : Sim Try.prog 3 [S (rU UInt64) t_1, S (rI .i64) a_2, S (rL (rU UInt8)) a_3] [] (γ := Unit) (fun q => []) (fun q => .one (.val (S rB r))) := by
  unfold law01_WireNumbers at hm
  refine Sim.of Try.func3 rfl rfl (Nat.le_of_ble_eq_true rfl) (fun e0 w0 => ?_)
  refine JC.at ⟨[(0, .one (.val (S (rU UInt64) t_1))), (1, .one (.val (S (rI .i64) a_2))), (2, .one (.val (S (rL (rU UInt8)) a_3)))], [], []⟩ ?_
  refine JC.seq ?_
  refine JC.region ?_
  refine JL.cons rfl (op_assign (ltB rfl) .cB) ?_
  refine JL.nil ?_
  refine JQ.then ?_
  refine JC.seq ?_
  refine JC.seq ?_
  refine JC.region ?_
  refine JL.cons rfl (op_move (ltB rfl) (.tmp rfl)) ?_
  refine JL.cons rfl (op_lenL (ltB rfl) tu23 (.tmp rfl)) ?_
  replace hm := lt1_inv hm
  obtain ⟨v_4, hv_v_4, hm⟩ := hm
  refine JL.cons rfl (op_cmpI (ltB rfl) (.tmp rfl) .cI (congrArg some hv_v_4)) ?_
  refine JL.nil ?_
  refine JQ.then ?_
  rcases iteB_inv hm with ⟨hc1, hm⟩ | ⟨hc1, hm⟩
  · refine JC.condT (.tmp rfl) hc1 ?_
    refine JC.seq ?_
    refine JC.region ?_
    replace hm := bnd_inv hm
    obtain ⟨v_5, hv_v_5, hm⟩ := hm
    refine JL.consX rfl (op_call (js := []) (ltD rfl) cl9 (sim_law01_known k v_5 hv_v_5) .func .nil rfl) (fun _ => ?_)
    refine JL.cons rfl (op_assign (ltB rfl) (.tmp rfl)) ?_
    refine JL.pre (Imp.sub (ρ' := [(6, .one (.val (S rB v_5)))]) (.cons rfl .nil)) ?_
    refine JL.at ⟨[(6, .one (.val (S rB v_5)))], [], []⟩ ?_
    refine JL.nil ?_
    refine JQ.then ?_
    refine JC.ret ?_
    refine JQ.outR ?_
    replace hm := Option.some.inj hm
    subst hm
    exact JQ.done (js := []) (ss := [.val (S rB v_5)]) () (.inl rfl) (.nil rfl) rfl (.cons (.tmp rfl) .nil) rfl rfl rfl
  · refine JC.condF (.tmp rfl) hc1 ?_
    refine JC.skip ?_
    refine JQ.then ?_
    refine JC.seq ?_
    refine JC.region ?_
    refine JL.cons rfl (op_move (ltB rfl) (.tmp rfl)) ?_
    refine JL.cons rfl (op_move (ltB rfl) (.tmp rfl)) ?_
    refine JL.pre (Imp.sub (ρ' := [(0, .one (.val (S (rU UInt64) t_1))), (1, .one (.val (S (rI .i64) a_2))), (2, .one (.val (S (rL (rU UInt8)) a_3))), (16, .one (.val (S (rU UInt64) t_1))), (17, .one (.val (S (rI .i64) a_2)))]) (.cons rfl (.cons rfl (.cons rfl (.cons rfl (.cons rfl .nil)))))) ?_
    refine JL.at ⟨[(0, .one (.val (S (rU UInt64) t_1))), (1, .one (.val (S (rI .i64) a_2))), (2, .one (.val (S (rL (rU UInt8)) a_3))), (16, .one (.val (S (rU UInt64) t_1))), (17, .one (.val (S (rI .i64) a_2)))], [], []⟩ ?_
    replace hm := bnd_inv hm
    obtain ⟨⟨v_6, v_7⟩, hv_v_6, hm⟩ := hm
    refine JL.consX rfl (op_call (js := []) (ltD rfl) cl10 (sim_wire_Put k t_1 a_2 (v_6, v_7) hv_v_6) .func (.cons (.tmp rfl) (.cons (.tmp rfl) .nil)) rfl) (fun q => ?_)
    obtain ⟨go_8, gc_9⟩ := q
    refine JL.pre (Imp.sub (ρ' := [(0, .one (.val (S (rU UInt64) t_1))), (1, .one (.val (S (rI .i64) a_2))), (2, .one (.val (S (rL (rU UInt8)) a_3))), (18, .tup [.val (HDR go_8 0 (List.length v_6) gc_9), .val (S (rI .i64) v_7)])]) (.cons rfl (.cons rfl (.cons rfl (.cons rfl .nil))))) ?_
    refine JL.at ⟨[(0, .one (.val (S (rU UInt64) t_1))), (1, .one (.val (S (rI .i64) a_2))), (2, .one (.val (S (rL (rU UInt8)) a_3))), (18, .tup [.val (HDR go_8 0 (List.length v_6) gc_9), .val (S (rI .i64) v_7)])], [cown go_8 (rU UInt8) v_6 0 gc_9], []⟩ ?_
    refine JL.cons rfl (op_move (ltB rfl) (.tmp rfl)) ?_
    refine JL.cons rfl (op_extract (i := 0) (ltB rfl) (.tmp rfl) rfl) ?_
    refine JL.cons rfl (op_extract (i := 1) (ltB rfl) (.tmp rfl) rfl) ?_
    refine JL.cons rfl (op_assign (ltB rfl) (.tmp rfl)) ?_
    refine JL.cons rfl (op_assign (ltB rfl) (.tmp rfl)) ?_
    refine JL.nil ?_
    refine JQ.then ?_
    obtain ⟨tv2, hx2, hq2⟩ := bnd_inv hm
    refine JC.seqK (α := Unit) (γ := Unit) (stj := fun v q => ⟨[(2, .one (.val (S (rL (rU UInt8)) a_3)))], [], []⟩) (p := fun v => tv2 = (.inl v)) (fun v q hv => ?_) ?_
    · subst hv
      skip
      obtain _ := q
      dsimp only at hq2
      refine JC.at ⟨[(2, .one (.val (S (rL (rU UInt8)) a_3)))], [], []⟩ ?_
      refine JC.seq ?_
      refine JC.region ?_
      refine JL.cons rfl (op_move (ltB rfl) (.tmp rfl)) ?_
      replace hq2 := bnd_inv hq2
      obtain ⟨⟨v_23, v_24⟩, hv_v_23, hq2⟩ := hq2
      refine JL.consX rfl (op_call (js := []) (ltD rfl) cl14 (sim_wire_Get k a_3 (v_23, v_24) hv_v_23) .func (.cons (.tmp rfl) .nil) rfl) (fun _ => ?_)
      refine JL.cons rfl (op_move (ltB rfl) (.tmp rfl)) ?_
      refine JL.cons rfl (op_extract (i := 0) (ltB rfl) (.tmp rfl) rfl) ?_
      refine JL.cons rfl (op_extract (i := 1) (ltB rfl) (.tmp rfl) rfl) ?_
      refine JL.cons rfl (op_assign (ltB rfl) (.tmp rfl)) ?_
      refine JL.pre (Imp.sub (ρ' := [(2, .one (.val (S (rL (rU UInt8)) a_3))), (9, .one (.val (S (rU UInt64) v_23))), (48, .one (.val (S (rI .i64) v_24)))]) (.cons rfl (.cons rfl (.cons rfl .nil)))) ?_
      refine JL.at ⟨[(2, .one (.val (S (rL (rU UInt8)) a_3))), (9, .one (.val (S (rU UInt64) v_23))), (48, .one (.val (S (rI .i64) v_24)))], [], []⟩ ?_
      refine JL.cons rfl (op_assign (ltB rfl) (.tmp rfl)) ?_
      refine JL.nil ?_
      refine JQ.then ?_
      refine JC.seq ?_
      obtain ⟨x_28, hx16, hq16⟩ := bnd_inv hq2
      refine JC.seqJ (γ := Unit) (stj := fun q => ⟨[(2, .one (.val (S (rL (rU UInt8)) a_3))), (9, .one (.val (S (rU UInt64) v_23))), (10, .one (.val (S (rI .i64) v_24))), (56, .one (.val (S rB x_28)))], [], []⟩) (fun q => ?_) ?_
      · obtain _ := q
        refine JC.at ⟨[(2, .one (.val (S (rL (rU UInt8)) a_3))), (9, .one (.val (S (rU UInt64) v_23))), (10, .one (.val (S (rI .i64) v_24))), (56, .one (.val (S rB x_28)))], [], []⟩ ?_
        rcases iteB_inv hq16 with ⟨hc21, hq16⟩ | ⟨hc21, hq16⟩
        · refine JC.condT (.tmp rfl) hc21 ?_
          obtain ⟨x_35, hx22, hq22⟩ := bnd_inv hq16
          refine JC.seqJ (γ := Unit) (stj := fun q => ⟨[(6, .one (.val (S rB x_35)))], [], []⟩) (fun q => ?_) ?_
          · obtain _ := q
            refine JC.at ⟨[(6, .one (.val (S rB x_35)))], [], []⟩ ?_
            refine JC.ret ?_
            refine JQ.outR ?_
            replace hq22 := Option.some.inj hq22
            subst hq22
            exact JQ.done (js := []) (ss := [.val (S rB x_35)]) () (.inl rfl) (.nil rfl) rfl (.cons (.tmp rfl) .nil) rfl rfl rfl
          · refine JC.region ?_
            refine JL.cons rfl (op_move (ltB rfl) (.tmp rfl)) ?_
            replace hx22 := lt1_inv hx22
            obtain ⟨v_29, hv_v_29, hx22⟩ := hx22
            refine JL.cons rfl (op_cmpU (ltB rfl) (.tmp rfl) (HasO.cU (x := (0 : UInt64)) rfl (by decide)) (congrArg some hv_v_29)) ?_
            refine JL.cons rfl (op_move (ltB rfl) (.tmp rfl)) ?_
            refine JL.cnd (sv := .one (.val (S (rI .i64) v_24))) (Guard.isT (ltB rfl) rfl rfl) rfl (ltB rfl) (fun hq_23 => op_move (ltB rfl) (.tmp rfl)) ?_
            replace hx22 := bnd_inv hx22
            obtain ⟨_, hv_u_30, hx22⟩ := hx22
            refine JL.cnd (sv := .one (.val (S (rI .i64) v_24))) (Guard.isT (ltB rfl) rfl rfl) rfl (ltB rfl) (fun hq_24 => (op_call (js := []) (ltD rfl) cl13 (sim_law01_num k v_24 () (ifT hv_u_30 hq_24)) .func (.cons (HasO.cnd (.tmp rfl) hq_24) .nil) rfl).post (fun _ => Imp.refl)) ?_
            replace hx22 := lt1_inv hx22
            obtain ⟨v_31, hv_v_31, hx22⟩ := hx22
            refine JL.cnd (sv := .one (.val (S rB v_31))) (Guard.isT (ltB rfl) rfl rfl) rfl (ltB rfl) (fun hq_25 => op_cmpI (ltB rfl) (HasO.cnd (.tmp rfl) hq_25) .cI (congrArg some hv_v_31)) ?_
            refine JL.pre (Imp.sub (ρ' := [(59, .one (.val (S rB v_29))), (62, bif v_29 then .one (.val (S rB v_31)) else .one .und)]) (.cons rfl (.cons rfl .nil))) ?_
            refine JL.at ⟨[(59, .one (.val (S rB v_29))), (62, bif v_29 then .one (.val (S rB v_31)) else .one .und)], [], []⟩ ?_
            replace hx22 := lt1_inv hx22
            obtain ⟨v_32, hv_v_32, hx22⟩ := hx22
            refine JL.cons rfl (op_pickCS (ltB rfl) (.tmp rfl) (fun hb26 => (HasO.cnd (.tmp rfl) hb26)) (fun hb26 => .cB) hv_v_32) ?_
            refine JL.cons rfl (op_move (ltB rfl) (.tmp rfl)) ?_
            replace hx22 := bnd_inv hx22
            obtain ⟨v_33, hv_v_33, hx22⟩ := hx22
            refine JL.cnd (sv := .one (.val (S rB v_33))) (Guard.isT (ltB rfl) rfl rfl) rfl (ltB rfl) (fun hq_27 => (op_call (js := []) (ltD rfl) cl9 (sim_law01_known k v_33 (ifT hv_v_33 hq_27)) .func .nil rfl).post (fun _ => Imp.refl)) ?_
            replace hx22 := lt1_inv hx22
            obtain ⟨v_34, hv_v_34, hx22⟩ := hx22
            refine JL.cons rfl (op_pickCS (ltB rfl) (.tmp rfl) (fun hb28 => (HasO.cnd (.tmp rfl) hb28)) (fun hb28 => .cB) hv_v_34) ?_
            refine JL.cons rfl (op_assign (ltB rfl) (.tmp rfl)) ?_
            refine JL.nil ?_
            replace hx22 := Option.some.inj hx22
            subst hx22
            exact JQ.join () (Imp.norm (js := []) rfl (.cons rfl .nil))
        · refine JC.condF (.tmp rfl) hc21 ?_
          refine JC.skip ?_
          refine JQ.then ?_
          obtain ⟨x_43, hx29, hq29⟩ := bnd_inv hq16
          refine JC.seqJ (γ := Unit) (stj := fun q => ⟨[(6, .one (.val (S rB x_43)))], [], []⟩) (fun q => ?_) ?_
          · obtain _ := q
            refine JC.at ⟨[(6, .one (.val (S rB x_43)))], [], []⟩ ?_
            refine JC.ret ?_
            replace hq29 := Option.some.inj hq29
            subst hq29
            exact JQ.done (js := []) (ss := [.val (S rB x_43)]) () (.inl rfl) (.nil rfl) rfl (.cons (.tmp rfl) .nil) rfl rfl rfl
          · refine JC.region ?_
            refine JL.cons rfl (op_move (ltB rfl) (.tmp rfl)) ?_
            refine JL.cons rfl (op_move (ltB rfl) (.tmp rfl)) ?_
            replace hx29 := bnd_inv hx29
            obtain ⟨v_36, hv_v_36, hx29⟩ := hx29
            refine JL.consX rfl (op_call (js := []) (ltD rfl) cl15 (sim_ref01_Get k a_3 v_36 hv_v_36) .func (.cons (.tmp rfl) .nil) rfl) (fun _ => ?_)
            replace hx29 := lt1_inv hx29
            obtain ⟨v_37, hv_v_37, hx29⟩ := hx29
            refine JL.cons rfl (op_cmpU (ltB rfl) (.tmp rfl) (.tmp rfl) (congrArg some hv_v_37)) ?_
            refine JL.cons rfl (op_move (ltB rfl) (.tmp rfl)) ?_
            refine JL.cnd (sv := .one (.val (S (rI .i64) v_24))) (Guard.isT (ltB rfl) rfl rfl) rfl (ltB rfl) (fun hq_30 => op_move (ltB rfl) (.tmp rfl)) ?_
            refine JL.pre (Imp.sub (ρ' := [(71, .one (.val (S rB v_37))), (72, bif v_37 then .one (.val (S (rI .i64) v_24)) else .one .und)]) (.cons rfl (.cons rfl .nil))) ?_
            refine JL.at ⟨[(71, .one (.val (S rB v_37))), (72, bif v_37 then .one (.val (S (rI .i64) v_24)) else .one .und)], [], []⟩ ?_
            replace hx29 := bnd_inv hx29
            obtain ⟨_, hv_u_38, hx29⟩ := hx29
            refine JL.cnd (sv := .one (.val (S (rI .i64) v_24))) (Guard.isT (ltB rfl) rfl rfl) rfl (ltB rfl) (fun hq_31 => (op_call (js := []) (ltD rfl) cl13 (sim_law01_num k v_24 () (ifT hv_u_38 hq_31)) .func (.cons (HasO.cnd (.tmp rfl) hq_31) .nil) rfl).post (fun _ => Imp.refl)) ?_
            replace hx29 := lt1_inv hx29
            obtain ⟨v_39, hv_v_39, hx29⟩ := hx29
            refine JL.cnd (sv := .one (.val (S rB v_39))) (Guard.isT (ltB rfl) rfl rfl) rfl (ltB rfl) (fun hq_32 => op_cmpI (ltB rfl) (HasO.cnd (.tmp rfl) hq_32) .cI (congrArg some hv_v_39)) ?_
            replace hx29 := lt1_inv hx29
            obtain ⟨v_40, hv_v_40, hx29⟩ := hx29
            refine JL.cons rfl (op_pickCS (ltB rfl) (.tmp rfl) (fun hb33 => (HasO.cnd (.tmp rfl) hb33)) (fun hb33 => .cB) hv_v_40) ?_
            refine JL.cons rfl (op_move (ltB rfl) (.tmp rfl)) ?_
            replace hx29 := bnd_inv hx29
            obtain ⟨v_41, hv_v_41, hx29⟩ := hx29
            refine JL.cnd (sv := .one (.val (S rB v_41))) (Guard.isT (ltB rfl) rfl rfl) rfl (ltB rfl) (fun hq_34 => (op_call (js := []) (ltD rfl) cl9 (sim_law01_known k v_41 (ifT hv_v_41 hq_34)) .func .nil rfl).post (fun _ => Imp.refl)) ?_
            replace hx29 := lt1_inv hx29
            obtain ⟨v_42, hv_v_42, hx29⟩ := hx29
            refine JL.cons rfl (op_pickCS (ltB rfl) (.tmp rfl) (fun hb35 => (HasO.cnd (.tmp rfl) hb35)) (fun hb35 => .cB) hv_v_42) ?_
            refine JL.pre (Imp.sub (ρ' := [(78, .one (.val (S rB v_42)))]) (.cons rfl .nil)) ?_
            refine JL.at ⟨[(78, .one (.val (S rB v_42)))], [], []⟩ ?_
            refine JL.cons rfl (op_assign (ltB rfl) (.tmp rfl)) ?_
            refine JL.nil ?_
            replace hx29 := Option.some.inj hx29
            subst hx29
            exact JQ.join () (Imp.norm (js := []) rfl (.cons rfl .nil))
      · refine JC.region ?_
        refine JL.cons rfl (op_move (ltB rfl) (.tmp rfl)) ?_
        refine JL.cons rfl (op_lenL (ltB rfl) tu23 (.tmp rfl)) ?_
        replace hx16 := lt1_inv hx16
        obtain ⟨v_25, hv_v_25, hx16⟩ := hx16
        refine JL.cons rfl (op_cmpI (ltB rfl) (.tmp rfl) .cI (congrArg some hv_v_25)) ?_
        refine JL.cons rfl (op_move (ltB rfl) (.tmp rfl)) ?_
        refine JL.cnd (sv := .one (.val (S (rL (rU UInt8)) a_3))) (Guard.isF (ltB rfl) rfl rfl) rfl (ltB rfl) (fun hq_17 => op_move (ltB rfl) (.tmp rfl)) ?_
        refine JL.pre (Imp.sub (ρ' := [(2, .one (.val (S (rL (rU UInt8)) a_3))), (9, .one (.val (S (rU UInt64) v_23))), (10, .one (.val (S (rI .i64) v_24))), (52, .one (.val (S rB v_25))), (53, bif (!v_25) then .one (.val (S (rL (rU UInt8)) a_3)) else .one .und)]) (.cons rfl (.cons rfl (.cons rfl (.cons rfl (.cons rfl .nil)))))) ?_
        refine JL.at ⟨[(2, .one (.val (S (rL (rU UInt8)) a_3))), (9, .one (.val (S (rU UInt64) v_23))), (10, .one (.val (S (rI .i64) v_24))), (52, .one (.val (S rB v_25))), (53, bif (!v_25) then .one (.val (S (rL (rU UInt8)) a_3)) else .one .und)], [], []⟩ ?_
        refine JL.cnd (sv := .one (.val (S (rI .i64) (List.length a_3 : Int)))) (Guard.isF (ltB rfl) rfl rfl) rfl (ltB rfl) (fun hq_18 => op_lenL (ltB rfl) tu23 (HasO.cnd (.tmp rfl) (notT (notF hq_18)))) ?_
        replace hx16 := lt1_inv hx16
        obtain ⟨v_26, hv_v_26, hx16⟩ := hx16
        refine JL.cnd (sv := .one (.val (S rB v_26))) (Guard.isF (ltB rfl) rfl rfl) rfl (ltB rfl) (fun hq_19 => op_cmpI (ltB rfl) (HasO.cnd (.tmp rfl) (notT (notF hq_19))) .cI (congrArg some hv_v_26)) ?_
        replace hx16 := lt1_inv hx16
        obtain ⟨v_27, hv_v_27, hx16⟩ := hx16
        refine JL.cons rfl (op_pickCS (ltB rfl) (.tmp rfl) (fun hb20 => .cB) (fun hb20 => (HasO.cnd (.tmp rfl) (notT hb20))) hv_v_27) ?_
        refine JL.nil ?_
        replace hx16 := Option.some.inj hx16
        subst hx16
        exact JQ.join () (Imp.norm (js := []) rfl (.cons rfl (.cons rfl (.cons rfl (.cons rfl .nil)))))
    · refine JC.seq ?_
      refine JC.region ?_
      refine JL.cons rfl (op_move (ltB rfl) (.tmp rfl)) ?_
      refine JL.pre (Imp.sub (ρ' := [(0, .one (.val (S (rU UInt64) t_1))), (1, .one (.val (S (rI .i64) a_2))), (2, .one (.val (S (rL (rU UInt8)) a_3))), (7, .one (.val (HDR go_8 0 (List.length v_6) gc_9))), (8, .one (.val (S (rI .i64) v_7))), (21, .one (.val (S (rU UInt64) t_1)))]) (.cons rfl (.cons rfl (.cons rfl (.cons rfl (.cons rfl (.cons rfl .nil))))))) ?_
      refine JL.at ⟨[(0, .one (.val (S (rU UInt64) t_1))), (1, .one (.val (S (rI .i64) a_2))), (2, .one (.val (S (rL (rU UInt8)) a_3))), (7, .one (.val (HDR go_8 0 (List.length v_6) gc_9))), (8, .one (.val (S (rI .i64) v_7))), (21, .one (.val (S (rU UInt64) t_1)))], [cown go_8 (rU UInt8) v_6 0 gc_9], []⟩ ?_
      refine JL.cons rfl (op_move (ltB rfl) (.tmp rfl)) ?_
      replace hx2 := bnd_inv hx2
      obtain ⟨v_10, hv_v_10, hx2⟩ := hx2
      refine JL.consX rfl (op_call (js := []) (ltD rfl) cl11 (sim_ref01_Room k t_1 a_2 v_10 hv_v_10) .func (.cons (.tmp rfl) (.cons (.tmp rfl) .nil)) rfl) (fun _ => ?_)
      refine JL.nil ?_
      refine JQ.then ?_
      rcases iteB_inv hx2 with ⟨hc3, hx2⟩ | ⟨hc3, hx2⟩
      · refine JC.condT (.tmp rfl) hc3 ?_
        obtain ⟨x_17, hx4, hq4⟩ := bnd_inv hx2
        refine JC.seqJ (γ := Unit) (stj := fun q => ⟨[(2, .one (.val (S (rL (rU UInt8)) a_3))), (35, .one (.val (S rB x_17)))], [], []⟩) (fun q => ?_) ?_
        · obtain _ := q
          refine JC.at ⟨[(2, .one (.val (S (rL (rU UInt8)) a_3))), (35, .one (.val (S rB x_17)))], [], []⟩ ?_
          rcases iteB_inv hq4 with ⟨hc9, hq4⟩ | ⟨hc9, hq4⟩
          · refine JC.condT (.tmp rfl) hc9 ?_
            refine JC.seq ?_
            refine JC.region ?_
            refine JL.cons rfl (op_assign (ltB rfl) .cB) ?_
            refine JL.nil ?_
            refine JQ.then ?_
            refine JC.ret ?_
            replace hq4 := Option.some.inj hq4
            subst hq4
            dsimp only at hq2
            refine JQ.outR ?_
            replace hq2 := Option.some.inj hq2
            subst hq2
            exact JQ.done (js := []) (ss := [.val (S rB false)]) () (.inl rfl) (.nil rfl) rfl (.cons (.tmp rfl) .nil) rfl rfl rfl
          · refine JC.condF (.tmp rfl) hc9 ?_
            refine JC.skip ?_
            replace hq4 := Option.some.inj hq4
            subst hq4
            exact JQ.joinK () () rfl (Imp.norm (js := []) rfl (.cons rfl .nil))
        · replace hx4 := bnd_inv hx4
          obtain ⟨v_11, hv_v_11, hx4⟩ := hx4
          replace hx4 := lt1_inv hx4
          obtain ⟨v_13, hv_v_13, hx4⟩ := hx4
          replace hx4 := bnd_inv hx4
          obtain ⟨_, hv_u_14, hx4⟩ := hx4
          replace hx4 := lt1_inv hx4
          obtain ⟨v_15, hv_v_15, hx4⟩ := hx4
          replace hx4 := lt1_inv hx4
          obtain ⟨v_16, hv_v_16, hx4⟩ := hx4
          refine JC.anyE (base := [(0, .one (.val (S (rU UInt64) t_1))), (1, .one (.val (S (rI .i64) a_2))), (2, .one (.val (S (rL (rU UInt8)) a_3))), (7, .one (.val (HDR go_8 0 (List.length v_6) gc_9))), (8, .one (.val (S (rI .i64) v_7)))])
              (fs := fun γ => [⟨some 24, .one (.val (HDR go_8 0 (List.length v_6) gc_9))⟩, ⟨some 25, .one (.val (S rS v_6))⟩, ⟨some 26, .one (.val (S (rU UInt64) t_1))⟩, ⟨some 27, .one (.val (S (rI .i64) a_2))⟩, ⟨some 28, .one (.val (HDR (deo (γ 4 0)) 0 (List.length v_11) (Int.toNat a_2)))⟩, ⟨some 29, .one (.val (S rS v_11))⟩, ⟨some 30, .one (.val (S rB v_13))⟩, ⟨some 31, .one (.val (S rB v_13))⟩, ⟨some 32, bif (!v_13) then .one (.val (S (rI .i64) v_7)) else .one .und⟩, ⟨some 33, bif (!v_13) then .one (.val (S (rI .i64) v_7)) else .one .und⟩, ⟨some 34, bif (!v_13) then .one (.val (S rB v_15)) else .one .und⟩, ⟨some 35, .one (.val (S rB v_16))⟩])
              (rs := fun γ => [⟨cown go_8 (rU UInt8) v_6 0 gc_9, none, none, [1]⟩, ⟨cown (deo (γ 4 0)) (rU UInt8) v_11 0 (Int.toNat a_2), (some 4), none, [5]⟩])
              (ds := [24, 25, 26, 27, 28, 29, 30, 31, 32, 33, 34, 35]) (bs := [0, 1, 2, 7, 8]) (afts := [[], [], [], [], [4, 5, 6, 7, 8, 9, 10, 11], [], [], [], [], [], [], []]) (js := [0]) mixed (.cons rfl (.cons rfl (.cons rfl (.cons rfl (.cons rfl .nil))))) (fun _ => rfl)
              (by
      refine DSteps.cons (j := 1) rfl (fun _ => rfl) (.run (fun γ ρ B hb hd => ⟨.none, OpStep.at ⟨ρ, B, _⟩ (setO ⟨ρ, B, _⟩ (some 24) (.one (.val (HDR go_8 0 (List.length v_6) gc_9)))) (op_move (ltB rfl) (.tmp (hb 7 _ rfl)))⟩)) ?_
      refine DSteps.cons (j := 2) rfl (fun _ => rfl) (.run (fun γ ρ B hb hd => ⟨.none, OpStep.at ⟨ρ, (cown go_8 (rU UInt8) v_6 0 gc_9) :: B, _⟩ (setO ⟨ρ, (cown go_8 (rU UInt8) v_6 0 gc_9) :: B, _⟩ (some 25) (.one (.val (S rS v_6)))) (op_convOS (j := 0) (ltB rfl) tu23 tu5 tu9 rfl (.tmp (hdl hd 0 24 rfl (by decide +kernel))))⟩)) ?_
      refine DSteps.cons (j := 3) rfl (fun _ => rfl) (.run (fun γ ρ B hb hd => ⟨.none, OpStep.at ⟨ρ, B, _⟩ (setO ⟨ρ, B, _⟩ (some 26) (.one (.val (S (rU UInt64) t_1)))) (op_move (ltB rfl) (.tmp (hb 0 _ rfl)))⟩)) ?_
      refine DSteps.cons (j := 4) rfl (fun _ => rfl) (.run (fun γ ρ B hb hd => ⟨.none, OpStep.at ⟨ρ, B, _⟩ (setO ⟨ρ, B, _⟩ (some 27) (.one (.val (S (rI .i64) a_2)))) (op_move (ltB rfl) (.tmp (hb 1 _ rfl)))⟩)) ?_
      refine DSteps.cons (j := 5) rfl (fun _ => rfl) (.runX (fun _ _ => rfl) (fun γ ρ B hb hd => ⟨.none, OpX.ghost (γ := Option Nat) (st' := fun q => setO ⟨ρ, (cown q (rU UInt8) v_11 0 (Int.toNat a_2)) :: B, _⟩ (some 28) (.one (.val (HDR q 0 (List.length v_11) (Int.toNat a_2))))) (fun q c => eno q) (op_call (js := []) (ltD rfl) cl12 (sim_ref01_Put k t_1 a_2 v_11 hv_v_11) .func (.cons (.tmp (hdl hd 2 26 rfl (by decide +kernel))) (.cons (.tmp (hdl hd 3 27 rfl (by decide +kernel))) .nil)) rfl) (fun q => by cases q <;> exact Imp.refl)⟩) (fun _ _ => rfl) (fun _ _ => rfl)) ?_
      refine DSteps.cons (j := 6) rfl (fun _ => rfl) (.run (fun γ ρ B hb hd => ⟨.none, OpStep.at ⟨ρ, (cown (deo (γ 4 0)) (rU UInt8) v_11 0 (Int.toNat a_2)) :: B, _⟩ (setO ⟨ρ, (cown (deo (γ 4 0)) (rU UInt8) v_11 0 (Int.toNat a_2)) :: B, _⟩ (some 29) (.one (.val (S rS v_11)))) (op_convOS (j := 0) (ltB rfl) tu23 tu5 tu9 rfl (.tmp (hdl hd 4 28 rfl (by decide +kernel))))⟩)) ?_
      refine DSteps.cons (j := 7) rfl (fun _ => rfl) (.run (fun γ ρ B hb hd => ⟨.none, OpStep.at ⟨ρ, B, _⟩ (setO ⟨ρ, B, _⟩ (some 30) (.one (.val (S rB v_13)))) (op_cmpS (ltB rfl) (.tmp (hdl hd 1 25 rfl (by decide +kernel))) (.tmp (hdl hd 5 29 rfl (by decide +kernel))) (congrArg some hv_v_13))⟩)) ?_
      refine DSteps.cons (j := 8) rfl (fun _ => rfl) (.run (fun γ ρ B hb hd => ⟨.none, OpStep.at ⟨ρ, B, _⟩ (setO ⟨ρ, B, _⟩ (some 31) (.one (.val (S rB v_13)))) (op_move (ltB rfl) (.tmp (hdl hd 6 30 rfl (by decide +kernel))))⟩)) ?_
      refine DSteps.cons (j := 9) rfl (fun _ => rfl) (.cnd (q := (!v_13)) (sv := fun γ => .one (.val (S (rI .i64) v_7))) (fun _ => rfl) (fun _ => rfl) (fun d h => by cases h; exact ltB rfl) (fun _ => rfl) (fun γ ρ B hb hd => ⟨(Guard.isF (ltB rfl) rfl (hdl hd 7 31 rfl (by decide +kernel))), fun hq_5 => OpStep.at ⟨ρ, B, _⟩ (setO ⟨ρ, B, _⟩ (some 32) (.one (.val (S (rI .i64) v_7)))) (op_move (ltB rfl) (.tmp (hb 8 _ rfl)))⟩)) ?_
      refine DSteps.cons (j := 10) rfl (fun _ => rfl) (.cnd (q := (!v_13)) (sv := fun γ => .one (.val (S (rI .i64) v_7))) (fun _ => rfl) (fun _ => rfl) (fun d h => by cases h; exact ltB rfl) (fun _ => rfl) (fun γ ρ B hb hd => ⟨(Guard.isF (ltB rfl) rfl (hdl hd 7 31 rfl (by decide +kernel))), fun hq_6 => OpStep.at ⟨ρ, B, _⟩ (setO ⟨ρ, B, _⟩ (some 33) (.one (.val (S (rI .i64) v_7)))) ((op_call (js := []) (ltD rfl) cl13 (sim_law01_num k v_7 () (ifT hv_u_14 hq_6)) .func (.cons (HasO.cnd (.tmp (hdl hd 8 32 rfl (by decide +kernel))) (notT (notF hq_6))) .nil) rfl).post (fun _ => Imp.refl))⟩)) ?_
      refine DSteps.cons (j := 11) rfl (fun _ => rfl) (.cnd (q := (!v_13)) (sv := fun γ => .one (.val (S rB v_15))) (fun _ => rfl) (fun _ => rfl) (fun d h => by cases h; exact ltB rfl) (fun _ => rfl) (fun γ ρ B hb hd => ⟨(Guard.isF (ltB rfl) rfl (hdl hd 7 31 rfl (by decide +kernel))), fun hq_7 => OpStep.at ⟨ρ, B, _⟩ (setO ⟨ρ, B, _⟩ (some 34) (.one (.val (S rB v_15)))) (op_cmpI (ltB rfl) (HasO.cnd (.tmp (hdl hd 9 33 rfl (by decide +kernel))) (notT (notF hq_7))) .cI (congrArg some hv_v_15))⟩)) ?_
      refine DSteps.cons (j := 12) rfl (fun _ => rfl) (.run (fun γ ρ B hb hd => ⟨.none, OpStep.at ⟨ρ, B, _⟩ (setO ⟨ρ, B, _⟩ (some 35) (.one (.val (S rB v_16)))) (op_pickCS (ltB rfl) (.tmp (hdl hd 7 31 rfl (by decide +kernel))) (fun hb8 => .cB) (fun hb8 => (HasO.cnd (.tmp (hdl hd 10 34 rfl (by decide +kernel))) (notT hb8))) hv_v_16)⟩)) ?_
      exact DSteps.nil)
              (by decide +kernel) (fun _ => rfl) rfl (fun _ => rfl) (fun _ => rfl) rfl (by decide) (by decide)
              (ρ' := fun γ => [(2, .one (.val (S (rL (rU UInt8)) a_3))), (35, .one (.val (S rB v_16)))])
              (X' := fun γ => [cown go_8 (rU UInt8) v_6 0 gc_9, cown (deo (γ 4 0)) (rU UInt8) v_11 0 (Int.toNat a_2)])
              (fun γ ρ hb hd => (.cons (hb 2 _ rfl) (.cons (hdq hd 11 35 rfl) .nil))) (fun _ => rfl) (fun γ => ?_)
          generalize (deo (γ 4 0)) = go_12
          clear γ
          refine JQ.at ⟨[(2, .one (.val (S (rL (rU UInt8)) a_3))), (35, .one (.val (S rB v_16)))], [cown go_8 (rU UInt8) v_6 0 gc_9, cown go_12 (rU UInt8) v_11 0 (Int.toNat a_2)], []⟩ ?_
          replace hx4 := Option.some.inj hx4
          subst hx4
          exact JQ.join () (Imp.norm (js := []) rfl (.cons rfl (.cons rfl .nil)))
      · refine JC.condF (.tmp rfl) hc3 ?_
        obtain ⟨x_22, hx10, hq10⟩ := bnd_inv hx2
        refine JC.seqJ (γ := Unit) (stj := fun q => ⟨[(2, .one (.val (S (rL (rU UInt8)) a_3))), (43, .one (.val (S rB x_22)))], [], []⟩) (fun q => ?_) ?_
        · obtain _ := q
          refine JC.at ⟨[(2, .one (.val (S (rL (rU UInt8)) a_3))), (43, .one (.val (S rB x_22)))], [], []⟩ ?_
          rcases iteB_inv hq10 with ⟨hc15, hq10⟩ | ⟨hc15, hq10⟩
          · refine JC.condT (.tmp rfl) hc15 ?_
            refine JC.seq ?_
            refine JC.region ?_
            refine JL.cons rfl (op_assign (ltB rfl) .cB) ?_
            refine JL.nil ?_
            refine JQ.then ?_
            refine JC.ret ?_
            replace hq10 := Option.some.inj hq10
            subst hq10
            dsimp only at hq2
            refine JQ.outR ?_
            replace hq2 := Option.some.inj hq2
            subst hq2
            exact JQ.done (js := []) (ss := [.val (S rB false)]) () (.inl rfl) (.nil rfl) rfl (.cons (.tmp rfl) .nil) rfl rfl rfl
          · refine JC.condF (.tmp rfl) hc15 ?_
            refine JC.skip ?_
            replace hq10 := Option.some.inj hq10
            subst hq10
            exact JQ.joinK () () rfl (Imp.norm (js := []) rfl (.cons rfl .nil))
        · refine JC.region ?_
          refine JL.cons rfl (op_move (ltB rfl) (.tmp rfl)) ?_
          refine JL.cons rfl (op_lenH (ltB rfl) tu23 (.tmp rfl)) ?_
          replace hx10 := lt1_inv hx10
          obtain ⟨v_18, hv_v_18, hx10⟩ := hx10
          refine JL.cons rfl (op_cmpI (ltB rfl) (.tmp rfl) .cI (congrArg some hv_v_18)) ?_
          refine JL.cons rfl (op_move (ltB rfl) (.tmp rfl)) ?_
          refine JL.pre (Imp.norm (ρ' := [(2, .one (.val (S (rL (rU UInt8)) a_3))), (8, .one (.val (S (rI .i64) v_7))), (39, .one (.val (S rB v_18)))]) (js := []) rfl (.cons rfl (.cons rfl (.cons rfl .nil)))) ?_
          refine JL.at ⟨[(2, .one (.val (S (rL (rU UInt8)) a_3))), (8, .one (.val (S (rI .i64) v_7))), (39, .one (.val (S rB v_18)))], [], []⟩ ?_
          refine JL.cnd (sv := .one (.val (S (rI .i64) v_7))) (Guard.isF (ltB rfl) rfl rfl) rfl (ltB rfl) (fun hq_11 => op_move (ltB rfl) (.tmp rfl)) ?_
          replace hx10 := bnd_inv hx10
          obtain ⟨_, hv_u_19, hx10⟩ := hx10
          refine JL.cnd (sv := .one (.val (S (rI .i64) v_7))) (Guard.isF (ltB rfl) rfl rfl) rfl (ltB rfl) (fun hq_12 => (op_call (js := []) (ltD rfl) cl13 (sim_law01_num k v_7 () (ifT hv_u_19 hq_12)) .func (.cons (HasO.cnd (.tmp rfl) (notT (notF hq_12))) .nil) rfl).post (fun _ => Imp.refl)) ?_
          replace hx10 := lt1_inv hx10
          obtain ⟨v_20, hv_v_20, hx10⟩ := hx10
          refine JL.cnd (sv := .one (.val (S rB v_20))) (Guard.isF (ltB rfl) rfl rfl) rfl (ltB rfl) (fun hq_13 => op_cmpI (ltB rfl) (HasO.cnd (.tmp rfl) (notT (notF hq_13))) .cI (congrArg some hv_v_20)) ?_
          replace hx10 := lt1_inv hx10
          obtain ⟨v_21, hv_v_21, hx10⟩ := hx10
          refine JL.cons rfl (op_pickCS (ltB rfl) (.tmp rfl) (fun hb14 => .cB) (fun hb14 => (HasO.cnd (.tmp rfl) (notT hb14))) hv_v_21) ?_
          refine JL.nil ?_
          replace hx10 := Option.some.inj hx10
          subst hx10
          exact JQ.join () (Imp.norm (js := []) rfl (.cons rfl (.cons rfl .nil)))

end Go.Proofs.Ytkbkdfcakpbojaa
