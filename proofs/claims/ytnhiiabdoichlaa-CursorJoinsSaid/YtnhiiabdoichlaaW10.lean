/- Walks. -/
import Derived.Test.YtnhiiabdoichlaaT
import Derived.Test.YtnhiiabdoichlaaW8
import Derived.Test.YtnhiiabdoichlaaW9
namespace Go.Proofs.Ytnhiiabdoichlaa
open Go Fw
set_option linter.unusedVariables false
set_option maxRecDepth 100000
set_option maxHeartbeats 4000000

theorem sim_wire_Reader_Number'2 (k : Nat) (size_1 : Int) (r_2 : wire_Reader) (gb_3 : Nat) (r : UInt64 × wire_Reader) (hm : wire_Reader_Number'2 k size_1 r_2 = some r) : Sim Try.prog 36 [PTR gb_3 0, S (rI .i64) size_1] [cvar gb_3 r_wire_Reader r_2] (γ := Unit) (fun q => [cvar gb_3 r_wire_Reader r.2]) (fun q => .one (.val (S (rU UInt64) r.1))) := by
  unfold wire_Reader_Number'2 at hm
  refine Sim.of Try.func36 rfl rfl (Nat.le_of_ble_eq_true rfl) (fun e0 w0 => ?_)
  refine JC.at ⟨[(0, .one (.val (PTR gb_3 0))), (1, .one (.val (S (rI .i64) size_1)))], [cvar gb_3 r_wire_Reader r_2], []⟩ ?_
  refine JC.seq ?_
  refine JC.region ?_
  refine JL.cons rfl (op_assign (ltB rfl) (HasO.cU (x := (0 : UInt64)) rfl (by decide))) ?_
  refine JL.nil ?_
  refine JQ.then ?_
  replace hm := bnd_inv hm
  obtain ⟨size_8, hx1, hq1⟩ := hm
  refine JC.seqJ (γ := Unit) (stj := fun q => ⟨[(0, .one (.val (PTR gb_3 0))), (1, .one (.val (S (rI .i64) size_8)))], [cvar gb_3 r_wire_Reader r_2], []⟩) (fun q => ?_) ?_
  · obtain _ := q
    refine JC.at ⟨[(0, .one (.val (PTR gb_3 0))), (1, .one (.val (S (rI .i64) size_8)))], [cvar gb_3 r_wire_Reader r_2], []⟩ ?_
    refine JC.seq ?_
    refine JC.region ?_
    refine JL.cons rfl (op_move (ltB rfl) (.tmp rfl)) ?_
    refine JL.cons rfl (op_move (ltB rfl) (.tmp rfl)) ?_
    replace hq1 := bnd_inv hq1
    obtain ⟨⟨v_9, v_10, x_11⟩, hv_v_9, hq1⟩ := hq1
    refine JL.consX rfl (op_call (js := [0]) (ltD rfl) cl34 (sim_wire_Reader_take'2 k size_8 r_2 gb_3 (v_9, v_10, x_11) hv_v_9) .func (.cons (.tmp rfl) (.cons (.tmp rfl) .nil)) rfl) (fun _ => ?_)
    refine JL.pre (Imp.sub (ρ' := [(18, .tup [.val (S (rL (rU UInt8)) v_9), .val (S rB v_10)])]) (.cons rfl .nil)) ?_
    refine JL.at ⟨[(18, .tup [.val (S (rL (rU UInt8)) v_9), .val (S rB v_10)])], [cvar gb_3 r_wire_Reader x_11], []⟩ ?_
    refine JL.cons rfl (op_move (ltB rfl) (.tmp rfl)) ?_
    refine JL.cons rfl (op_extract (i := 0) (ltB rfl) (.tmp rfl) rfl) ?_
    refine JL.cons rfl (op_extract (i := 1) (ltB rfl) (.tmp rfl) rfl) ?_
    refine JL.cons rfl (op_assign (ltB rfl) (.tmp rfl)) ?_
    refine JL.cons rfl (op_assign (ltB rfl) (.tmp rfl)) ?_
    refine JL.nil ?_
    refine JQ.then ?_
    refine JC.seq ?_
    refine JC.region ?_
    refine JL.cons rfl (op_move (ltB rfl) (.tmp rfl)) ?_
    refine JL.pre (Imp.sub (ρ' := [(22, .one (.val (S (rL (rU UInt8)) v_9)))]) (.cons rfl .nil)) ?_
    refine JL.at ⟨[(22, .one (.val (S (rL (rU UInt8)) v_9)))], [cvar gb_3 r_wire_Reader x_11], []⟩ ?_
    replace hq1 := bnd_inv hq1
    obtain ⟨⟨v_12, v_13⟩, hv_v_12, hq1⟩ := hq1
    refine JL.consX rfl (op_call (js := []) (ltD rfl) cl42 (sim_wire_Get k v_9 (v_12, v_13) hv_v_12) .func (.cons (.tmp rfl) .nil) rfl) (fun _ => ?_)
    refine JL.cons rfl (op_move (ltB rfl) (.tmp rfl)) ?_
    refine JL.cons rfl (op_extract (i := 0) (ltB rfl) (.tmp rfl) rfl) ?_
    refine JL.cons rfl (op_extract (i := 1) (ltB rfl) (.tmp rfl) rfl) ?_
    refine JL.cons rfl (op_assign (ltB rfl) (.tmp rfl)) ?_
    refine JL.cons rfl (op_assign (ltB rfl) (.tmp rfl)) ?_
    refine JL.pre (Imp.sub (ρ' := [(7, .one (.val (S (rU UInt64) v_12)))]) (.cons rfl .nil)) ?_
    refine JL.at ⟨[(7, .one (.val (S (rU UInt64) v_12)))], [cvar gb_3 r_wire_Reader x_11], []⟩ ?_
    refine JL.nil ?_
    refine JQ.then ?_
    refine JC.seq ?_
    refine JC.region ?_
    refine JL.cons rfl (op_move (ltB rfl) (.tmp rfl)) ?_
    refine JL.cons rfl (op_assign (ltB rfl) (.tmp rfl)) ?_
    refine JL.nil ?_
    refine JQ.then ?_
    refine JC.ret ?_
    replace hq1 := Option.some.inj hq1
    subst hq1
    exact JQ.done (js := [0]) (ss := [.val (S (rU UInt64) v_12)]) () (.inl rfl) (.nil rfl) rfl (.cons (.tmp rfl) .nil) rfl rfl rfl
  · replace hx1 := bnd_inv hx1
    obtain ⟨x_7, hx2, hq2⟩ := hx1
    refine JC.seqJ (γ := Unit) (stj := fun q => ⟨[(0, .one (.val (PTR gb_3 0))), (1, .one (.val (S (rI .i64) size_1))), (14, .one (.val (S rB x_7)))], [cvar gb_3 r_wire_Reader r_2], []⟩) (fun q => ?_) ?_
    · obtain _ := q
      refine JC.at ⟨[(0, .one (.val (PTR gb_3 0))), (1, .one (.val (S (rI .i64) size_1))), (14, .one (.val (S rB x_7)))], [cvar gb_3 r_wire_Reader r_2], []⟩ ?_
      replace hq2 := iteB_inv hq2
      rcases hq2 with ⟨hc6, hq2⟩ | ⟨hc6, hq2⟩
      · refine JC.condT (.tmp rfl) hc6 ?_
        refine JC.region ?_
        refine JL.cons rfl (op_assign (ltB rfl) .cI) ?_
        refine JL.nil ?_
        replace hq2 := Option.some.inj hq2
        first | subst hq2 | clear hq2
        exact JQ.join () (Imp.norm (js := [0]) rfl (.cons rfl (.cons rfl .nil)))
      · refine JC.condF (.tmp rfl) hc6 ?_
        refine JC.skip ?_
        replace hq2 := Option.some.inj hq2
        first | subst hq2 | clear hq2
        exact JQ.join () (Imp.norm (js := [0]) rfl (.cons rfl (.cons rfl .nil)))
    · refine JC.region ?_
      refine JL.cons rfl (op_move (ltB rfl) (.tmp rfl)) ?_
      replace hx2 := lt1_inv hx2
      obtain ⟨v_4, hv_v_4, hx2⟩ := hx2
      refine JL.cons rfl (op_cmpI (ltB rfl) (.tmp rfl) .cI (congrArg some hv_v_4)) ?_
      refine JL.cons rfl (op_move (ltB rfl) (.tmp rfl)) ?_
      refine JL.cnd (sv := .one (.val (S (rI .i64) size_1))) (Guard.isF (ltB rfl) rfl rfl) rfl (ltB rfl) (fun hq_3 => op_move (ltB rfl) (.tmp rfl)) ?_
      replace hx2 := lt1_inv hx2
      obtain ⟨v_5, hv_v_5, hx2⟩ := hx2
      refine JL.cnd (sv := .one (.val (S rB v_5))) (Guard.isF (ltB rfl) rfl rfl) rfl (ltB rfl) (fun hq_4 => op_cmpI (ltB rfl) (HasO.cnd (.tmp rfl) (notT (notF hq_4))) .cI (congrArg some hv_v_5)) ?_
      refine JL.pre (Imp.sub (ρ' := [(0, .one (.val (PTR gb_3 0))), (1, .one (.val (S (rI .i64) size_1))), (11, .one (.val (S rB v_4))), (13, bif (!v_4) then .one (.val (S rB v_5)) else .one .und)]) (.cons rfl (.cons rfl (.cons rfl (.cons rfl .nil))))) ?_
      refine JL.at ⟨[(0, .one (.val (PTR gb_3 0))), (1, .one (.val (S (rI .i64) size_1))), (11, .one (.val (S rB v_4))), (13, bif (!v_4) then .one (.val (S rB v_5)) else .one .und)], [cvar gb_3 r_wire_Reader r_2], []⟩ ?_
      replace hx2 := lt1_inv hx2
      obtain ⟨v_6, hv_v_6, hx2⟩ := hx2
      refine JL.cons rfl (op_pickCS (ltB rfl) (.tmp rfl) (fun hb5 => .cB) (fun hb5 => (HasO.cnd (.tmp rfl) (notT hb5))) hv_v_6) ?_
      refine JL.nil ?_
      replace hx2 := Option.some.inj hx2
      first | subst hx2 | clear hx2
      exact JQ.join () (Imp.norm (js := [0]) rfl (.cons rfl (.cons rfl (.cons rfl .nil))))

theorem sim_wire_Reader_Vector_1'2 (k : Nat) (x_2 : wire_Reader) (gb_1 : Nat) (gb_3 : Nat) (r : UInt64 × wire_Reader) (hm : wire_Reader_Vector_1'2 k x_2 = some r) : Sim Try.prog 35 [PTR gb_1 0] [cvar gb_1 (rW (PTR gb_3 0)) (), cvar gb_3 r_wire_Reader x_2] (γ := Unit) (fun q => [cvar gb_1 (rW (PTR gb_3 0)) (), cvar gb_3 r_wire_Reader r.2]) (fun q => .one (.val (S (rU UInt64) r.1))) := by
  unfold wire_Reader_Vector_1'2 at hm
  refine Sim.of Try.func35 rfl rfl (Nat.le_of_ble_eq_true rfl) (fun e0 w0 => ?_)
  refine JC.at ⟨[(0, .one (.val (PTR gb_1 0)))], [cvar gb_1 (rW (PTR gb_3 0)) (), cvar gb_3 r_wire_Reader x_2], []⟩ ?_
  refine JC.seq ?_
  refine JC.region ?_
  refine JL.cons rfl (op_assign (ltB rfl) (HasO.cU (x := (0 : UInt64)) rfl (by decide))) ?_
  refine JL.nil ?_
  refine JQ.then ?_
  refine JC.seq ?_
  refine JC.region ?_
  refine JL.cons rfl (op_loadW (j := 0) (ltB rfl) tS47 (.tmp rfl) rfl (Comp.self (rW (PTR gb_3 0)) ())) ?_
  replace hm := bnd_inv hm
  obtain ⟨⟨v_4, x_5⟩, hv_v_4, hm⟩ := hm
  refine JL.consX rfl (op_call (js := [1]) (ltD rfl) cl36 (sim_wire_Reader_Number'2 k (8 : Int) x_2 gb_3 (v_4, x_5) hv_v_4) .func (.cons (.tmp rfl) (.cons .cI .nil)) rfl) (fun _ => ?_)
  refine JL.pre (Imp.sub (ρ' := [(1, .one (.val (S (rU UInt64) (0 : UInt64)))), (3, .one (.val (S (rU UInt64) v_4)))]) (.cons rfl (.cons rfl .nil))) ?_
  refine JL.at ⟨[(1, .one (.val (S (rU UInt64) (0 : UInt64)))), (3, .one (.val (S (rU UInt64) v_4)))], [cvar gb_3 r_wire_Reader x_5, cvar gb_1 (rW (PTR gb_3 0)) ()], []⟩ ?_
  refine JL.cons rfl (op_assign (ltB rfl) (.tmp rfl)) ?_
  refine JL.nil ?_
  refine JQ.then ?_
  refine JC.ret ?_
  replace hm := Option.some.inj hm
  subst hm
  exact JQ.done (js := [1, 0]) (ss := [.val (S (rU UInt64) v_4)]) () (.inl rfl) (.nil rfl) rfl (.cons (.tmp rfl) .nil) rfl rfl rfl

theorem sim_wire_Reader_Vector (k : Nat) (is_1 : Bool) (made_2 : Bool) (x_4 : (List UInt8)) (gb_3 : Nat) (go_5 : Option Nat) (gc_6 : Nat) (r : (Vector UInt64 16) × wire_Reader) (hm : wire_Reader_Vector k is_1 made_2 x_4 = some r) : Sim Try.prog 23 [PTR gb_3 0] [cvar gb_3 (rP (rW (HDR go_5 0 (List.length x_4) gc_6)) (rP rB (rP rB r0))) ((), (is_1, (made_2, ()))), cown go_5 (rU UInt8) x_4 0 gc_6] (γ := Unit) (fun q => [cvar gb_3 r_wire_Reader r.2, cown go_5 (rU UInt8) x_4 (List.length x_4) gc_6]) (fun q => .one (.val (A (rV 16 (rU UInt64)) r.1))) := by
  unfold wire_Reader_Vector at hm
  refine Sim.of Try.func23 rfl rfl (Nat.le_of_ble_eq_true rfl) (fun e0 w0 => ?_)
  refine JC.at ⟨[(0, .one (.val (PTR gb_3 0)))], [cvar gb_3 (rP (rW (HDR go_5 0 (List.length x_4) gc_6)) (rP rB (rP rB r0))) ((), (is_1, (made_2, ()))), cown go_5 (rU UInt8) x_4 0 gc_6], []⟩ ?_
  refine JC.seq ?_
  refine JC.region ?_
  refine JL.consX rfl (op_alloc (ltB rfl) tZ25 zr25) (fun q => ?_)
  obtain ⟨gb_7, hqq⟩ : ∃ z, z = q := ⟨_, rfl⟩
  subst hqq
  refine JL.pre (Imp.sub (ρ' := [(0, .one (.val (PTR gb_3 0))), (2, .one (.val (PTR gb_7 0)))]) (.cons rfl (.cons rfl .nil))) ?_
  refine JL.at ⟨[(0, .one (.val (PTR gb_3 0))), (2, .one (.val (PTR gb_7 0)))], [cvar gb_3 (rP (rW (HDR go_5 0 (List.length x_4) gc_6)) (rP rB (rP rB r0))) ((), (is_1, (made_2, ()))), cown go_5 (rU UInt8) x_4 0 gc_6, cvar gb_7 (rV 16 (rU UInt64)) (Vector.replicate 16 (0 : UInt64))], []⟩ ?_
  refine JL.nil ?_
  refine JQ.then ?_
  refine JC.seq ?_
  refine JC.region ?_
  refine JL.cons rfl (op_move (ltB rfl) (.tmp rfl)) ?_
  replace hm := bnd_inv hm
  obtain ⟨⟨v_8, v_9, x_10, x_11, x_12⟩, hv_v_8, hm⟩ := hm
  refine JL.consX rfl (op_call (js := [0, 0]) (ltD rfl) cl34 (sim_wire_Reader_take k (128 : Int) is_1 made_2 x_4 gb_3 go_5 gc_6 (v_8, v_9, x_10, x_11, x_12) hv_v_8) .func (.cons (.tmp rfl) (.cons .cI .nil)) rfl) (fun _ => ?_)
  refine JL.pre (Imp.sub (ρ' := [(2, .one (.val (PTR gb_7 0))), (10, .tup [.val (S (rL (rU UInt8)) v_8), .val (S rB v_9)])]) (.cons rfl (.cons rfl .nil))) ?_
  refine JL.at ⟨[(2, .one (.val (PTR gb_7 0))), (10, .tup [.val (S (rL (rU UInt8)) v_8), .val (S rB v_9)])], [cvar gb_3 (rP (rL (rU UInt8)) (rP rB (rP rB r0))) (x_10, (x_11, (x_12, ()))), cown go_5 (rU UInt8) x_4 (List.length x_4) gc_6, cvar gb_7 (rV 16 (rU UInt64)) (Vector.replicate 16 (0 : UInt64))], []⟩ ?_
  refine JL.cons rfl (op_move (ltB rfl) (.tmp rfl)) ?_
  refine JL.cons rfl (op_extract (i := 0) (ltB rfl) (.tmp rfl) rfl) ?_
  refine JL.cons rfl (op_extract (i := 1) (ltB rfl) (.tmp rfl) rfl) ?_
  refine JL.cons rfl (op_assign (ltB rfl) (.tmp rfl)) ?_
  refine JL.cons rfl (op_assign (ltB rfl) (.tmp rfl)) ?_
  refine JL.nil ?_
  refine JQ.then ?_
  refine JC.seq ?_
  refine JC.region ?_
  refine JL.cons rfl (op_move (ltB rfl) (.tmp rfl)) ?_
  refine JL.pre (Imp.sub (ρ' := [(2, .one (.val (PTR gb_7 0))), (13, .one (.val (S (rL (rU UInt8)) v_8)))]) (.cons rfl (.cons rfl .nil))) ?_
  refine JL.at ⟨[(2, .one (.val (PTR gb_7 0))), (13, .one (.val (S (rL (rU UInt8)) v_8)))], [cvar gb_3 (rP (rL (rU UInt8)) (rP rB (rP rB r0))) (x_10, (x_11, (x_12, ()))), cown go_5 (rU UInt8) x_4 (List.length x_4) gc_6, cvar gb_7 (rV 16 (rU UInt64)) (Vector.replicate 16 (0 : UInt64))], []⟩ ?_
  replace hm := bnd_inv hm
  obtain ⟨v_13, hv_v_13, hm⟩ := hm
  refine JL.consX rfl (op_call (js := []) (ltD rfl) cl22 (sim_wire_Read k v_8 v_13 hv_v_13) .func (.cons (.tmp rfl) .nil) rfl) (fun q => ?_)
  obtain ⟨gb_14, go_15, gc_16⟩ := q
  refine JL.pre (Imp.sub (ρ' := [(2, .one (.val (PTR gb_7 0))), (14, .one (.val (PTR gb_14 0)))]) (.cons rfl (.cons rfl .nil))) ?_
  refine JL.at ⟨[(2, .one (.val (PTR gb_7 0))), (14, .one (.val (PTR gb_14 0)))], [cvar gb_14 (rP (rW (HDR go_15 0 (List.length v_13) gc_16)) (rP rB (rP rB r0))) ((), (true, (true, ()))), cown go_15 (rU UInt8) v_13 0 gc_16, cvar gb_3 (rP (rL (rU UInt8)) (rP rB (rP rB r0))) (x_10, (x_11, (x_12, ()))), cown go_5 (rU UInt8) x_4 (List.length x_4) gc_6, cvar gb_7 (rV 16 (rU UInt64)) (Vector.replicate 16 (0 : UInt64))], []⟩ ?_
  refine JL.consX rfl (op_alloc (ltB rfl) tZ47 zr47) (fun q => ?_)
  obtain ⟨gb_17, hqq⟩ : ∃ z, z = q := ⟨_, rfl⟩
  subst hqq
  refine JL.pre (Imp.sub (ρ' := [(2, .one (.val (PTR gb_7 0))), (5, .one (.val (PTR gb_17 0))), (14, .one (.val (PTR gb_14 0)))]) (.cons rfl (.cons rfl (.cons rfl .nil)))) ?_
  refine JL.at ⟨[(2, .one (.val (PTR gb_7 0))), (5, .one (.val (PTR gb_17 0))), (14, .one (.val (PTR gb_14 0)))], [cvar gb_14 (rP (rW (HDR go_15 0 (List.length v_13) gc_16)) (rP rB (rP rB r0))) ((), (true, (true, ()))), cown go_15 (rU UInt8) v_13 0 gc_16, cvar gb_3 (rP (rL (rU UInt8)) (rP rB (rP rB r0))) (x_10, (x_11, (x_12, ()))), cown go_5 (rU UInt8) x_4 (List.length x_4) gc_6, cvar gb_7 (rV 16 (rU UInt64)) (Vector.replicate 16 (0 : UInt64)), cvar gb_17 (rW (PTO none)) ()], []⟩ ?_
  refine JL.cons rfl (op_storeW (j := 5) tS47 (.tmp rfl) (.tmp rfl) rfl (UpdR.self (by rfl)) rfl) ?_
  refine JL.pre (Imp.sub (ρ' := [(2, .one (.val (PTR gb_7 0))), (5, .one (.val (PTR gb_17 0)))]) (.cons rfl (.cons rfl .nil))) ?_
  refine JL.at ⟨[(2, .one (.val (PTR gb_7 0))), (5, .one (.val (PTR gb_17 0)))], [cvar gb_14 (rP (rW (HDR go_15 0 (List.length v_13) gc_16)) (rP rB (rP rB r0))) ((), (true, (true, ()))), cown go_15 (rU UInt8) v_13 0 gc_16, cvar gb_3 (rP (rL (rU UInt8)) (rP rB (rP rB r0))) (x_10, (x_11, (x_12, ()))), cown go_5 (rU UInt8) x_4 (List.length x_4) gc_6, cvar gb_7 (rV 16 (rU UInt64)) (Vector.replicate 16 (0 : UInt64)), cvar gb_17 (rW (PTR gb_14 0)) ()], []⟩ ?_
  refine JL.nil ?_
  refine JQ.then ?_
  refine JC.seq ?_
  refine JC.region ?_
  refine JL.cons rfl (op_makeFunc (ltB rfl) (.cons (.tmp rfl) .nil)) ?_
  refine JL.cons rfl (op_assign (ltB rfl) (.tmp rfl)) ?_
  refine JL.nil ?_
  refine JQ.then ?_
  replace hm := bnd_inv hm
  obtain ⟨v_27, hx1, hq1⟩ := hm
  refine JC.seqJ (γ := Unit) (stj := fun q => ⟨[(2, .one (.val (PTR gb_7 0)))], [cvar gb_7 (rV 16 (rU UInt64)) v_27, cvar gb_3 (rP (rL (rU UInt8)) (rP rB (rP rB r0))) (x_10, (x_11, (x_12, ()))), cown go_5 (rU UInt8) x_4 (List.length x_4) gc_6], []⟩) (fun q => ?_) ?_
  · obtain _ := q
    refine JC.at ⟨[(2, .one (.val (PTR gb_7 0)))], [cvar gb_7 (rV 16 (rU UInt64)) v_27, cvar gb_3 (rP (rL (rU UInt8)) (rP rB (rP rB r0))) (x_10, (x_11, (x_12, ()))), cown go_5 (rU UInt8) x_4 (List.length x_4) gc_6], []⟩ ?_
    refine JC.seq ?_
    refine JC.region ?_
    refine JL.cons rfl (op_loadA (j := 0) (ltB rfl) tA25 (.tmp rfl) rfl (Comp.self (rV 16 (rU UInt64)) v_27) rfl) ?_
    refine JL.cons rfl (op_storeA (j := 0) tA25 (.tmp rfl) (.tmp rfl) rfl (UpdR.self (by rfl)) rfl) ?_
    refine JL.nil ?_
    refine JQ.then ?_
    refine JC.ret ?_
    replace hq1 := Option.some.inj hq1
    subst hq1
    refine JQ.pre (Imp.var (j := 1) (q := r_wire_Reader) (y := (wire_Reader.mk x_10 x_11 x_12)) rfl (Wk.st Wk.refl)) ?_
    exact JQ.done (js := [1, 1]) (ss := [.val (A (rV 16 (rU UInt64)) v_27)]) () (.inl rfl) (.nil rfl) rfl (.cons (.cellA (j := 0) tA25 rfl rfl) .nil) rfl rfl rfl
  · refine JC.seq ?_
    refine JC.region ?_
    refine JL.cons rfl (op_move (ltB rfl) .cI) ?_
    refine JL.nil ?_
    refine JQ.then ?_
    refine JC.block ?_
    refine JC.pre (Imp.frz (j := 1) rfl (ImpK.var (j := 0) (q := (rP (rW (HL go_15 (rU UInt8) v_13 gc_16)) (rP rB (rP rB r0)))) (y := ((), (true, (true, ())))) rfl (Wk.pair Wk.own (Wk.pair Wk.refl (Wk.pair Wk.refl Wk.refl))) ImpK.refl)) ?_
    refine JC.pre (Imp.var (j := 0) (q := r_wire_Reader) (y := (wire_Reader.mk v_13 true true)) rfl (Wk.st (Wk.pair Wk.hl (Wk.pair Wk.refl (Wk.pair Wk.refl Wk.refl))))) ?_
    refine JC.pre ?_ (JC.loop (γ := Unit) (stf := fun s q => ⟨[(2, .one (.val (PTR gb_7 0))), (6, .one (.val (CLO 35 [PTR gb_17 0]))), (16, .one (.val (S (rI .i64) s.2.2)))], [cvar gb_7 (rV 16 (rU UInt64)) s.1, cvar gb_17 (rW (PTR gb_14 0)) (), cvar gb_14 r_wire_Reader s.2.1, cvar gb_3 (rP (rL (rU UInt8)) (rP rB (rP rB r0))) (x_10, (x_11, (x_12, ()))), cown go_5 (rU UInt8) x_4 (List.length x_4) gc_6], []⟩) (q := ()) hx1 ?_)
    · exact (Imp.norm (js := [4, 4, 0, 1, 1]) rfl (.cons rfl (.cons rfl (.cons rfl .nil))))
    · intro s q x hx hr
      obtain ⟨v_18, x_19, x_20⟩ := s
      obtain _ := q
      change wire_Reader_Vector.b1 k v_18 x_19 x_20 = some x at hx
      unfold wire_Reader_Vector.b1 at hx
      refine JC.at ⟨[(2, .one (.val (PTR gb_7 0))), (6, .one (.val (CLO 35 [PTR gb_17 0]))), (16, .one (.val (S (rI .i64) x_20)))], [cvar gb_7 (rV 16 (rU UInt64)) v_18, cvar gb_17 (rW (PTR gb_14 0)) (), cvar gb_14 r_wire_Reader x_19, cvar gb_3 (rP (rL (rU UInt8)) (rP rB (rP rB r0))) (x_10, (x_11, (x_12, ()))), cown go_5 (rU UInt8) x_4 (List.length x_4) gc_6], []⟩ ?_
      refine JC.seq ?_
      refine JC.region ?_
      replace hx := lt1_inv hx
      obtain ⟨v_21, hv_v_21, hx⟩ := hx
      refine JL.cons rfl (op_cmpI (ltB rfl) (.tmp rfl) .cI (congrArg some hv_v_21)) ?_
      refine JL.nil ?_
      refine JQ.then ?_
      refine JC.seq ?_
      replace hx := iteB_inv hx
      rcases hx with ⟨hc3, hx⟩ | ⟨hc3, hx⟩
      · refine JC.condT (.tmp rfl) hc3 ?_
        refine JC.skip ?_
        refine JQ.then ?_
        refine JC.seq ?_
        refine JC.block ?_
        refine JC.seq ?_
        refine JC.region ?_
        refine JL.cons rfl (op_move (ltB rfl) (.tmp rfl)) ?_
        refine JL.cons rfl (op_assign (ltB rfl) (.tmp rfl)) ?_
        refine JL.nil ?_
        refine JQ.then ?_
        refine JC.region ?_
        refine JL.cons rfl (op_move (ltB rfl) (.tmp rfl)) ?_
        refine JL.cons rfl (op_move (ltB rfl) (.tmp rfl)) ?_
        replace hx := bnd_inv hx
        obtain ⟨⟨v_22, x_23⟩, hv_v_22, hx⟩ := hx
        refine JL.consX rfl (op_call (js := [1, 1]) (ltD rfl) cl35 (sim_wire_Reader_Vector_1'2 k x_19 gb_17 gb_14 (v_22, x_23) hv_v_22) (.tmp rfl) .nil rfl) (fun _ => ?_)
        refine JL.pre (Imp.sub (ρ' := [(2, .one (.val (PTR gb_7 0))), (6, .one (.val (CLO 35 [PTR gb_17 0]))), (16, .one (.val (S (rI .i64) x_20))), (19, .one (.val (S (rI .i64) x_20))), (21, .one (.val (S (rU UInt64) v_22)))]) (.cons rfl (.cons rfl (.cons rfl (.cons rfl (.cons rfl .nil)))))) ?_
        refine JL.at ⟨[(2, .one (.val (PTR gb_7 0))), (6, .one (.val (CLO 35 [PTR gb_17 0]))), (16, .one (.val (S (rI .i64) x_20))), (19, .one (.val (S (rI .i64) x_20))), (21, .one (.val (S (rU UInt64) v_22)))], [cvar gb_17 (rW (PTR gb_14 0)) (), cvar gb_14 r_wire_Reader x_23, cvar gb_7 (rV 16 (rU UInt64)) v_18, cvar gb_3 (rP (rL (rU UInt8)) (rP rB (rP rB r0))) (x_10, (x_11, (x_12, ()))), cown go_5 (rU UInt8) x_4 (List.length x_4) gc_6], []⟩ ?_
        replace hx := bnd_inv hx
        obtain ⟨i_24, hv_i_24, hx⟩ := hx
        refine JL.cons rfl (op_indexAddrIF (ltB rfl) tr25 (.tmp rfl) (.tmp rfl) hv_i_24) ?_
        replace hx := lt1_inv hx
        obtain ⟨v_25, hv_v_25, hx⟩ := hx
        refine JL.cons rfl (op_storeS (j := 2) tS23 (.tmp rfl) (.tmp rfl) rfl rfl (Upd.at (Comp.self (rV 16 (rU UInt64)) v_18) i_24.2 rfl (Upd.self (rV 16 (rU UInt64)) v_18 _)).R hv_v_25) ?_
        refine JL.pre (Imp.sub (ρ' := [(2, .one (.val (PTR gb_7 0))), (6, .one (.val (CLO 35 [PTR gb_17 0]))), (16, .one (.val (S (rI .i64) x_20)))]) (.cons rfl (.cons rfl (.cons rfl .nil)))) ?_
        refine JL.at ⟨[(2, .one (.val (PTR gb_7 0))), (6, .one (.val (CLO 35 [PTR gb_17 0]))), (16, .one (.val (S (rI .i64) x_20)))], [cvar gb_17 (rW (PTR gb_14 0)) (), cvar gb_14 r_wire_Reader x_23, cvar gb_7 (rV 16 (rU UInt64)) v_25, cvar gb_3 (rP (rL (rU UInt8)) (rP rB (rP rB r0))) (x_10, (x_11, (x_12, ()))), cown go_5 (rU UInt8) x_4 (List.length x_4) gc_6], []⟩ ?_
        refine JL.nil ?_
        refine JQ.outNB ?_
        refine JQ.then ?_
        refine JC.region ?_
        replace hx := lt1_inv hx
        obtain ⟨v_26, hv_v_26, hx⟩ := hx
        refine JL.cons rfl (op_arI (ltB rfl) (.tmp rfl) .cI (congrArg some hv_v_26)) ?_
        refine JL.cons rfl (op_move (ltB rfl) (.tmp rfl)) ?_
        refine JL.nil ?_
        replace hx := Option.some.inj hx
        first | subst hx | clear hx
        exact JQ.next () rfl (Imp.norm (js := [2, 0, 0, 0, 0]) rfl (.cons rfl (.cons rfl (.cons rfl .nil))))
      · refine JC.condF (.tmp rfl) hc3 ?_
        refine JC.exit ?_
        refine JQ.outX ?_
        replace hx := Option.some.inj hx
        first | subst hx | clear hx
        have ht := hr _ rfl
        have hq2 := congrArg some ht
        clear hr ht
        refine JQ.outX ?_
        refine JQ.here ?_
        replace hq2 := Option.some.inj hq2
        first | subst hq2 | clear hq2
        exact JQ.join () (Imp.norm (js := [0, 2, 2]) rfl (.cons rfl .nil))

theorem sim_sha_Equal (k : Nat) (a_1 : (Vector UInt8 32)) (b_2 : (Vector UInt8 32)) (r : Bool) (hm : sha_Equal k a_1 b_2 = some r) : Sim Try.prog 24 [A (rV 32 (rU UInt8)) a_1, A (rV 32 (rU UInt8)) b_2] [] (γ := Unit) (fun q => []) (fun q => .one (.val (S rB r))) := by
  unfold sha_Equal at hm
  refine Sim.of Try.func24 rfl rfl (Nat.le_of_ble_eq_true rfl) (fun e0 w0 => ?_)
  refine JC.at ⟨[(0, .one (.val (A (rV 32 (rU UInt8)) a_1))), (1, .one (.val (A (rV 32 (rU UInt8)) b_2)))], [], []⟩ ?_
  refine JC.seq ?_
  refine JC.region ?_
  refine JL.consX rfl (op_boxA (ltB rfl) (.tmp rfl)) (fun q => ?_)
  obtain ⟨gb_3, hqq⟩ : ∃ z, z = q := ⟨_, rfl⟩
  subst hqq
  refine JL.pre (Imp.sub (ρ' := [(1, .one (.val (A (rV 32 (rU UInt8)) b_2))), (2, .one (.val (PTR gb_3 0)))]) (.cons rfl (.cons rfl .nil))) ?_
  refine JL.at ⟨[(1, .one (.val (A (rV 32 (rU UInt8)) b_2))), (2, .one (.val (PTR gb_3 0)))], [cvar gb_3 (rV 32 (rU UInt8)) a_1], []⟩ ?_
  refine JL.consX rfl (op_boxA (ltB rfl) (.tmp rfl)) (fun q => ?_)
  obtain ⟨gb_4, hqq⟩ : ∃ z, z = q := ⟨_, rfl⟩
  subst hqq
  refine JL.pre (Imp.sub (ρ' := [(2, .one (.val (PTR gb_3 0))), (3, .one (.val (PTR gb_4 0)))]) (.cons rfl (.cons rfl .nil))) ?_
  refine JL.at ⟨[(2, .one (.val (PTR gb_3 0))), (3, .one (.val (PTR gb_4 0)))], [cvar gb_3 (rV 32 (rU UInt8)) a_1, cvar gb_4 (rV 32 (rU UInt8)) b_2], []⟩ ?_
  refine JL.cons rfl (op_assign (ltB rfl) .cB) ?_
  refine JL.nil ?_
  refine JQ.then ?_
  refine JC.seq ?_
  refine JC.region ?_
  refine JL.cons rfl (op_assign (ltB rfl) (HasO.cU (x := (0 : UInt8)) rfl (by decide))) ?_
  refine JL.nil ?_
  refine JQ.then ?_
  replace hm := bnd_inv hm
  obtain ⟨x_15, hx1, hq1⟩ := hm
  refine JC.seqJ (γ := Unit) (stj := fun q => ⟨[(5, .one (.val (S (rU UInt8) x_15)))], [], []⟩) (fun q => ?_) ?_
  · obtain _ := q
    refine JC.at ⟨[(5, .one (.val (S (rU UInt8) x_15)))], [], []⟩ ?_
    refine JC.seq ?_
    refine JC.region ?_
    refine JL.cons rfl (op_move (ltB rfl) (.tmp rfl)) ?_
    replace hq1 := lt1_inv hq1
    obtain ⟨v_16, hv_v_16, hq1⟩ := hq1
    refine JL.cons rfl (op_cmpU (ltB rfl) (.tmp rfl) (HasO.cU (x := (0 : UInt8)) rfl (by decide)) (congrArg some hv_v_16)) ?_
    refine JL.cons rfl (op_assign (ltB rfl) (.tmp rfl)) ?_
    refine JL.nil ?_
    refine JQ.then ?_
    refine JC.ret ?_
    replace hq1 := Option.some.inj hq1
    subst hq1
    exact JQ.done (js := []) (ss := [.val (S rB v_16)]) () (.inl rfl) (.nil rfl) rfl (.cons (.tmp rfl) .nil) rfl rfl rfl
  · refine JC.seq ?_
    refine JC.region ?_
    refine JL.cons rfl (op_move (ltB rfl) .cI) ?_
    refine JL.nil ?_
    refine JQ.then ?_
    refine JC.block ?_
    refine JC.pre ?_ (JC.loop (γ := Unit) (stf := fun s q => ⟨[(2, .one (.val (PTR gb_3 0))), (3, .one (.val (PTR gb_4 0))), (5, .one (.val (S (rU UInt8) s.1))), (7, .one (.val (S (rI .i64) s.2)))], [cvar gb_3 (rV 32 (rU UInt8)) a_1, cvar gb_4 (rV 32 (rU UInt8)) b_2], []⟩) (q := ()) hx1 ?_)
    · exact (Imp.norm (js := [0, 0]) rfl (.cons rfl (.cons rfl (.cons rfl (.cons rfl .nil)))))
    · intro s q x hx hr
      obtain ⟨x_5, x_6⟩ := s
      obtain _ := q
      change sha_Equal.b1 k a_1 b_2 x_5 x_6 = some x at hx
      unfold sha_Equal.b1 at hx
      refine JC.at ⟨[(2, .one (.val (PTR gb_3 0))), (3, .one (.val (PTR gb_4 0))), (5, .one (.val (S (rU UInt8) x_5))), (7, .one (.val (S (rI .i64) x_6)))], [cvar gb_3 (rV 32 (rU UInt8)) a_1, cvar gb_4 (rV 32 (rU UInt8)) b_2], []⟩ ?_
      refine JC.seq ?_
      refine JC.region ?_
      replace hx := lt1_inv hx
      obtain ⟨v_7, hv_v_7, hx⟩ := hx
      refine JL.cons rfl (op_cmpI (ltB rfl) (.tmp rfl) .cI (congrArg some hv_v_7)) ?_
      refine JL.nil ?_
      refine JQ.then ?_
      refine JC.seq ?_
      replace hx := iteB_inv hx
      rcases hx with ⟨hc3, hx⟩ | ⟨hc3, hx⟩
      · refine JC.condT (.tmp rfl) hc3 ?_
        refine JC.skip ?_
        refine JQ.then ?_
        refine JC.seq ?_
        refine JC.block ?_
        refine JC.seq ?_
        refine JC.region ?_
        refine JL.cons rfl (op_move (ltB rfl) (.tmp rfl)) ?_
        refine JL.cons rfl (op_assign (ltB rfl) (.tmp rfl)) ?_
        refine JL.nil ?_
        refine JQ.then ?_
        replace hx := bnd_inv hx
        obtain ⟨i_8, hv_i_8, hx⟩ := hx
        replace hx := lt1_inv hx
        obtain ⟨v_9, hv_v_9, hx⟩ := hx
        replace hx := bnd_inv hx
        obtain ⟨i_10, hv_i_10, hx⟩ := hx
        replace hx := lt1_inv hx
        obtain ⟨v_11, hv_v_11, hx⟩ := hx
        replace hx := lt1_inv hx
        obtain ⟨v_12, hv_v_12, hx⟩ := hx
        replace hx := lt1_inv hx
        obtain ⟨v_13, hv_v_13, hx⟩ := hx
        refine JC.anyE (kl := [5]) (kk := 9) (base := [(2, .one (.val (PTR gb_3 0))), (3, .one (.val (PTR gb_4 0))), (5, .one (.val (S (rU UInt8) x_5))), (6, .one (.val (S (rI .i64) x_6))), (7, .one (.val (S (rI .i64) x_6)))])
            (fs := fun γ => [⟨some 10, .one (.val (S (rU UInt8) x_5))⟩, ⟨some 11, .one (.val (S (rI .i64) x_6))⟩, ⟨some 12, .one (.val (PTR gb_3 (0 + i_8.1 * 1)))⟩, ⟨some 13, .one (.val (S (rU UInt8) v_9))⟩, ⟨some 14, .one (.val (S (rI .i64) x_6))⟩, ⟨some 15, .one (.val (PTR gb_4 (0 + i_10.1 * 1)))⟩, ⟨some 16, .one (.val (S (rU UInt8) v_11))⟩, ⟨some 17, .one (.val (S (rU UInt8) v_12))⟩, ⟨some 18, .one (.val (S (rU UInt8) v_13))⟩, ⟨some 5, .one (.val (S (rU UInt8) v_13))⟩])
            (rs := fun γ => [⟨cvar gb_3 (rV 32 (rU UInt8)) a_1, none, none, [3]⟩, ⟨cvar gb_4 (rV 32 (rU UInt8)) b_2, none, none, [6]⟩])
            (ds := [10, 11, 12, 13, 14, 15, 16, 17, 18, 5]) (bs := [2, 3, 5, 6, 7]) (afts := [[], [], [], [], [], [], [], [], [], []]) (js := [0, 0]) mixed (.cons rfl (.cons rfl (.cons rfl (.cons rfl (.cons rfl .nil))))) (fun _ => rfl)
            (by
      refine DSteps.cons (j := 1) rfl (fun _ => rfl) (.run (fun γ ρ B hb hd => ⟨.none, OpStep.at ⟨ρ, B, _⟩ (setO ⟨ρ, B, _⟩ (some 10) (.one (.val (S (rU UInt8) x_5)))) (op_move (ltB rfl) (.tmp (hb 5 _ rfl)))⟩)) ?_
      refine DSteps.cons (j := 2) rfl (fun _ => rfl) (.run (fun γ ρ B hb hd => ⟨.none, OpStep.at ⟨ρ, B, _⟩ (setO ⟨ρ, B, _⟩ (some 11) (.one (.val (S (rI .i64) x_6)))) (op_move (ltB rfl) (.tmp (hb 6 _ rfl)))⟩)) ?_
      refine DSteps.cons (j := 3) rfl (fun _ => rfl) (.run (fun γ ρ B hb hd => ⟨.none, OpStep.at ⟨ρ, B, _⟩ (setO ⟨ρ, B, _⟩ (some 12) (.one (.val (PTR gb_3 (0 + i_8.1 * 1))))) (op_indexAddrIF (ltB rfl) tr45 (.tmp (hb 2 _ rfl)) (.tmp (hdl hd 1 11 rfl (by decide +kernel))) hv_i_8)⟩)) ?_
      refine DSteps.cons (j := 4) rfl (fun _ => rfl) (.run (fun γ ρ B hb hd => ⟨.none, OpStep.at ⟨ρ, (cvar gb_3 (rV 32 (rU UInt8)) a_1) :: B, _⟩ (setO ⟨ρ, (cvar gb_3 (rV 32 (rU UInt8)) a_1) :: B, _⟩ (some 13) (.one (.val (S (rU UInt8) v_9)))) (op_loadS (j := 0) (ltB rfl) tS5 (.tmp (hdl hd 2 12 rfl (by decide +kernel))) rfl (Comp.at (Comp.self (rV 32 (rU UInt8)) a_1) i_8.2 rfl) rfl hv_v_9)⟩)) ?_
      refine DSteps.cons (j := 5) rfl (fun _ => rfl) (.run (fun γ ρ B hb hd => ⟨.none, OpStep.at ⟨ρ, B, _⟩ (setO ⟨ρ, B, _⟩ (some 14) (.one (.val (S (rI .i64) x_6)))) (op_move (ltB rfl) (.tmp (hb 6 _ rfl)))⟩)) ?_
      refine DSteps.cons (j := 6) rfl (fun _ => rfl) (.run (fun γ ρ B hb hd => ⟨.none, OpStep.at ⟨ρ, B, _⟩ (setO ⟨ρ, B, _⟩ (some 15) (.one (.val (PTR gb_4 (0 + i_10.1 * 1))))) (op_indexAddrIF (ltB rfl) tr45 (.tmp (hb 3 _ rfl)) (.tmp (hdl hd 4 14 rfl (by decide +kernel))) hv_i_10)⟩)) ?_
      refine DSteps.cons (j := 7) rfl (fun _ => rfl) (.run (fun γ ρ B hb hd => ⟨.none, OpStep.at ⟨ρ, (cvar gb_4 (rV 32 (rU UInt8)) b_2) :: B, _⟩ (setO ⟨ρ, (cvar gb_4 (rV 32 (rU UInt8)) b_2) :: B, _⟩ (some 16) (.one (.val (S (rU UInt8) v_11)))) (op_loadS (j := 0) (ltB rfl) tS5 (.tmp (hdl hd 5 15 rfl (by decide +kernel))) rfl (Comp.at (Comp.self (rV 32 (rU UInt8)) b_2) i_10.2 rfl) rfl hv_v_11)⟩)) ?_
      refine DSteps.cons (j := 8) rfl (fun _ => rfl) (.run (fun γ ρ B hb hd => ⟨.none, OpStep.at ⟨ρ, B, _⟩ (setO ⟨ρ, B, _⟩ (some 17) (.one (.val (S (rU UInt8) v_12)))) (op_arU (ltB rfl) (.tmp (hdl hd 3 13 rfl (by decide +kernel))) (.tmp (hdl hd 6 16 rfl (by decide +kernel))) (congrArg some hv_v_12))⟩)) ?_
      refine DSteps.cons (j := 9) rfl (fun _ => rfl) (.run (fun γ ρ B hb hd => ⟨.none, OpStep.at ⟨ρ, B, _⟩ (setO ⟨ρ, B, _⟩ (some 18) (.one (.val (S (rU UInt8) v_13)))) (op_arU (ltB rfl) (.tmp (hdl hd 0 10 rfl (by decide +kernel))) (.tmp (hdl hd 7 17 rfl (by decide +kernel))) (congrArg some hv_v_13))⟩)) ?_
      refine DSteps.cons (j := 10) rfl (fun _ => rfl) (.run (fun γ ρ B hb hd => ⟨.none, OpStep.at ⟨ρ, B, _⟩ (setO ⟨ρ, B, _⟩ (some 5) (.one (.val (S (rU UInt8) v_13)))) (op_assign (ltB rfl) (.tmp (hdl hd 8 18 rfl (by decide +kernel))))⟩)) ?_
      exact DSteps.nil)
            (by decide +kernel) (fun _ => rfl) rfl (fun _ => rfl) (fun _ => rfl) rfl (by decide) (by decide) (by decide +kernel) (fun _ d h => by simp at h; subst h; exact ⟨_, rfl, rfl⟩)
            (ρ' := fun γ => [(2, .one (.val (PTR gb_3 0))), (3, .one (.val (PTR gb_4 0))), (5, .one (.val (S (rU UInt8) v_13))), (7, .one (.val (S (rI .i64) x_6)))])
            (X' := fun γ => [cvar gb_3 (rV 32 (rU UInt8)) a_1, cvar gb_4 (rV 32 (rU UInt8)) b_2])
            (fun γ ρ hb hd => (.cons (hb 2 _ rfl (by decide)) (.cons (hb 3 _ rfl (by decide)) (.cons (hdq hd 9 5 rfl) (.cons (hb 7 _ rfl (by decide)) .nil))))) (fun _ => rfl) (fun γ => ?_)
        refine JQ.at ⟨[(2, .one (.val (PTR gb_3 0))), (3, .one (.val (PTR gb_4 0))), (5, .one (.val (S (rU UInt8) v_13))), (7, .one (.val (S (rI .i64) x_6)))], [cvar gb_3 (rV 32 (rU UInt8)) a_1, cvar gb_4 (rV 32 (rU UInt8)) b_2], []⟩ ?_
        refine JQ.outNB ?_
        refine JQ.then ?_
        refine JC.region ?_
        replace hx := lt1_inv hx
        obtain ⟨v_14, hv_v_14, hx⟩ := hx
        refine JL.cons rfl (op_arI (ltB rfl) (.tmp rfl) .cI (congrArg some hv_v_14)) ?_
        refine JL.cons rfl (op_move (ltB rfl) (.tmp rfl)) ?_
        refine JL.nil ?_
        replace hx := Option.some.inj hx
        first | subst hx | clear hx
        exact JQ.next () rfl (Imp.norm (js := [0, 0]) rfl (.cons rfl (.cons rfl (.cons rfl (.cons rfl .nil)))))
      · refine JC.condF (.tmp rfl) hc3 ?_
        refine JC.exit ?_
        refine JQ.outX ?_
        replace hx := Option.some.inj hx
        first | subst hx | clear hx
        have ht := hr _ rfl
        have hq2 := congrArg some ht
        clear hr ht
        refine JQ.outX ?_
        refine JQ.here ?_
        replace hq2 := Option.some.inj hq2
        first | subst hq2 | clear hq2
        exact JQ.join () (Imp.norm (js := []) rfl (.cons rfl .nil))

end Go.Proofs.Ytnhiiabdoichlaa
