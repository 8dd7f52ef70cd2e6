/- Walks. -/
import Derived.Test.YtnhiiabdoichlaaT
import Derived.Test.YtnhiiabdoichlaaW0
import Derived.Test.YtnhiiabdoichlaaW10
import Derived.Test.YtnhiiabdoichlaaW7
import Derived.Test.YtnhiiabdoichlaaW8
namespace Go.Proofs.Ytnhiiabdoichlaa
open Go Fw
set_option linter.unusedVariables false
set_option maxRecDepth 100000
set_option maxHeartbeats 4000000

theorem sim_cursor_Of (k : Nat) (secret_1 : (List UInt8)) (device_2 : (List UInt8)) (b_3 : (List UInt8)) (r : (Vector UInt64 16) × Int) (hm : cursor_Of k secret_1 device_2 b_3 = some r) : Sim Try.prog 9 [S (rL (rU UInt8)) secret_1, S rS device_2, S (rL (rU UInt8)) b_3] [] (γ := Unit) (fun q => []) (fun q => .tup [.val (A (rV 16 (rU UInt64)) r.1), .val (S (rI .i64) r.2)]) := by
  unfold cursor_Of at hm
  refine Sim.of Try.func9 rfl rfl (Nat.le_of_ble_eq_true rfl) (fun e0 w0 => ?_)
  refine JC.at ⟨[(0, .one (.val (S (rL (rU UInt8)) secret_1))), (1, .one (.val (S rS device_2))), (2, .one (.val (S (rL (rU UInt8)) b_3)))], [], []⟩ ?_
  refine JC.seq ?_
  refine JC.region ?_
  refine JL.consX rfl (op_alloc (ltB rfl) tZ25 zr25) (fun q => ?_)
  obtain ⟨gb_4, hqq⟩ : ∃ z, z = q := ⟨_, rfl⟩
  subst hqq
  refine JL.pre (Imp.sub (ρ' := [(0, .one (.val (S (rL (rU UInt8)) secret_1))), (1, .one (.val (S rS device_2))), (2, .one (.val (S (rL (rU UInt8)) b_3))), (6, .one (.val (PTR gb_4 0)))]) (.cons rfl (.cons rfl (.cons rfl (.cons rfl .nil))))) ?_
  refine JL.at ⟨[(0, .one (.val (S (rL (rU UInt8)) secret_1))), (1, .one (.val (S rS device_2))), (2, .one (.val (S (rL (rU UInt8)) b_3))), (6, .one (.val (PTR gb_4 0)))], [cvar gb_4 (rV 16 (rU UInt64)) (Vector.replicate 16 (0 : UInt64))], []⟩ ?_
  refine JL.cons rfl (op_assign (ltB rfl) .cI) ?_
  refine JL.nil ?_
  refine JQ.then ?_
  refine JC.seq ?_
  refine JC.block ?_
  refine JC.seq ?_
  refine JC.region ?_
  refine JL.cons rfl (op_move (ltB rfl) (.tmp rfl)) ?_
  replace hm := bnd_inv hm
  obtain ⟨v_5, hv_v_5, hm⟩ := hm
  refine JL.consX rfl (op_call (js := []) (ltD rfl) cl19 (sim_cursor_mayDevice k device_2 v_5 hv_v_5) .func (.cons (.tmp rfl) .nil) rfl) (fun _ => ?_)
  replace hm := lt1_inv hm
  obtain ⟨v_6, hv_v_6, hm⟩ := hm
  refine JL.cons rfl (op_not (ltB rfl) (.tmp rfl) hv_v_6) ?_
  refine JL.cons rfl (op_assign (ltB rfl) (.tmp rfl)) ?_
  refine JL.nil ?_
  refine JQ.then ?_
  replace hm := iteB_inv hm
  rcases hm with ⟨hc1, hm⟩ | ⟨hc1, hm⟩
  · refine JC.condT (.tmp rfl) hc1 ?_
    refine JC.seq ?_
    refine JC.region ?_
    refine JL.cons rfl (op_build (ltB rfl) tZ25 zv25 tp25 .nil rfl) ?_
    refine JL.pre (Imp.sub (ρ' := [(6, .one (.val (PTR gb_4 0))), (7, .one (.val (S (rI .i64) (0 : Int)))), (15, .one (.val (A (rV 16 (rU UInt64)) (Vector.replicate 16 (0 : UInt64)))))]) (.cons rfl (.cons rfl (.cons rfl .nil)))) ?_
    refine JL.at ⟨[(6, .one (.val (PTR gb_4 0))), (7, .one (.val (S (rI .i64) (0 : Int)))), (15, .one (.val (A (rV 16 (rU UInt64)) (Vector.replicate 16 (0 : UInt64)))))], [cvar gb_4 (rV 16 (rU UInt64)) (Vector.replicate 16 (0 : UInt64))], []⟩ ?_
    refine JL.cons rfl (op_storeA (j := 0) tA25 (.tmp rfl) (.tmp rfl) rfl (UpdR.self (by rfl)) rfl) ?_
    refine JL.cons rfl (op_assign (ltB rfl) .cI) ?_
    refine JL.nil ?_
    refine JQ.then ?_
    refine JC.ret ?_
    refine JQ.outRB ?_
    refine JQ.outR ?_
    replace hm := Option.some.inj hm
    subst hm
    exact JQ.done (js := []) (ss := [.val (A (rV 16 (rU UInt64)) (Vector.replicate 16 (0 : UInt64))), .val (S (rI .i64) (2 : Int))]) () (.inl rfl) (.nil rfl) rfl (.cons (.cellA (j := 0) tA25 rfl rfl) (.cons (.tmp rfl) .nil)) rfl rfl rfl
  · refine JC.condF (.tmp rfl) hc1 ?_
    refine JC.seq ?_
    refine JC.region ?_
    refine JL.cons rfl (op_move (ltB rfl) (.tmp rfl)) ?_
    refine JL.pre (Imp.sub (ρ' := [(0, .one (.val (S (rL (rU UInt8)) secret_1))), (1, .one (.val (S rS device_2))), (2, .one (.val (S (rL (rU UInt8)) b_3))), (6, .one (.val (PTR gb_4 0))), (17, .one (.val (S (rL (rU UInt8)) b_3)))]) (.cons rfl (.cons rfl (.cons rfl (.cons rfl (.cons rfl .nil)))))) ?_
    refine JL.at ⟨[(0, .one (.val (S (rL (rU UInt8)) secret_1))), (1, .one (.val (S rS device_2))), (2, .one (.val (S (rL (rU UInt8)) b_3))), (6, .one (.val (PTR gb_4 0))), (17, .one (.val (S (rL (rU UInt8)) b_3)))], [cvar gb_4 (rV 16 (rU UInt64)) (Vector.replicate 16 (0 : UInt64))], []⟩ ?_
    refine JL.cons rfl (op_lenL (ltB rfl) tu22 (.tmp rfl)) ?_
    replace hm := lt1_inv hm
    obtain ⟨v_7, hv_v_7, hm⟩ := hm
    refine JL.cons rfl (op_cmpI (ltB rfl) (.tmp rfl) .cI (congrArg some hv_v_7)) ?_
    refine JL.cons rfl (op_assign (ltB rfl) (.tmp rfl)) ?_
    refine JL.nil ?_
    refine JQ.then ?_
    replace hm := iteB_inv hm
    rcases hm with ⟨hc2, hm⟩ | ⟨hc2, hm⟩
    · refine JC.condT (.tmp rfl) hc2 ?_
      refine JC.seq ?_
      refine JC.region ?_
      refine JL.cons rfl (op_build (ltB rfl) tZ25 zv25 tp25 .nil rfl) ?_
      refine JL.cons rfl (op_storeA (j := 0) tA25 (.tmp rfl) (.tmp rfl) rfl (UpdR.self (by rfl)) rfl) ?_
      refine JL.cons rfl (op_assign (ltB rfl) .cI) ?_
      refine JL.pre (Imp.sub (ρ' := [(6, .one (.val (PTR gb_4 0))), (7, .one (.val (S (rI .i64) (0 : Int))))]) (.cons rfl (.cons rfl .nil))) ?_
      refine JL.at ⟨[(6, .one (.val (PTR gb_4 0))), (7, .one (.val (S (rI .i64) (0 : Int))))], [cvar gb_4 (rV 16 (rU UInt64)) (Vector.replicate 16 (0 : UInt64))], []⟩ ?_
      refine JL.nil ?_
      refine JQ.then ?_
      refine JC.ret ?_
      refine JQ.outRB ?_
      refine JQ.outR ?_
      replace hm := Option.some.inj hm
      subst hm
      exact JQ.done (js := []) (ss := [.val (A (rV 16 (rU UInt64)) (Vector.replicate 16 (0 : UInt64))), .val (S (rI .i64) (0 : Int))]) () (.inl rfl) (.nil rfl) rfl (.cons (.cellA (j := 0) tA25 rfl rfl) (.cons (.tmp rfl) .nil)) rfl rfl rfl
    · refine JC.condF (.tmp rfl) hc2 ?_
      refine JC.seq ?_
      refine JC.region ?_
      refine JL.cons rfl (op_move (ltB rfl) (.tmp rfl)) ?_
      refine JL.cons rfl (op_lenL (ltB rfl) tu22 (.tmp rfl)) ?_
      replace hm := lt1_inv hm
      obtain ⟨v_8, hv_v_8, hm⟩ := hm
      refine JL.cons rfl (op_cmpI (ltB rfl) (.tmp rfl) .cI (congrArg some hv_v_8)) ?_
      refine JL.pre (Imp.sub (ρ' := [(0, .one (.val (S (rL (rU UInt8)) secret_1))), (1, .one (.val (S rS device_2))), (2, .one (.val (S (rL (rU UInt8)) b_3))), (6, .one (.val (PTR gb_4 0))), (24, .one (.val (S rB v_8)))]) (.cons rfl (.cons rfl (.cons rfl (.cons rfl (.cons rfl .nil)))))) ?_
      refine JL.at ⟨[(0, .one (.val (S (rL (rU UInt8)) secret_1))), (1, .one (.val (S rS device_2))), (2, .one (.val (S (rL (rU UInt8)) b_3))), (6, .one (.val (PTR gb_4 0))), (24, .one (.val (S rB v_8)))], [cvar gb_4 (rV 16 (rU UInt64)) (Vector.replicate 16 (0 : UInt64))], []⟩ ?_
      refine JL.cons rfl (op_assign (ltB rfl) (.tmp rfl)) ?_
      refine JL.nil ?_
      refine JQ.then ?_
      replace hm := iteB_inv hm
      rcases hm with ⟨hc3, hm⟩ | ⟨hc3, hm⟩
      · refine JC.condT (.tmp rfl) hc3 ?_
        refine JC.seq ?_
        refine JC.region ?_
        refine JL.cons rfl (op_build (ltB rfl) tZ25 zv25 tp25 .nil rfl) ?_
        refine JL.cons rfl (op_storeA (j := 0) tA25 (.tmp rfl) (.tmp rfl) rfl (UpdR.self (by rfl)) rfl) ?_
        refine JL.cons rfl (op_assign (ltB rfl) .cI) ?_
        refine JL.nil ?_
        refine JQ.then ?_
        refine JC.ret ?_
        refine JQ.outRB ?_
        refine JQ.outR ?_
        replace hm := Option.some.inj hm
        subst hm
        exact JQ.done (js := []) (ss := [.val (A (rV 16 (rU UInt64)) (Vector.replicate 16 (0 : UInt64))), .val (S (rI .i64) (9 : Int))]) () (.inl rfl) (.nil rfl) rfl (.cons (.cellA (j := 0) tA25 rfl rfl) (.cons (.tmp rfl) .nil)) rfl rfl rfl
      · refine JC.condF (.tmp rfl) hc3 ?_
        refine JC.skip ?_
        refine JQ.outNB ?_
        refine JQ.then ?_
        refine JC.seq ?_
        replace hm := bnd_inv hm
        obtain ⟨v_9, hv_v_9, hm⟩ := hm
        replace hm := bnd_inv hm
        obtain ⟨v_10, hv_v_10, hm⟩ := hm
        refine JC.anyE (kl := []) (kk := 0) (base := [(0, .one (.val (S (rL (rU UInt8)) secret_1))), (1, .one (.val (S rS device_2))), (2, .one (.val (S (rL (rU UInt8)) b_3))), (6, .one (.val (PTR gb_4 0)))])
            (fs := fun γ => [⟨some 26, .one (.val (S (rL (rU UInt8)) b_3))⟩, ⟨some 27, .one (.val (S (rLc (rU UInt8)) v_9))⟩, ⟨some 28, .one (.val (S (rL (rU UInt8)) b_3))⟩, ⟨some 29, .one (.val (S (rL (rU UInt8)) v_10))⟩, ⟨some 8, .one (.val (S (rLc (rU UInt8)) v_9))⟩, ⟨some 9, .one (.val (S (rL (rU UInt8)) v_10))⟩])
            (rs := fun γ => [⟨cvar gb_4 (rV 16 (rU UInt64)) (Vector.replicate 16 (0 : UInt64)), none, none, []⟩])
            (ds := [26, 27, 28, 29, 8, 9]) (bs := [0, 1, 2, 6]) (afts := [[], [], [], [], [], []]) (js := [0]) mixed (.cons rfl (.cons rfl (.cons rfl (.cons rfl .nil)))) (fun _ => rfl)
            (by
      refine DSteps.cons (j := 1) rfl (fun _ => rfl) (.run (fun γ ρ B hb hd => ⟨.none, OpStep.at ⟨ρ, B, _⟩ (setO ⟨ρ, B, _⟩ (some 26) (.one (.val (S (rL (rU UInt8)) b_3)))) (op_move (ltB rfl) (.tmp (hb 2 _ rfl)))⟩)) ?_
      refine DSteps.cons (j := 2) rfl (fun _ => rfl) (.run (fun γ ρ B hb hd => ⟨.none, OpStep.at ⟨ρ, B, _⟩ (setO ⟨ρ, B, _⟩ (some 27) (.one (.val (S (rLc (rU UInt8)) v_9)))) (op_sliceLcg (ltB rfl) tu22 tz5 (.tmp (hdl hd 0 26 rfl (by decide +kernel))) .none (.some .cI) (.some .cI) hv_v_9)⟩)) ?_
      refine DSteps.cons (j := 3) rfl (fun _ => rfl) (.run (fun γ ρ B hb hd => ⟨.none, OpStep.at ⟨ρ, B, _⟩ (setO ⟨ρ, B, _⟩ (some 28) (.one (.val (S (rL (rU UInt8)) b_3)))) (op_move (ltB rfl) (.tmp (hb 2 _ rfl)))⟩)) ?_
      refine DSteps.cons (j := 4) rfl (fun _ => rfl) (.run (fun γ ρ B hb hd => ⟨.none, OpStep.at ⟨ρ, B, _⟩ (setO ⟨ρ, B, _⟩ (some 29) (.one (.val (S (rL (rU UInt8)) v_10)))) (op_sliceLg (ltB rfl) tu22 tz5 (.tmp (hdl hd 2 28 rfl (by decide +kernel))) (.some .cI) .none hv_v_10)⟩)) ?_
      refine DSteps.cons (j := 5) rfl (fun _ => rfl) (.run (fun γ ρ B hb hd => ⟨.none, OpStep.at ⟨ρ, B, _⟩ (setO ⟨ρ, B, _⟩ (some 8) (.one (.val (S (rLc (rU UInt8)) v_9)))) (op_assign (ltB rfl) (.tmp (hdl hd 1 27 rfl (by decide +kernel))))⟩)) ?_
      refine DSteps.cons (j := 6) rfl (fun _ => rfl) (.run (fun γ ρ B hb hd => ⟨.none, OpStep.at ⟨ρ, B, _⟩ (setO ⟨ρ, B, _⟩ (some 9) (.one (.val (S (rL (rU UInt8)) v_10)))) (op_assign (ltB rfl) (.tmp (hdl hd 3 29 rfl (by decide +kernel))))⟩)) ?_
      exact DSteps.nil)
            (by decide +kernel) (fun _ => rfl) rfl (fun _ => rfl) (fun _ => rfl) rfl (by decide) (by decide) (by decide +kernel) (fun _ d h => by cases h)
            (ρ' := fun γ => [(0, .one (.val (S (rL (rU UInt8)) secret_1))), (1, .one (.val (S rS device_2))), (6, .one (.val (PTR gb_4 0))), (8, .one (.val (S (rLc (rU UInt8)) v_9))), (9, .one (.val (S (rL (rU UInt8)) v_10)))])
            (X' := fun γ => [cvar gb_4 (rV 16 (rU UInt64)) (Vector.replicate 16 (0 : UInt64))])
            (fun γ ρ hb hd => (.cons (hb 0 _ rfl (by decide)) (.cons (hb 1 _ rfl (by decide)) (.cons (hb 6 _ rfl (by decide)) (.cons (hdq hd 4 8 rfl) (.cons (hdq hd 5 9 rfl) .nil)))))) (fun _ => rfl) (fun γ => ?_)
        refine JQ.at ⟨[(0, .one (.val (S (rL (rU UInt8)) secret_1))), (1, .one (.val (S rS device_2))), (6, .one (.val (PTR gb_4 0))), (8, .one (.val (S (rLc (rU UInt8)) v_9))), (9, .one (.val (S (rL (rU UInt8)) v_10)))], [cvar gb_4 (rV 16 (rU UInt64)) (Vector.replicate 16 (0 : UInt64))], []⟩ ?_
        refine JQ.then ?_
        refine JC.seq ?_
        refine JC.region ?_
        refine JL.cons rfl (op_move (ltB rfl) (.tmp rfl)) ?_
        replace hm := bnd_inv hm
        obtain ⟨v_11, hv_v_11, hm⟩ := hm
        refine JL.consX rfl (op_call (js := []) (ltD rfl) cl22 (sim_wire_Read k v_9 v_11 hv_v_11) .func (.cons (HasO.wk (.tmp rfl) wkC) .nil) rfl) (fun q => ?_)
        obtain ⟨gb_12, go_13, gc_14⟩ := q
        refine JL.pre (Imp.sub (ρ' := [(0, .one (.val (S (rL (rU UInt8)) secret_1))), (1, .one (.val (S rS device_2))), (6, .one (.val (PTR gb_4 0))), (8, .one (.val (S (rLc (rU UInt8)) v_9))), (9, .one (.val (S (rL (rU UInt8)) v_10))), (31, .one (.val (PTR gb_12 0)))]) (.cons rfl (.cons rfl (.cons rfl (.cons rfl (.cons rfl (.cons rfl .nil))))))) ?_
        refine JL.at ⟨[(0, .one (.val (S (rL (rU UInt8)) secret_1))), (1, .one (.val (S rS device_2))), (6, .one (.val (PTR gb_4 0))), (8, .one (.val (S (rLc (rU UInt8)) v_9))), (9, .one (.val (S (rL (rU UInt8)) v_10))), (31, .one (.val (PTR gb_12 0)))], [cvar gb_12 (rP (rW (HDR go_13 0 (List.length v_11) gc_14)) (rP rB (rP rB r0))) ((), (true, (true, ()))), cown go_13 (rU UInt8) v_11 0 gc_14, cvar gb_4 (rV 16 (rU UInt64)) (Vector.replicate 16 (0 : UInt64))], []⟩ ?_
        replace hm := bnd_inv hm
        obtain ⟨⟨v_15, x_16⟩, hv_v_15, hm⟩ := hm
        refine JL.consX rfl (op_call (js := [0, 0]) (ltD rfl) cl23 (sim_wire_Reader_Vector k true true v_11 gb_12 go_13 gc_14 (v_15, x_16) hv_v_15) .func (.cons (.tmp rfl) .nil) rfl) (fun _ => ?_)
        refine JL.pre (Imp.norm (ρ' := [(0, .one (.val (S (rL (rU UInt8)) secret_1))), (1, .one (.val (S rS device_2))), (6, .one (.val (PTR gb_4 0))), (8, .one (.val (S (rLc (rU UInt8)) v_9))), (9, .one (.val (S (rL (rU UInt8)) v_10))), (32, .one (.val (A (rV 16 (rU UInt64)) v_15)))]) (js := [2]) rfl (.cons rfl (.cons rfl (.cons rfl (.cons rfl (.cons rfl (.cons rfl .nil))))))) ?_
        refine JL.at ⟨[(0, .one (.val (S (rL (rU UInt8)) secret_1))), (1, .one (.val (S rS device_2))), (6, .one (.val (PTR gb_4 0))), (8, .one (.val (S (rLc (rU UInt8)) v_9))), (9, .one (.val (S (rL (rU UInt8)) v_10))), (32, .one (.val (A (rV 16 (rU UInt64)) v_15)))], [cvar gb_4 (rV 16 (rU UInt64)) (Vector.replicate 16 (0 : UInt64))], []⟩ ?_
        refine JL.consX rfl (op_alloc (ltB rfl) tZ25 zr25) (fun q => ?_)
        obtain ⟨gb_17, hqq⟩ : ∃ z, z = q := ⟨_, rfl⟩
        subst hqq
        refine JL.pre (Imp.sub (ρ' := [(0, .one (.val (S (rL (rU UInt8)) secret_1))), (1, .one (.val (S rS device_2))), (6, .one (.val (PTR gb_4 0))), (8, .one (.val (S (rLc (rU UInt8)) v_9))), (9, .one (.val (S (rL (rU UInt8)) v_10))), (10, .one (.val (PTR gb_17 0))), (32, .one (.val (A (rV 16 (rU UInt64)) v_15)))]) (.cons rfl (.cons rfl (.cons rfl (.cons rfl (.cons rfl (.cons rfl (.cons rfl .nil)))))))) ?_
        refine JL.at ⟨[(0, .one (.val (S (rL (rU UInt8)) secret_1))), (1, .one (.val (S rS device_2))), (6, .one (.val (PTR gb_4 0))), (8, .one (.val (S (rLc (rU UInt8)) v_9))), (9, .one (.val (S (rL (rU UInt8)) v_10))), (10, .one (.val (PTR gb_17 0))), (32, .one (.val (A (rV 16 (rU UInt64)) v_15)))], [cvar gb_4 (rV 16 (rU UInt64)) (Vector.replicate 16 (0 : UInt64)), cvar gb_17 (rV 16 (rU UInt64)) (Vector.replicate 16 (0 : UInt64))], []⟩ ?_
        refine JL.cons rfl (op_storeA (j := 1) tA25 (.tmp rfl) (.tmp rfl) rfl (UpdR.self (by rfl)) rfl) ?_
        refine JL.pre (Imp.sub (ρ' := [(0, .one (.val (S (rL (rU UInt8)) secret_1))), (1, .one (.val (S rS device_2))), (6, .one (.val (PTR gb_4 0))), (8, .one (.val (S (rLc (rU UInt8)) v_9))), (9, .one (.val (S (rL (rU UInt8)) v_10))), (10, .one (.val (PTR gb_17 0)))]) (.cons rfl (.cons rfl (.cons rfl (.cons rfl (.cons rfl (.cons rfl .nil))))))) ?_
        refine JL.at ⟨[(0, .one (.val (S (rL (rU UInt8)) secret_1))), (1, .one (.val (S rS device_2))), (6, .one (.val (PTR gb_4 0))), (8, .one (.val (S (rLc (rU UInt8)) v_9))), (9, .one (.val (S (rL (rU UInt8)) v_10))), (10, .one (.val (PTR gb_17 0)))], [cvar gb_4 (rV 16 (rU UInt64)) (Vector.replicate 16 (0 : UInt64)), cvar gb_17 (rV 16 (rU UInt64)) v_15], []⟩ ?_
        refine JL.nil ?_
        refine JQ.then ?_
        refine JC.seq ?_
        replace hm := bnd_inv hm
        obtain ⟨x_25, hx4, hq4⟩ := hm
        refine JC.seqJ (γ := Unit) (stj := fun q => ⟨[(6, .one (.val (PTR gb_4 0))), (10, .one (.val (PTR gb_17 0))), (46, .one (.val (S rB x_25)))], [cvar gb_4 (rV 16 (rU UInt64)) (Vector.replicate 16 (0 : UInt64)), cvar gb_17 (rV 16 (rU UInt64)) v_15], []⟩) (fun q => ?_) ?_
        · obtain _ := q
          refine JC.at ⟨[(6, .one (.val (PTR gb_4 0))), (10, .one (.val (PTR gb_17 0))), (46, .one (.val (S rB x_25)))], [cvar gb_4 (rV 16 (rU UInt64)) (Vector.replicate 16 (0 : UInt64)), cvar gb_17 (rV 16 (rU UInt64)) v_15], []⟩ ?_
          replace hq4 := iteB_inv hq4
          rcases hq4 with ⟨hc15, hq4⟩ | ⟨hc15, hq4⟩
          · refine JC.condT (.tmp rfl) hc15 ?_
            refine JC.seq ?_
            refine JC.region ?_
            refine JL.cons rfl (op_build (ltB rfl) tZ25 zv25 tp25 .nil rfl) ?_
            refine JL.cons rfl (op_storeA (j := 0) tA25 (.tmp rfl) (.tmp rfl) rfl (UpdR.self (by rfl)) rfl) ?_
            refine JL.cons rfl (op_assign (ltB rfl) .cI) ?_
            refine JL.nil ?_
            refine JQ.then ?_
            refine JC.ret ?_
            refine JQ.outR ?_
            replace hq4 := Option.some.inj hq4
            subst hq4
            exact JQ.done (js := []) (ss := [.val (A (rV 16 (rU UInt64)) (Vector.replicate 16 (0 : UInt64))), .val (S (rI .i64) (9 : Int))]) () (.inl rfl) (.nil rfl) rfl (.cons (.cellA (j := 0) tA25 rfl rfl) (.cons (.tmp rfl) .nil)) rfl rfl rfl
          · refine JC.condF (.tmp rfl) hc15 ?_
            refine JC.skip ?_
            refine JQ.then ?_
            refine JC.seq ?_
            refine JC.region ?_
            refine JL.cons rfl (op_loadA (j := 1) (ltB rfl) tA25 (.tmp rfl) rfl (Comp.self (rV 16 (rU UInt64)) v_15) rfl) ?_
            refine JL.cons rfl (op_storeA (j := 0) tA25 (.tmp rfl) (.tmp rfl) rfl (UpdR.self (by rfl)) rfl) ?_
            refine JL.pre (Imp.norm (ρ' := [(6, .one (.val (PTR gb_4 0)))]) (js := [0]) rfl (.cons rfl .nil)) ?_
            refine JL.at ⟨[(6, .one (.val (PTR gb_4 0)))], [cvar gb_4 (rV 16 (rU UInt64)) v_15], []⟩ ?_
            refine JL.cons rfl (op_assign (ltB rfl) .cI) ?_
            refine JL.nil ?_
            refine JQ.then ?_
            refine JC.ret ?_
            replace hq4 := Option.some.inj hq4
            subst hq4
            exact JQ.done (js := []) (ss := [.val (A (rV 16 (rU UInt64)) v_15), .val (S (rI .i64) (0 : Int))]) () (.inl rfl) (.nil rfl) rfl (.cons (.cellA (j := 0) tA25 rfl rfl) (.cons (.tmp rfl) .nil)) rfl rfl rfl
        · replace hx4 := bnd_inv hx4
          obtain ⟨v_18, hv_v_18, hx4⟩ := hx4
          replace hx4 := lt1_inv hx4
          obtain ⟨v_19, hv_v_19, hx4⟩ := hx4
          replace hx4 := bnd_inv hx4
          obtain ⟨v_20, hv_v_20, hx4⟩ := hx4
          replace hx4 := bnd_inv hx4
          obtain ⟨v_21, hv_v_21, hx4⟩ := hx4
          replace hx4 := bnd_inv hx4
          obtain ⟨v_22, hv_v_22, hx4⟩ := hx4
          replace hx4 := lt1_inv hx4
          obtain ⟨v_23, hv_v_23, hx4⟩ := hx4
          replace hx4 := lt1_inv hx4
          obtain ⟨v_24, hv_v_24, hx4⟩ := hx4
          refine JC.anyE (kl := []) (kk := 0) (base := [(0, .one (.val (S (rL (rU UInt8)) secret_1))), (1, .one (.val (S rS device_2))), (6, .one (.val (PTR gb_4 0))), (8, .one (.val (S (rLc (rU UInt8)) v_9))), (9, .one (.val (S (rL (rU UInt8)) v_10))), (10, .one (.val (PTR gb_17 0)))])
              (fs := fun γ => [⟨some 33, .one (.val (A (rV 16 (rU UInt64)) v_15))⟩, ⟨some 34, .one (.val (S rB v_18))⟩, ⟨some 35, .one (.val (S rB v_19))⟩, ⟨some 36, .one (.val (S rB v_19))⟩, ⟨some 37, bif (!v_19) then .one (.val (S (rL (rU UInt8)) secret_1)) else .one .und⟩, ⟨some 38, bif (!v_19) then .one (.val (S rS device_2)) else .one .und⟩, ⟨some 39, bif (!v_19) then .one (.val (S (rLc (rU UInt8)) v_9)) else .one .und⟩, ⟨some 40, bif (!v_19) then .one (.val (A (rV 32 (rU UInt8)) v_20)) else .one .und⟩, ⟨some 41, bif (!v_19) then .one (.val (S (rL (rU UInt8)) v_10)) else .one .und⟩, ⟨some 42, bif (!v_19) then .one (.val (PT (rV 32 (rU UInt8)) v_21)) else .one .und⟩, ⟨some 43, bif (!v_19) then .one (.val (A (rV 32 (rU UInt8)) v_21)) else .one .und⟩, ⟨some 44, bif (!v_19) then .one (.val (S rB v_22)) else .one .und⟩, ⟨some 45, bif (!v_19) then .one (.val (S rB v_23)) else .one .und⟩, ⟨some 46, .one (.val (S rB v_24))⟩])
              (rs := fun γ => [⟨cvar gb_4 (rV 16 (rU UInt64)) (Vector.replicate 16 (0 : UInt64)), none, none, []⟩, ⟨cvar gb_17 (rV 16 (rU UInt64)) v_15, none, none, [0]⟩])
              (ds := [33, 34, 35, 36, 37, 38, 39, 40, 41, 42, 43, 44, 45, 46]) (bs := [0, 1, 6, 8, 9, 10]) (afts := [[], [], [], [], [], [], [], [], [], [], [], [], [], []]) (js := [0, 0]) mixed (.cons rfl (.cons rfl (.cons rfl (.cons rfl (.cons rfl (.cons rfl .nil)))))) (fun _ => rfl)
              (by
      refine DSteps.cons (j := 1) rfl (fun _ => rfl) (.run (fun γ ρ B hb hd => ⟨.none, OpStep.at ⟨ρ, (cvar gb_17 (rV 16 (rU UInt64)) v_15) :: B, _⟩ (setO ⟨ρ, (cvar gb_17 (rV 16 (rU UInt64)) v_15) :: B, _⟩ (some 33) (.one (.val (A (rV 16 (rU UInt64)) v_15)))) (op_loadA (j := 0) (ltB rfl) tA25 (.tmp (hb 10 _ rfl)) rfl (Comp.self (rV 16 (rU UInt64)) v_15) rfl)⟩)) ?_
      refine DSteps.cons (j := 2) rfl (fun _ => rfl) (.run (fun γ ρ B hb hd => ⟨.none, OpStep.at ⟨ρ, B, _⟩ (setO ⟨ρ, B, _⟩ (some 34) (.one (.val (S rB v_18)))) ((op_call (js := []) (ltD rfl) cl14 (sim_cursor_May k v_15 v_18 hv_v_18) .func (.cons (.tmp (hdl hd 0 33 rfl (by decide +kernel))) .nil) rfl).post (fun _ => Imp.refl))⟩)) ?_
      refine DSteps.cons (j := 3) rfl (fun _ => rfl) (.run (fun γ ρ B hb hd => ⟨.none, OpStep.at ⟨ρ, B, _⟩ (setO ⟨ρ, B, _⟩ (some 35) (.one (.val (S rB v_19)))) (op_not (ltB rfl) (.tmp (hdl hd 1 34 rfl (by decide +kernel))) hv_v_19)⟩)) ?_
      refine DSteps.cons (j := 4) rfl (fun _ => rfl) (.run (fun γ ρ B hb hd => ⟨.none, OpStep.at ⟨ρ, B, _⟩ (setO ⟨ρ, B, _⟩ (some 36) (.one (.val (S rB v_19)))) (op_move (ltB rfl) (.tmp (hdl hd 2 35 rfl (by decide +kernel))))⟩)) ?_
      refine DSteps.cons (j := 5) rfl (fun _ => rfl) (.cnd (q := (!v_19)) (sv := fun γ => .one (.val (S (rL (rU UInt8)) secret_1))) (fun _ => rfl) (fun _ => rfl) (fun d h => by cases h; exact ltB rfl) (fun _ => rfl) (fun γ ρ B hb hd => ⟨(Guard.isF (ltB rfl) rfl (hdl hd 3 36 rfl (by decide +kernel))), fun hq_5 => OpStep.at ⟨ρ, B, _⟩ (setO ⟨ρ, B, _⟩ (some 37) (.one (.val (S (rL (rU UInt8)) secret_1)))) (op_move (ltB rfl) (.tmp (hb 0 _ rfl)))⟩)) ?_
      refine DSteps.cons (j := 6) rfl (fun _ => rfl) (.cnd (q := (!v_19)) (sv := fun γ => .one (.val (S rS device_2))) (fun _ => rfl) (fun _ => rfl) (fun d h => by cases h; exact ltB rfl) (fun _ => rfl) (fun γ ρ B hb hd => ⟨(Guard.isF (ltB rfl) rfl (hdl hd 3 36 rfl (by decide +kernel))), fun hq_6 => OpStep.at ⟨ρ, B, _⟩ (setO ⟨ρ, B, _⟩ (some 38) (.one (.val (S rS device_2)))) (op_move (ltB rfl) (.tmp (hb 1 _ rfl)))⟩)) ?_
      refine DSteps.cons (j := 7) rfl (fun _ => rfl) (.cnd (q := (!v_19)) (sv := fun γ => .one (.val (S (rLc (rU UInt8)) v_9))) (fun _ => rfl) (fun _ => rfl) (fun d h => by cases h; exact ltB rfl) (fun _ => rfl) (fun γ ρ B hb hd => ⟨(Guard.isF (ltB rfl) rfl (hdl hd 3 36 rfl (by decide +kernel))), fun hq_7 => OpStep.at ⟨ρ, B, _⟩ (setO ⟨ρ, B, _⟩ (some 39) (.one (.val (S (rLc (rU UInt8)) v_9)))) (op_move (ltB rfl) (.tmp (hb 8 _ rfl)))⟩)) ?_
      refine DSteps.cons (j := 8) rfl (fun _ => rfl) (.cnd (q := (!v_19)) (sv := fun γ => .one (.val (A (rV 32 (rU UInt8)) v_20))) (fun _ => rfl) (fun _ => rfl) (fun d h => by cases h; exact ltB rfl) (fun _ => rfl) (fun γ ρ B hb hd => ⟨(Guard.isF (ltB rfl) rfl (hdl hd 3 36 rfl (by decide +kernel))), fun hq_8 => OpStep.at ⟨ρ, B, _⟩ (setO ⟨ρ, B, _⟩ (some 40) (.one (.val (A (rV 32 (rU UInt8)) v_20)))) ((op_call (js := []) (ltD rfl) cl21 (sim_cursor_code k secret_1 device_2 v_9 v_20 (ifT hv_v_20 hq_8)) .func (.cons (HasO.cnd (.tmp (hdl hd 4 37 rfl (by decide +kernel))) (notT (notF hq_8))) (.cons (HasO.cnd (.tmp (hdl hd 5 38 rfl (by decide +kernel))) (notT (notF hq_8))) (.cons (HasO.wk (HasO.cnd (.tmp (hdl hd 6 39 rfl (by decide +kernel))) (notT (notF hq_8))) wkC) .nil))) rfl).post (fun _ => Imp.refl))⟩)) ?_
      refine DSteps.cons (j := 9) rfl (fun _ => rfl) (.cnd (q := (!v_19)) (sv := fun γ => .one (.val (S (rL (rU UInt8)) v_10))) (fun _ => rfl) (fun _ => rfl) (fun d h => by cases h; exact ltB rfl) (fun _ => rfl) (fun γ ρ B hb hd => ⟨(Guard.isF (ltB rfl) rfl (hdl hd 3 36 rfl (by decide +kernel))), fun hq_9 => OpStep.at ⟨ρ, B, _⟩ (setO ⟨ρ, B, _⟩ (some 41) (.one (.val (S (rL (rU UInt8)) v_10)))) (op_move (ltB rfl) (.tmp (hb 9 _ rfl)))⟩)) ?_
      refine DSteps.cons (j := 10) rfl (fun _ => rfl) (.cnd (q := (!v_19)) (sv := fun γ => .one (.val (PT (rV 32 (rU UInt8)) v_21))) (fun _ => rfl) (fun _ => rfl) (fun d h => by cases h; exact ltB rfl) (fun _ => rfl) (fun γ ρ B hb hd => ⟨(Guard.isF (ltB rfl) rfl (hdl hd 3 36 rfl (by decide +kernel))), fun hq_10 => OpStep.at ⟨ρ, B, _⟩ (setO ⟨ρ, B, _⟩ (some 42) (.one (.val (PT (rV 32 (rU UInt8)) v_21)))) (op_toArr (ltB rfl) tu45 (ltB rfl) (HasO.cnd (.tmp (hdl hd 8 41 rfl (by decide +kernel))) (notT (notF hq_10))) (ifT hv_v_21 hq_10))⟩)) ?_
      refine DSteps.cons (j := 11) rfl (fun _ => rfl) (.cnd (q := (!v_19)) (sv := fun γ => .one (.val (A (rV 32 (rU UInt8)) v_21))) (fun _ => rfl) (fun _ => rfl) (fun d h => by cases h; exact ltB rfl) (fun _ => rfl) (fun γ ρ B hb hd => ⟨(Guard.isF (ltB rfl) rfl (hdl hd 3 36 rfl (by decide +kernel))), fun hq_11 => OpStep.at ⟨ρ, B, _⟩ (setO ⟨ρ, B, _⟩ (some 43) (.one (.val (A (rV 32 (rU UInt8)) v_21)))) (op_loadPAg (ltB rfl) tA45 (HasO.cnd (.tmp (hdl hd 9 42 rfl (by decide +kernel))) (notT (notF hq_11))) rfl)⟩)) ?_
      refine DSteps.cons (j := 12) rfl (fun _ => rfl) (.cnd (q := (!v_19)) (sv := fun γ => .one (.val (S rB v_22))) (fun _ => rfl) (fun _ => rfl) (fun d h => by cases h; exact ltB rfl) (fun _ => rfl) (fun γ ρ B hb hd => ⟨(Guard.isF (ltB rfl) rfl (hdl hd 3 36 rfl (by decide +kernel))), fun hq_12 => OpStep.at ⟨ρ, B, _⟩ (setO ⟨ρ, B, _⟩ (some 44) (.one (.val (S rB v_22)))) ((op_call (js := []) (ltD rfl) cl24 (sim_sha_Equal k v_20 v_21 v_22 (ifT hv_v_22 hq_12)) .func (.cons (HasO.cnd (.tmp (hdl hd 7 40 rfl (by decide +kernel))) (notT (notF hq_12))) (.cons (HasO.cnd (.tmp (hdl hd 10 43 rfl (by decide +kernel))) (notT (notF hq_12))) .nil)) rfl).post (fun _ => Imp.refl))⟩)) ?_
      refine DSteps.cons (j := 13) rfl (fun _ => rfl) (.cnd (q := (!v_19)) (sv := fun γ => .one (.val (S rB v_23))) (fun _ => rfl) (fun _ => rfl) (fun d h => by cases h; exact ltB rfl) (fun _ => rfl) (fun γ ρ B hb hd => ⟨(Guard.isF (ltB rfl) rfl (hdl hd 3 36 rfl (by decide +kernel))), fun hq_13 => OpStep.at ⟨ρ, B, _⟩ (setO ⟨ρ, B, _⟩ (some 45) (.one (.val (S rB v_23)))) (op_not (ltB rfl) (HasO.cnd (.tmp (hdl hd 11 44 rfl (by decide +kernel))) (notT (notF hq_13))) hv_v_23)⟩)) ?_
      refine DSteps.cons (j := 14) rfl (fun _ => rfl) (.run (fun γ ρ B hb hd => ⟨.none, OpStep.at ⟨ρ, B, _⟩ (setO ⟨ρ, B, _⟩ (some 46) (.one (.val (S rB v_24)))) (op_pickCS (ltB rfl) (.tmp (hdl hd 3 36 rfl (by decide +kernel))) (fun hb14 => .cB) (fun hb14 => (HasO.cnd (.tmp (hdl hd 12 45 rfl (by decide +kernel))) (notT hb14))) hv_v_24)⟩)) ?_
      exact DSteps.nil)
              (by decide +kernel) (fun _ => rfl) rfl (fun _ => rfl) (fun _ => rfl) rfl (by decide) (by decide) (by decide +kernel) (fun _ d h => by cases h)
              (ρ' := fun γ => [(6, .one (.val (PTR gb_4 0))), (10, .one (.val (PTR gb_17 0))), (46, .one (.val (S rB v_24)))])
              (X' := fun γ => [cvar gb_4 (rV 16 (rU UInt64)) (Vector.replicate 16 (0 : UInt64)), cvar gb_17 (rV 16 (rU UInt64)) v_15])
              (fun γ ρ hb hd => (.cons (hb 6 _ rfl (by decide)) (.cons (hb 10 _ rfl (by decide)) (.cons (hdq hd 13 46 rfl) .nil)))) (fun _ => rfl) (fun γ => ?_)
          refine JQ.at ⟨[(6, .one (.val (PTR gb_4 0))), (10, .one (.val (PTR gb_17 0))), (46, .one (.val (S rB v_24)))], [cvar gb_4 (rV 16 (rU UInt64)) (Vector.replicate 16 (0 : UInt64)), cvar gb_17 (rV 16 (rU UInt64)) v_15], []⟩ ?_
          replace hx4 := Option.some.inj hx4
          first | subst hx4 | clear hx4
          exact JQ.join () (Imp.norm (js := [0, 0]) rfl (.cons rfl (.cons rfl (.cons rfl .nil))))

end Go.Proofs.Ytnhiiabdoichlaa
