/- Walks. -/
import Derived.Test.YtkbkdfcakpbojaaT
import Derived.Test.YtkbkdfcakpbojaaW0
import Derived.Test.YtkbkdfcakpbojaaW1
import Derived.Test.YtkbkdfcakpbojaaW2
import Derived.Test.YtkbkdfcakpbojaaW4
import Derived.Test.YtkbkdfcakpbojaaW7
namespace Go.Proofs.Ytkbkdfcakpbojaa
open Go Fw
set_option linter.unusedVariables false
set_option maxRecDepth 100000
set_option maxHeartbeats 4000000

theorem sim_ref01_Dot (k : Nat) (d_1 : api_Dot) (r : (List UInt8)) (hm : ref01_Dot k d_1 = some r) : Sim Try.prog 24 [A r_api_Dot d_1] [] (γ := Option Nat × Nat) (fun q => [cown q.1 (rU UInt8) r 0 q.2]) (fun q => .one (.val (HDR q.1 0 (List.length r) q.2))) := by
  unfold ref01_Dot at hm
  refine Sim.of Try.func24 rfl rfl (Nat.le_of_ble_eq_true rfl) (fun e0 w0 => ?_)
  refine JC.at ⟨[(0, .one (.val (A r_api_Dot d_1)))], [], []⟩ ?_
  refine JC.seq ?_
  refine JC.region ?_
  refine JL.consX rfl (op_boxA (ltB rfl) (.tmp rfl)) (fun q => ?_)
  obtain ⟨gb_2, hqq⟩ : ∃ z, z = q := ⟨_, rfl⟩
  subst hqq
  refine JL.pre (Imp.sub (ρ' := [(1, .one (.val (PTR gb_2 0)))]) (.cons rfl .nil)) ?_
  refine JL.at ⟨[(1, .one (.val (PTR gb_2 0)))], [cvar gb_2 r_api_Dot d_1], []⟩ ?_
  refine JL.cons rfl (op_assign (ltB rfl) HasO.nilH) ?_
  refine JL.nil ?_
  refine JQ.then ?_
  refine JC.seq ?_
  replace hm := lt1_inv hm
  obtain ⟨v_3, hv_v_3, hm⟩ := hm
  replace hm := bnd_inv hm
  obtain ⟨v_4, hv_v_4, hm⟩ := hm
  replace hm := bnd_inv hm
  obtain ⟨v_6, hv_v_6, hm⟩ := hm
  replace hm := bnd_inv hm
  obtain ⟨x_8, hv_x_8, hm⟩ := hm
  refine JC.anyE (base := [(1, .one (.val (PTR gb_2 0)))])
      (fs := fun γ => [⟨some 3, .one (.val (PTR gb_2 (0 + 0)))⟩, ⟨some 4, .one (.val (S (rI .i64) d_1.Region))⟩, ⟨some 5, .one (.val (S (rU UInt64) v_3))⟩, ⟨some 6, .one (.val (HDR (deo (γ 3 0)) 0 (List.length v_4) (Int.toNat (1 : Int))))⟩, ⟨some 7, .one (.val (PTR gb_2 (0 + 1)))⟩, ⟨some 8, .one (.val (S (rU UInt64) d_1.Count))⟩, ⟨some 9, .one (.val (HDR (deo (γ 6 0)) 0 (List.length v_6) (Int.toNat (8 : Int))))⟩, ⟨some 10, .one (.val (HDR (deo (γ 7 0)) 0 (List.length x_8) (γ 7 1)))⟩, ⟨some 2, .one (.val (HDR (deo (γ 7 0)) 0 (List.length x_8) (γ 7 1)))⟩])
      (rs := fun γ => [⟨cvar gb_2 r_api_Dot d_1, none, none, [1, 5]⟩, ⟨cown (deo (γ 3 0)) (rU UInt8) v_4 0 (Int.toNat (1 : Int)), (some 3), (some 7), []⟩, ⟨cown (deo (γ 6 0)) (rU UInt8) v_6 0 (Int.toNat (8 : Int)), (some 6), none, [7]⟩, ⟨cown (deo (γ 7 0)) (rU UInt8) x_8 0 (γ 7 1), (some 7), none, []⟩])
      (ds := [3, 4, 5, 6, 7, 8, 9, 10, 2]) (bs := [1]) (afts := [[], [], [], [3, 6, 7, 8], [], [], [6, 7, 8], [7, 8], []]) (js := [0]) mixed (.cons rfl .nil) (fun _ => rfl)
      (by
      refine DSteps.cons (j := 1) rfl (fun _ => rfl) (.run (fun γ ρ B hb hd => ⟨.none, OpStep.at ⟨ρ, B, _⟩ (setO ⟨ρ, B, _⟩ (some 3) (.one (.val (PTR gb_2 (0 + 0))))) (op_fieldAddr (off := 0) (ltB rfl) tf48_0 (.tmp (hb 1 _ rfl)))⟩)) ?_
      refine DSteps.cons (j := 2) rfl (fun _ => rfl) (.run (fun γ ρ B hb hd => ⟨.none, OpStep.at ⟨ρ, (cvar gb_2 r_api_Dot d_1) :: B, _⟩ (setO ⟨ρ, (cvar gb_2 r_api_Dot d_1) :: B, _⟩ (some 4) (.one (.val (S (rI .i64) d_1.Region)))) (op_loadS (j := 0) (ltB rfl) tS3 (.tmp (hdl hd 0 3 rfl (by decide +kernel))) rfl (Comp.trans (Comp.self r_api_Dot d_1) (comp_api_Dot_Region d_1) (Nat.le_of_ble_eq_true rfl)) rfl rfl)⟩)) ?_
      refine DSteps.cons (j := 3) rfl (fun _ => rfl) (.run (fun γ ρ B hb hd => ⟨.none, OpStep.at ⟨ρ, B, _⟩ (setO ⟨ρ, B, _⟩ (some 5) (.one (.val (S (rU UInt64) v_3)))) (op_convIU (ltB rfl) tu3 tu22 (.tmp (hdl hd 1 4 rfl (by decide +kernel))) hv_v_3)⟩)) ?_
      refine DSteps.cons (j := 4) rfl (fun _ => rfl) (.runX (fun _ _ => rfl) (fun γ ρ B hb hd => ⟨.none, OpX.ghost (γ := Option Nat) (st' := fun q => setO ⟨ρ, (cown q (rU UInt8) v_4 0 (Int.toNat (1 : Int))) :: B, _⟩ (some 6) (.one (.val (HDR q 0 (List.length v_4) (Int.toNat (1 : Int)))))) (fun q c => eno q) (op_call (js := []) (ltD rfl) cl12 (sim_ref01_Put k v_3 (1 : Int) v_4 hv_v_4) .func (.cons (.tmp (hdl hd 2 5 rfl (by decide +kernel))) (.cons .cI .nil)) rfl) (fun q => by cases q <;> exact Imp.refl)⟩) (fun _ _ => rfl) (fun _ _ => rfl)) ?_
      refine DSteps.cons (j := 5) rfl (fun _ => rfl) (.run (fun γ ρ B hb hd => ⟨.none, OpStep.at ⟨ρ, B, _⟩ (setO ⟨ρ, B, _⟩ (some 7) (.one (.val (PTR gb_2 (0 + 1))))) (op_fieldAddr (off := 1) (ltB rfl) tf48_1 (.tmp (hb 1 _ rfl)))⟩)) ?_
      refine DSteps.cons (j := 6) rfl (fun _ => rfl) (.run (fun γ ρ B hb hd => ⟨.none, OpStep.at ⟨ρ, (cvar gb_2 r_api_Dot d_1) :: B, _⟩ (setO ⟨ρ, (cvar gb_2 r_api_Dot d_1) :: B, _⟩ (some 8) (.one (.val (S (rU UInt64) d_1.Count)))) (op_loadS (j := 0) (ltB rfl) tS22 (.tmp (hdl hd 4 7 rfl (by decide +kernel))) rfl (Comp.trans (Comp.self r_api_Dot d_1) (comp_api_Dot_Count d_1) (Nat.le_of_ble_eq_true rfl)) rfl rfl)⟩)) ?_
      refine DSteps.cons (j := 7) rfl (fun _ => rfl) (.runX (fun _ _ => rfl) (fun γ ρ B hb hd => ⟨.none, OpX.ghost (γ := Option Nat) (st' := fun q => setO ⟨ρ, (cown q (rU UInt8) v_6 0 (Int.toNat (8 : Int))) :: B, _⟩ (some 9) (.one (.val (HDR q 0 (List.length v_6) (Int.toNat (8 : Int)))))) (fun q c => eno q) (op_call (js := []) (ltD rfl) cl12 (sim_ref01_Put k d_1.Count (8 : Int) v_6 hv_v_6) .func (.cons (.tmp (hdl hd 5 8 rfl (by decide +kernel))) (.cons .cI .nil)) rfl) (fun q => by cases q <;> exact Imp.refl)⟩) (fun _ _ => rfl) (fun _ _ => rfl)) ?_
      refine DSteps.cons (j := 8) rfl (fun _ => rfl) (.runX (fun _ _ => rfl) (fun γ ρ B hb hd => ⟨.none, OpX.ghost (γ := Option Nat × Nat) (st' := fun q => setO ⟨ρ, (cown q.1 (rU UInt8) x_8 0 q.2) :: (cown (deo (γ 6 0)) (rU UInt8) v_6 0 (Int.toNat (8 : Int))) :: B, _⟩ (some 10) (.one (.val (HDR q.1 0 (List.length x_8) q.2)))) (fun q c => bif Nat.beq c 0 then eno q.1 else q.2) (op_appendO (j := 0) (j' := 1) (ltB rfl) tu23 tu23 rfl tB5 rfl (Nat.lt_of_lt_of_le Nat.zero_lt_one (Nat.le_of_ble_eq_true rfl)) (Nat.lt_of_lt_of_le Nat.zero_lt_one (Nat.le_of_ble_eq_true rfl))  rfl (.tmp (hdl hd 3 6 rfl (by decide +kernel))) rfl (.tmp (hdl hd 6 9 rfl (by decide +kernel))) hv_x_8) (fun q => by obtain ⟨q0, q1⟩ := q; cases q0 <;> exact Imp.refl)⟩) (fun _ _ => rfl) (fun _ _ => rfl)) ?_
      refine DSteps.cons (j := 9) rfl (fun _ => rfl) (.run (fun γ ρ B hb hd => ⟨.none, OpStep.at ⟨ρ, B, _⟩ (setO ⟨ρ, B, _⟩ (some 2) (.one (.val (HDR (deo (γ 7 0)) 0 (List.length x_8) (γ 7 1))))) (op_assign (ltB rfl) (.tmp (hdl hd 7 10 rfl (by decide +kernel))))⟩)) ?_
      exact DSteps.nil)
      (by decide +kernel) (fun _ => rfl) rfl (fun _ => rfl) (fun _ => rfl) rfl (by decide) (by decide)
      (ρ' := fun γ => [(2, .one (.val (HDR (deo (γ 7 0)) 0 (List.length x_8) (γ 7 1))))])
      (X' := fun γ => [cvar gb_2 r_api_Dot d_1, cown (deo (γ 6 0)) (rU UInt8) v_6 0 (Int.toNat (8 : Int)), cown (deo (γ 7 0)) (rU UInt8) x_8 0 (γ 7 1)])
      (fun γ ρ hb hd => (.cons (hdq hd 8 2 rfl) .nil)) (fun _ => rfl) (fun γ => ?_)
  generalize (deo (γ 3 0)) = go_5
  generalize (deo (γ 6 0)) = go_7
  generalize (deo (γ 7 0)) = go_9
  generalize (γ 7 1) = gc_10
  clear γ
  refine JQ.at ⟨[(2, .one (.val (HDR go_9 0 (List.length x_8) gc_10)))], [cvar gb_2 r_api_Dot d_1, cown go_7 (rU UInt8) v_6 0 (Int.toNat (8 : Int)), cown go_9 (rU UInt8) x_8 0 gc_10], []⟩ ?_
  refine JQ.then ?_
  refine JC.ret ?_
  replace hm := Option.some.inj hm
  subst hm
  exact JQ.done (js := [2]) (ss := [.val (HDR go_9 0 (List.length x_8) gc_10)]) (go_9, gc_10) (.inl rfl) (.nil rfl) rfl (.cons (.tmp rfl) .nil) rfl rfl rfl

theorem sim_ref01_Vector (k : Nat) (v_1 : (Vector UInt64 16)) (r : (List UInt8)) (hm : ref01_Vector k v_1 = some r) : Sim Try.prog 25 [A (rV 16 (rU UInt64)) v_1] [] (γ := Option Nat × Nat) (fun q => [cown q.1 (rU UInt8) r 0 q.2]) (fun q => .one (.val (HDR q.1 0 (List.length r) q.2))) := by
  unfold ref01_Vector at hm
  refine Sim.of Try.func25 rfl rfl (Nat.le_of_ble_eq_true rfl) (fun e0 w0 => ?_)
  refine JC.at ⟨[(0, .one (.val (A (rV 16 (rU UInt64)) v_1)))], [], []⟩ ?_
  refine JC.seq ?_
  refine JC.region ?_
  refine JL.consX rfl (op_boxA (ltB rfl) (.tmp rfl)) (fun q => ?_)
  obtain ⟨gb_2, hqq⟩ : ∃ z, z = q := ⟨_, rfl⟩
  subst hqq
  refine JL.pre (Imp.sub (ρ' := [(1, .one (.val (PTR gb_2 0)))]) (.cons rfl .nil)) ?_
  refine JL.at ⟨[(1, .one (.val (PTR gb_2 0)))], [cvar gb_2 (rV 16 (rU UInt64)) v_1], []⟩ ?_
  refine JL.cons rfl (op_assign (ltB rfl) HasO.nilH) ?_
  refine JL.nil ?_
  refine JQ.then ?_
  refine JC.seq ?_
  refine JC.region ?_
  refine JL.cons rfl (op_assign (ltB rfl) HasO.nilH) ?_
  refine JL.nil ?_
  refine JQ.then ?_
  obtain ⟨b_16, hx1, hq1⟩ := bnd_inv hm
  refine JC.seqJ (γ := Option Nat × Nat) (stj := fun q => ⟨[(3, .one (.val (HDR q.1 0 (List.length b_16) q.2)))], [cown q.1 (rU UInt8) b_16 0 q.2], []⟩) (fun q => ?_) ?_
  · obtain ⟨go_17, gc_18⟩ := q
    refine JC.at ⟨[(3, .one (.val (HDR go_17 0 (List.length b_16) gc_18)))], [cown go_17 (rU UInt8) b_16 0 gc_18], []⟩ ?_
    refine JC.seq ?_
    refine JC.region ?_
    refine JL.cons rfl (op_move (ltB rfl) (.tmp rfl)) ?_
    refine JL.cons rfl (op_assign (ltB rfl) (.tmp rfl)) ?_
    refine JL.nil ?_
    refine JQ.then ?_
    refine JC.ret ?_
    replace hq1 := Option.some.inj hq1
    subst hq1
    exact JQ.done (js := [0]) (ss := [.val (HDR go_17 0 (List.length b_16) gc_18)]) (go_17, gc_18) (.inl rfl) (.nil rfl) rfl (.cons (.tmp rfl) .nil) rfl rfl rfl
  · refine JC.seq ?_
    refine JC.region ?_
    refine JL.cons rfl (op_assign (ltB rfl) .cI) ?_
    refine JL.nil ?_
    refine JQ.then ?_
    refine JC.block ?_
    refine JC.pre (Imp.nilown (rU UInt8)) ?_
    refine JC.pre ?_ (JC.loop (γ := Option Nat × Nat) (stf := fun s q => ⟨[(1, .one (.val (PTR gb_2 0))), (3, .one (.val (HDR q.1 0 (List.length s.1) q.2))), (4, .one (.val (S (rI .i64) s.2)))], [cvar gb_2 (rV 16 (rU UInt64)) v_1, cown q.1 (rU UInt8) s.1 0 q.2], []⟩) (q := (none, 0)) hx1 ?_)
    · exact (Imp.norm (js := [0, 0]) rfl (.cons rfl (.cons rfl (.cons rfl .nil))))
    · intro s q x hx hr
      obtain ⟨b_3, i_4⟩ := s
      obtain ⟨go_5, gc_6⟩ := q
      change ref01_Vector.b1 k v_1 b_3 i_4 = some x at hx
      unfold ref01_Vector.b1 at hx
      refine JC.at ⟨[(1, .one (.val (PTR gb_2 0))), (3, .one (.val (HDR go_5 0 (List.length b_3) gc_6))), (4, .one (.val (S (rI .i64) i_4)))], [cvar gb_2 (rV 16 (rU UInt64)) v_1, cown go_5 (rU UInt8) b_3 0 gc_6], []⟩ ?_
      refine JC.seq ?_
      refine JC.seq ?_
      refine JC.region ?_
      refine JL.cons rfl (op_move (ltB rfl) (.tmp rfl)) ?_
      replace hx := lt1_inv hx
      obtain ⟨v_7, hv_v_7, hx⟩ := hx
      refine JL.cons rfl (op_cmpI (ltB rfl) (.tmp rfl) .cI (congrArg some hv_v_7)) ?_
      refine JL.nil ?_
      refine JQ.then ?_
      rcases iteB_inv hx with ⟨hc3, hx⟩ | ⟨hc3, hx⟩
      · refine JC.condT (.tmp rfl) hc3 ?_
        refine JC.skip ?_
        refine JQ.then ?_
        refine JC.seq ?_
        refine JC.block ?_
        refine JC.region ?_
        refine JL.cons rfl (op_move (ltB rfl) (.tmp rfl)) ?_
        refine JL.cons rfl (op_move (ltB rfl) (.tmp rfl)) ?_
        replace hx := bnd_inv hx
        obtain ⟨i_8, hv_i_8, hx⟩ := hx
        refine JL.cons rfl (op_indexAddrIF (ltB rfl) tr50 (.tmp rfl) (.tmp rfl) hv_i_8) ?_
        replace hx := lt1_inv hx
        obtain ⟨v_9, hv_v_9, hx⟩ := hx
        refine JL.cons rfl (op_loadS (j := 0) (ltB rfl) tS22 (.tmp rfl) rfl (Comp.at (Comp.self (rV 16 (rU UInt64)) v_1) i_8.2 rfl) rfl hv_v_9) ?_
        refine JL.pre (Imp.sub (ρ' := [(1, .one (.val (PTR gb_2 0))), (3, .one (.val (HDR go_5 0 (List.length b_3) gc_6))), (4, .one (.val (S (rI .i64) i_4))), (9, .one (.val (HDR go_5 0 (List.length b_3) gc_6))), (12, .one (.val (S (rU UInt64) v_9)))]) (.cons rfl (.cons rfl (.cons rfl (.cons rfl (.cons rfl .nil)))))) ?_
        refine JL.at ⟨[(1, .one (.val (PTR gb_2 0))), (3, .one (.val (HDR go_5 0 (List.length b_3) gc_6))), (4, .one (.val (S (rI .i64) i_4))), (9, .one (.val (HDR go_5 0 (List.length b_3) gc_6))), (12, .one (.val (S (rU UInt64) v_9)))], [cvar gb_2 (rV 16 (rU UInt64)) v_1, cown go_5 (rU UInt8) b_3 0 gc_6], []⟩ ?_
        replace hx := bnd_inv hx
        obtain ⟨v_10, hv_v_10, hx⟩ := hx
        refine JL.consX rfl (op_call (js := []) (ltD rfl) cl12 (sim_ref01_Put k v_9 (8 : Int) v_10 hv_v_10) .func (.cons (.tmp rfl) (.cons .cI .nil)) rfl) (fun q => ?_)
        obtain ⟨go_11, hqq⟩ : ∃ z, z = q := ⟨_, rfl⟩
        subst hqq
        refine JL.pre (Imp.sub (ρ' := [(1, .one (.val (PTR gb_2 0))), (3, .one (.val (HDR go_5 0 (List.length b_3) gc_6))), (4, .one (.val (S (rI .i64) i_4))), (9, .one (.val (HDR go_5 0 (List.length b_3) gc_6))), (13, .one (.val (HDR go_11 0 (List.length v_10) (Int.toNat (8 : Int)))))]) (.cons rfl (.cons rfl (.cons rfl (.cons rfl (.cons rfl .nil)))))) ?_
        refine JL.at ⟨[(1, .one (.val (PTR gb_2 0))), (3, .one (.val (HDR go_5 0 (List.length b_3) gc_6))), (4, .one (.val (S (rI .i64) i_4))), (9, .one (.val (HDR go_5 0 (List.length b_3) gc_6))), (13, .one (.val (HDR go_11 0 (List.length v_10) (Int.toNat (8 : Int)))))], [cown go_11 (rU UInt8) v_10 0 (Int.toNat (8 : Int)), cvar gb_2 (rV 16 (rU UInt64)) v_1, cown go_5 (rU UInt8) b_3 0 gc_6], []⟩ ?_
        replace hx := bnd_inv hx
        obtain ⟨b_12, hv_b_12, hx⟩ := hx
        refine JL.consX rfl (op_appendO (j := 2) (j' := 0) (ltB rfl) tu23 tu23 rfl tB5 rfl (Nat.lt_of_lt_of_le Nat.zero_lt_one (Nat.le_of_ble_eq_true rfl)) (Nat.lt_of_lt_of_le Nat.zero_lt_one (Nat.le_of_ble_eq_true rfl))  rfl (.tmp rfl) rfl (.tmp rfl) hv_b_12) (fun q => ?_)
        obtain ⟨go_13, gc_14⟩ := q
        refine JL.pre (Imp.norm (ρ' := [(1, .one (.val (PTR gb_2 0))), (4, .one (.val (S (rI .i64) i_4))), (14, .one (.val (HDR go_13 0 (List.length b_12) gc_14)))]) (js := [1, 1]) rfl (.cons rfl (.cons rfl (.cons rfl .nil)))) ?_
        refine JL.at ⟨[(1, .one (.val (PTR gb_2 0))), (4, .one (.val (S (rI .i64) i_4))), (14, .one (.val (HDR go_13 0 (List.length b_12) gc_14)))], [cvar gb_2 (rV 16 (rU UInt64)) v_1, cown go_13 (rU UInt8) b_12 0 gc_14], []⟩ ?_
        refine JL.cons rfl (op_assign (ltB rfl) (.tmp rfl)) ?_
        refine JL.nil ?_
        refine JQ.outNB ?_
        refine JQ.then ?_
        refine JC.region ?_
        refine JL.cons rfl (op_move (ltB rfl) (.tmp rfl)) ?_
        replace hx := lt1_inv hx
        obtain ⟨v_15, hv_v_15, hx⟩ := hx
        refine JL.cons rfl (op_arI (ltB rfl) (.tmp rfl) .cI (congrArg some hv_v_15)) ?_
        refine JL.cons rfl (op_assign (ltB rfl) (.tmp rfl)) ?_
        refine JL.nil ?_
        replace hx := Option.some.inj hx
        subst hx
        exact JQ.next (go_13, gc_14) rfl (Imp.norm (js := [0, 0]) rfl (.cons rfl (.cons rfl (.cons rfl .nil))))
      · refine JC.condF (.tmp rfl) hc3 ?_
        refine JC.exit ?_
        refine JQ.outX ?_
        replace hx := Option.some.inj hx
        subst hx
        have ht := hr _ rfl
        have hq2 := congrArg some ht
        clear hr ht
        refine JQ.outX ?_
        refine JQ.here ?_
        replace hq2 := Option.some.inj hq2
        subst hq2
        exact JQ.join (go_5, gc_6) (Imp.norm (js := [1]) rfl (.cons rfl .nil))

theorem sim_wire_Reader_Dot'2 (k : Nat) (r_1 : wire_Reader) (gb_2 : Nat) (r : api_Dot × wire_Reader) (hm : wire_Reader_Dot'2 k r_1 = some r) : Sim Try.prog 27 [PTR gb_2 0] [cvar gb_2 r_wire_Reader r_1] (γ := Unit) (fun q => [cvar gb_2 r_wire_Reader r.2]) (fun q => .one (.val (A r_api_Dot r.1))) := by
  unfold wire_Reader_Dot'2 at hm
  refine Sim.of Try.func27 rfl rfl (Nat.le_of_ble_eq_true rfl) (fun e0 w0 => ?_)
  refine JC.at ⟨[(0, .one (.val (PTR gb_2 0)))], [cvar gb_2 r_wire_Reader r_1], []⟩ ?_
  refine JC.seq ?_
  refine JC.region ?_
  refine JL.consX rfl (op_alloc (ltB rfl) tZ48 zr48) (fun q => ?_)
  obtain ⟨gb_3, hqq⟩ : ∃ z, z = q := ⟨_, rfl⟩
  subst hqq
  refine JL.pre (Imp.sub (ρ' := [(0, .one (.val (PTR gb_2 0))), (2, .one (.val (PTR gb_3 0)))]) (.cons rfl (.cons rfl .nil))) ?_
  refine JL.at ⟨[(0, .one (.val (PTR gb_2 0))), (2, .one (.val (PTR gb_3 0)))], [cvar gb_2 r_wire_Reader r_1, cvar gb_3 r_api_Dot (api_Dot.mk (0 : Int) (0 : UInt64))], []⟩ ?_
  refine JL.nil ?_
  refine JQ.then ?_
  refine JC.seq ?_
  refine JC.region ?_
  refine JL.cons rfl (op_move (ltB rfl) (.tmp rfl)) ?_
  replace hm := bnd_inv hm
  obtain ⟨⟨v_4, v_5, x_6⟩, hv_v_4, hm⟩ := hm
  refine JL.consX rfl (op_call (js := [0]) (ltD rfl) cl47 (sim_wire_Reader_take'2 k (9 : Int) r_1 gb_2 (v_4, v_5, x_6) hv_v_4) .func (.cons (.tmp rfl) (.cons .cI .nil)) rfl) (fun _ => ?_)
  refine JL.pre (Imp.sub (ρ' := [(2, .one (.val (PTR gb_3 0))), (8, .tup [.val (S (rL (rU UInt8)) v_4), .val (S rB v_5)])]) (.cons rfl (.cons rfl .nil))) ?_
  refine JL.at ⟨[(2, .one (.val (PTR gb_3 0))), (8, .tup [.val (S (rL (rU UInt8)) v_4), .val (S rB v_5)])], [cvar gb_2 r_wire_Reader x_6, cvar gb_3 r_api_Dot (api_Dot.mk (0 : Int) (0 : UInt64))], []⟩ ?_
  refine JL.cons rfl (op_move (ltB rfl) (.tmp rfl)) ?_
  refine JL.cons rfl (op_extract (i := 0) (ltB rfl) (.tmp rfl) rfl) ?_
  refine JL.cons rfl (op_extract (i := 1) (ltB rfl) (.tmp rfl) rfl) ?_
  refine JL.cons rfl (op_assign (ltB rfl) (.tmp rfl)) ?_
  refine JL.cons rfl (op_assign (ltB rfl) (.tmp rfl)) ?_
  refine JL.nil ?_
  refine JQ.then ?_
  refine JC.seq ?_
  refine JC.region ?_
  refine JL.cons rfl (op_move (ltB rfl) (.tmp rfl)) ?_
  refine JL.pre (Imp.sub (ρ' := [(2, .one (.val (PTR gb_3 0))), (11, .one (.val (S (rL (rU UInt8)) v_4)))]) (.cons rfl (.cons rfl .nil))) ?_
  refine JL.at ⟨[(2, .one (.val (PTR gb_3 0))), (11, .one (.val (S (rL (rU UInt8)) v_4)))], [cvar gb_2 r_wire_Reader x_6, cvar gb_3 r_api_Dot (api_Dot.mk (0 : Int) (0 : UInt64))], []⟩ ?_
  replace hm := bnd_inv hm
  obtain ⟨v_7, hv_v_7, hm⟩ := hm
  refine JL.consX rfl (op_call (js := []) (ltD rfl) cl16 (sim_wire_Read k v_4 v_7 hv_v_7) .func (.cons (.tmp rfl) .nil) rfl) (fun q => ?_)
  obtain ⟨gb_8, go_9, gc_10⟩ := q
  refine JL.pre (Imp.sub (ρ' := [(2, .one (.val (PTR gb_3 0))), (12, .one (.val (PTR gb_8 0)))]) (.cons rfl (.cons rfl .nil))) ?_
  refine JL.at ⟨[(2, .one (.val (PTR gb_3 0))), (12, .one (.val (PTR gb_8 0)))], [cvar gb_8 (rP (rW (HDR go_9 0 (List.length v_7) gc_10)) (rP rB (rP rB r0))) ((), (true, (true, ()))), cown go_9 (rU UInt8) v_7 0 gc_10, cvar gb_2 r_wire_Reader x_6, cvar gb_3 r_api_Dot (api_Dot.mk (0 : Int) (0 : UInt64))], []⟩ ?_
  refine JL.cons rfl (op_assign (ltB rfl) (.tmp rfl)) ?_
  refine JL.nil ?_
  refine JQ.then ?_
  refine JC.seq ?_
  refine JC.region ?_
  refine JL.cons rfl (op_move (ltB rfl) (.tmp rfl)) ?_
  replace hm := bnd_inv hm
  obtain ⟨⟨v_11, x_12⟩, hv_v_11, hm⟩ := hm
  refine JL.consX rfl (op_call (js := [0, 0]) (ltD rfl) cl39 (sim_wire_Reader_Number k (1 : Int) true true v_7 gb_8 go_9 gc_10 (v_11, x_12) hv_v_11) .func (.cons (.tmp rfl) (.cons .cI .nil)) rfl) (fun _ => ?_)
  refine JL.pre (Imp.norm (ρ' := [(2, .one (.val (PTR gb_3 0))), (5, .one (.val (PTR gb_8 0))), (14, .one (.val (S (rU UInt64) v_11)))]) (js := [0, 1, 1]) rfl (.cons rfl (.cons rfl (.cons rfl .nil)))) ?_
  refine JL.at ⟨[(2, .one (.val (PTR gb_3 0))), (5, .one (.val (PTR gb_8 0))), (14, .one (.val (S (rU UInt64) v_11)))], [cvar gb_8 r_wire_Reader x_12, cvar gb_2 r_wire_Reader x_6, cvar gb_3 r_api_Dot (api_Dot.mk (0 : Int) (0 : UInt64))], []⟩ ?_
  replace hm := lt1_inv hm
  obtain ⟨v_13, hv_v_13, hm⟩ := hm
  refine JL.cons rfl (op_convUI (ltB rfl) tu22 tu3 (.tmp rfl) hv_v_13) ?_
  refine JL.cons rfl (op_move (ltB rfl) (.tmp rfl)) ?_
  replace hm := bnd_inv hm
  obtain ⟨⟨v_14, x_15⟩, hv_v_14, hm⟩ := hm
  refine JL.consX rfl (op_call (js := [0]) (ltD rfl) cl39 (sim_wire_Reader_Number'2 k (8 : Int) x_12 gb_8 (v_14, x_15) hv_v_14) .func (.cons (.tmp rfl) (.cons .cI .nil)) rfl) (fun _ => ?_)
  refine JL.pre (Imp.norm (ρ' := [(2, .one (.val (PTR gb_3 0))), (15, .one (.val (S (rI .i64) v_13))), (17, .one (.val (S (rU UInt64) v_14)))]) (js := [1, 1]) rfl (.cons rfl (.cons rfl (.cons rfl .nil)))) ?_
  refine JL.at ⟨[(2, .one (.val (PTR gb_3 0))), (15, .one (.val (S (rI .i64) v_13))), (17, .one (.val (S (rU UInt64) v_14)))], [cvar gb_2 r_wire_Reader x_6, cvar gb_3 r_api_Dot (api_Dot.mk (0 : Int) (0 : UInt64))], []⟩ ?_
  refine JL.cons rfl (op_build (ltB rfl) tZ48 zs48 tp48 (.S (off := 0) rfl (.tmp rfl) rfl ((UpdR.fst (UpdR.self (by rfl))).at (by rfl)) (.S (off := 1) rfl (.tmp rfl) rfl ((UpdR.snd (UpdR.fst (UpdR.self (by rfl)))).at (by rfl)) .nil)) rfl) ?_
  refine JL.cons rfl (op_storeA (j := 1) tA48 (.tmp rfl) (.tmp rfl) rfl (UpdR.self (by rfl)) rfl) ?_
  refine JL.pre (Imp.sub (ρ' := [(2, .one (.val (PTR gb_3 0)))]) (.cons rfl .nil)) ?_
  refine JL.at ⟨[(2, .one (.val (PTR gb_3 0)))], [cvar gb_2 r_wire_Reader x_6, cvar gb_3 (rP (rI .i64) (rP (rU UInt64) r0)) (v_13, (v_14, ()))], []⟩ ?_
  refine JL.nil ?_
  refine JQ.then ?_
  refine JC.ret ?_
  replace hm := Option.some.inj hm
  subst hm
  refine JQ.pre (Imp.var (j := 1) (q := r_api_Dot) (y := (api_Dot.mk v_13 v_14)) rfl (Wk.st Wk.refl)) ?_
  exact JQ.done (js := [0]) (ss := [.val (A r_api_Dot (api_Dot.mk v_13 v_14))]) () (.inl rfl) (.nil rfl) rfl (.cons (.cellA (j := 1) tA48 rfl rfl) .nil) rfl rfl rfl

theorem sim_wire_Reader_Vector'2 (k : Nat) (r_1 : wire_Reader) (gb_2 : Nat) (r : (Vector UInt64 16) × wire_Reader) (hm : wire_Reader_Vector'2 k r_1 = some r) : Sim Try.prog 28 [PTR gb_2 0] [cvar gb_2 r_wire_Reader r_1] (γ := Unit) (fun q => [cvar gb_2 r_wire_Reader r.2]) (fun q => .one (.val (A (rV 16 (rU UInt64)) r.1))) := by
  unfold wire_Reader_Vector'2 at hm
  refine Sim.of Try.func28 rfl rfl (Nat.le_of_ble_eq_true rfl) (fun e0 w0 => ?_)
  refine JC.at ⟨[(0, .one (.val (PTR gb_2 0)))], [cvar gb_2 r_wire_Reader r_1], []⟩ ?_
  refine JC.seq ?_
  refine JC.region ?_
  refine JL.consX rfl (op_alloc (ltB rfl) tZ50 zr50) (fun q => ?_)
  obtain ⟨gb_3, hqq⟩ : ∃ z, z = q := ⟨_, rfl⟩
  subst hqq
  refine JL.pre (Imp.sub (ρ' := [(0, .one (.val (PTR gb_2 0))), (2, .one (.val (PTR gb_3 0)))]) (.cons rfl (.cons rfl .nil))) ?_
  refine JL.at ⟨[(0, .one (.val (PTR gb_2 0))), (2, .one (.val (PTR gb_3 0)))], [cvar gb_2 r_wire_Reader r_1, cvar gb_3 (rV 16 (rU UInt64)) (Vector.replicate 16 (0 : UInt64))], []⟩ ?_
  refine JL.nil ?_
  refine JQ.then ?_
  refine JC.seq ?_
  refine JC.region ?_
  refine JL.cons rfl (op_move (ltB rfl) (.tmp rfl)) ?_
  replace hm := bnd_inv hm
  obtain ⟨⟨v_4, v_5, x_6⟩, hv_v_4, hm⟩ := hm
  refine JL.consX rfl (op_call (js := [0]) (ltD rfl) cl47 (sim_wire_Reader_take'2 k (128 : Int) r_1 gb_2 (v_4, v_5, x_6) hv_v_4) .func (.cons (.tmp rfl) (.cons .cI .nil)) rfl) (fun _ => ?_)
  refine JL.pre (Imp.sub (ρ' := [(2, .one (.val (PTR gb_3 0))), (10, .tup [.val (S (rL (rU UInt8)) v_4), .val (S rB v_5)])]) (.cons rfl (.cons rfl .nil))) ?_
  refine JL.at ⟨[(2, .one (.val (PTR gb_3 0))), (10, .tup [.val (S (rL (rU UInt8)) v_4), .val (S rB v_5)])], [cvar gb_2 r_wire_Reader x_6, cvar gb_3 (rV 16 (rU UInt64)) (Vector.replicate 16 (0 : UInt64))], []⟩ ?_
  refine JL.cons rfl (op_move (ltB rfl) (.tmp rfl)) ?_
  refine JL.cons rfl (op_extract (i := 0) (ltB rfl) (.tmp rfl) rfl) ?_
  refine JL.cons rfl (op_extract (i := 1) (ltB rfl) (.tmp rfl) rfl) ?_
  refine JL.cons rfl (op_assign (ltB rfl) (.tmp rfl)) ?_
  refine JL.cons rfl (op_assign (ltB rfl) (.tmp rfl)) ?_
  refine JL.nil ?_
  refine JQ.then ?_
  refine JC.seq ?_
  refine JC.region ?_
  refine JL.cons rfl (op_move (ltB rfl) (.tmp rfl)) ?_
  refine JL.pre (Imp.sub (ρ' := [(2, .one (.val (PTR gb_3 0))), (13, .one (.val (S (rL (rU UInt8)) v_4)))]) (.cons rfl (.cons rfl .nil))) ?_
  refine JL.at ⟨[(2, .one (.val (PTR gb_3 0))), (13, .one (.val (S (rL (rU UInt8)) v_4)))], [cvar gb_2 r_wire_Reader x_6, cvar gb_3 (rV 16 (rU UInt64)) (Vector.replicate 16 (0 : UInt64))], []⟩ ?_
  replace hm := bnd_inv hm
  obtain ⟨v_7, hv_v_7, hm⟩ := hm
  refine JL.consX rfl (op_call (js := []) (ltD rfl) cl16 (sim_wire_Read k v_4 v_7 hv_v_7) .func (.cons (.tmp rfl) .nil) rfl) (fun q => ?_)
  obtain ⟨gb_8, go_9, gc_10⟩ := q
  refine JL.pre (Imp.sub (ρ' := [(2, .one (.val (PTR gb_3 0))), (14, .one (.val (PTR gb_8 0)))]) (.cons rfl (.cons rfl .nil))) ?_
  refine JL.at ⟨[(2, .one (.val (PTR gb_3 0))), (14, .one (.val (PTR gb_8 0)))], [cvar gb_8 (rP (rW (HDR go_9 0 (List.length v_7) gc_10)) (rP rB (rP rB r0))) ((), (true, (true, ()))), cown go_9 (rU UInt8) v_7 0 gc_10, cvar gb_2 r_wire_Reader x_6, cvar gb_3 (rV 16 (rU UInt64)) (Vector.replicate 16 (0 : UInt64))], []⟩ ?_
  refine JL.consX rfl (op_alloc (ltB rfl) tZ36 zr36) (fun q => ?_)
  obtain ⟨gb_11, hqq⟩ : ∃ z, z = q := ⟨_, rfl⟩
  subst hqq
  refine JL.pre (Imp.sub (ρ' := [(2, .one (.val (PTR gb_3 0))), (5, .one (.val (PTR gb_11 0))), (14, .one (.val (PTR gb_8 0)))]) (.cons rfl (.cons rfl (.cons rfl .nil)))) ?_
  refine JL.at ⟨[(2, .one (.val (PTR gb_3 0))), (5, .one (.val (PTR gb_11 0))), (14, .one (.val (PTR gb_8 0)))], [cvar gb_8 (rP (rW (HDR go_9 0 (List.length v_7) gc_10)) (rP rB (rP rB r0))) ((), (true, (true, ()))), cown go_9 (rU UInt8) v_7 0 gc_10, cvar gb_2 r_wire_Reader x_6, cvar gb_3 (rV 16 (rU UInt64)) (Vector.replicate 16 (0 : UInt64)), cvar gb_11 (rW (PTO none)) ()], []⟩ ?_
  refine JL.cons rfl (op_storeW (j := 4) tS36 (.tmp rfl) (.tmp rfl) rfl (UpdR.self (by rfl)) rfl) ?_
  refine JL.pre (Imp.sub (ρ' := [(2, .one (.val (PTR gb_3 0))), (5, .one (.val (PTR gb_11 0)))]) (.cons rfl (.cons rfl .nil))) ?_
  refine JL.at ⟨[(2, .one (.val (PTR gb_3 0))), (5, .one (.val (PTR gb_11 0)))], [cvar gb_8 (rP (rW (HDR go_9 0 (List.length v_7) gc_10)) (rP rB (rP rB r0))) ((), (true, (true, ()))), cown go_9 (rU UInt8) v_7 0 gc_10, cvar gb_2 r_wire_Reader x_6, cvar gb_3 (rV 16 (rU UInt64)) (Vector.replicate 16 (0 : UInt64)), cvar gb_11 (rW (PTR gb_8 0)) ()], []⟩ ?_
  refine JL.nil ?_
  refine JQ.then ?_
  refine JC.seq ?_
  refine JC.region ?_
  refine JL.cons rfl (op_makeFunc (ltB rfl) (.cons (.tmp rfl) .nil)) ?_
  refine JL.cons rfl (op_assign (ltB rfl) (.tmp rfl)) ?_
  refine JL.nil ?_
  refine JQ.then ?_
  obtain ⟨v_21, hx1, hq1⟩ := bnd_inv hm
  refine JC.seqJ (γ := Unit) (stj := fun q => ⟨[(2, .one (.val (PTR gb_3 0)))], [cvar gb_3 (rV 16 (rU UInt64)) v_21, cvar gb_2 r_wire_Reader x_6], []⟩) (fun q => ?_) ?_
  · obtain _ := q
    refine JC.at ⟨[(2, .one (.val (PTR gb_3 0)))], [cvar gb_3 (rV 16 (rU UInt64)) v_21, cvar gb_2 r_wire_Reader x_6], []⟩ ?_
    refine JC.seq ?_
    refine JC.region ?_
    refine JL.cons rfl (op_loadA (j := 0) (ltB rfl) tA50 (.tmp rfl) rfl (Comp.self (rV 16 (rU UInt64)) v_21) rfl) ?_
    refine JL.cons rfl (op_storeA (j := 0) tA50 (.tmp rfl) (.tmp rfl) rfl (UpdR.self (by rfl)) rfl) ?_
    refine JL.nil ?_
    refine JQ.then ?_
    refine JC.ret ?_
    replace hq1 := Option.some.inj hq1
    subst hq1
    exact JQ.done (js := [1]) (ss := [.val (A (rV 16 (rU UInt64)) v_21)]) () (.inl rfl) (.nil rfl) rfl (.cons (.cellA (j := 0) tA50 rfl rfl) .nil) rfl rfl rfl
  · refine JC.seq ?_
    refine JC.region ?_
    refine JL.cons rfl (op_move (ltB rfl) .cI) ?_
    refine JL.nil ?_
    refine JQ.then ?_
    refine JC.block ?_
    refine JC.pre (Imp.frz (j := 1) rfl (ImpK.var (j := 0) (q := (rP (rW (HL go_9 (rU UInt8) v_7 gc_10)) (rP rB (rP rB r0)))) (y := ((), (true, (true, ())))) rfl (Wk.pair Wk.own (Wk.pair Wk.refl (Wk.pair Wk.refl Wk.refl))) ImpK.refl)) ?_
    refine JC.pre (Imp.var (j := 0) (q := r_wire_Reader) (y := (wire_Reader.mk v_7 true true)) rfl (Wk.st (Wk.pair Wk.hl (Wk.pair Wk.refl (Wk.pair Wk.refl Wk.refl))))) ?_
    refine JC.pre ?_ (JC.loop (γ := Unit) (stf := fun s q => ⟨[(2, .one (.val (PTR gb_3 0))), (6, .one (.val (CLO 48 [PTR gb_11 0]))), (16, .one (.val (S (rI .i64) s.2.2)))], [cvar gb_3 (rV 16 (rU UInt64)) s.1, cvar gb_11 (rW (PTR gb_8 0)) (), cvar gb_8 r_wire_Reader s.2.1, cvar gb_2 r_wire_Reader x_6], []⟩) (q := ()) hx1 ?_)
    · exact (Imp.norm (js := [3, 3, 0, 1]) rfl (.cons rfl (.cons rfl (.cons rfl .nil))))
    · intro s q x hx hr
      obtain ⟨v_12, x_13, x_14⟩ := s
      obtain _ := q
      change wire_Reader_Vector'2.b1 k v_12 x_13 x_14 = some x at hx
      unfold wire_Reader_Vector'2.b1 at hx
      refine JC.at ⟨[(2, .one (.val (PTR gb_3 0))), (6, .one (.val (CLO 48 [PTR gb_11 0]))), (16, .one (.val (S (rI .i64) x_14)))], [cvar gb_3 (rV 16 (rU UInt64)) v_12, cvar gb_11 (rW (PTR gb_8 0)) (), cvar gb_8 r_wire_Reader x_13, cvar gb_2 r_wire_Reader x_6], []⟩ ?_
      refine JC.seq ?_
      refine JC.region ?_
      replace hx := lt1_inv hx
      obtain ⟨v_15, hv_v_15, hx⟩ := hx
      refine JL.cons rfl (op_cmpI (ltB rfl) (.tmp rfl) .cI (congrArg some hv_v_15)) ?_
      refine JL.nil ?_
      refine JQ.then ?_
      refine JC.seq ?_
      rcases iteB_inv hx with ⟨hc3, hx⟩ | ⟨hc3, hx⟩
      · refine JC.condT (.tmp rfl) hc3 ?_
        refine JC.skip ?_
        refine JQ.then ?_
        refine JC.seq ?_
        refine JC.block ?_
        refine JC.seq ?_
        refine JC.region ?_
        refine JL.cons rfl (op_move (ltB rfl) (.tmp rfl)) ?_
        refine JL.cons rfl (op_assign (ltB rfl) (.tmp rfl)) ?_
        refine JL.nil ?_
        refine JQ.then ?_
        refine JC.region ?_
        refine JL.cons rfl (op_move (ltB rfl) (.tmp rfl)) ?_
        refine JL.cons rfl (op_move (ltB rfl) (.tmp rfl)) ?_
        replace hx := bnd_inv hx
        obtain ⟨⟨v_16, x_17⟩, hv_v_16, hx⟩ := hx
        refine JL.consX rfl (op_call (js := [1, 1]) (ltD rfl) cl48 (sim_wire_Reader_Vector_1'2 k x_13 gb_11 gb_8 (v_16, x_17) hv_v_16) (.tmp rfl) .nil rfl) (fun _ => ?_)
        refine JL.pre (Imp.sub (ρ' := [(2, .one (.val (PTR gb_3 0))), (6, .one (.val (CLO 48 [PTR gb_11 0]))), (16, .one (.val (S (rI .i64) x_14))), (19, .one (.val (S (rI .i64) x_14))), (21, .one (.val (S (rU UInt64) v_16)))]) (.cons rfl (.cons rfl (.cons rfl (.cons rfl (.cons rfl .nil)))))) ?_
        refine JL.at ⟨[(2, .one (.val (PTR gb_3 0))), (6, .one (.val (CLO 48 [PTR gb_11 0]))), (16, .one (.val (S (rI .i64) x_14))), (19, .one (.val (S (rI .i64) x_14))), (21, .one (.val (S (rU UInt64) v_16)))], [cvar gb_11 (rW (PTR gb_8 0)) (), cvar gb_8 r_wire_Reader x_17, cvar gb_3 (rV 16 (rU UInt64)) v_12, cvar gb_2 r_wire_Reader x_6], []⟩ ?_
        replace hx := bnd_inv hx
        obtain ⟨i_18, hv_i_18, hx⟩ := hx
        refine JL.cons rfl (op_indexAddrIF (ltB rfl) tr50 (.tmp rfl) (.tmp rfl) hv_i_18) ?_
        replace hx := lt1_inv hx
        obtain ⟨v_19, hv_v_19, hx⟩ := hx
        refine JL.cons rfl (op_storeS (j := 2) tS22 (.tmp rfl) (.tmp rfl) rfl rfl (Upd.at (Comp.self (rV 16 (rU UInt64)) v_12) i_18.2 rfl (Upd.self (rV 16 (rU UInt64)) v_12 _)).R hv_v_19) ?_
        refine JL.pre (Imp.sub (ρ' := [(2, .one (.val (PTR gb_3 0))), (6, .one (.val (CLO 48 [PTR gb_11 0]))), (16, .one (.val (S (rI .i64) x_14)))]) (.cons rfl (.cons rfl (.cons rfl .nil)))) ?_
        refine JL.at ⟨[(2, .one (.val (PTR gb_3 0))), (6, .one (.val (CLO 48 [PTR gb_11 0]))), (16, .one (.val (S (rI .i64) x_14)))], [cvar gb_11 (rW (PTR gb_8 0)) (), cvar gb_8 r_wire_Reader x_17, cvar gb_3 (rV 16 (rU UInt64)) v_19, cvar gb_2 r_wire_Reader x_6], []⟩ ?_
        refine JL.nil ?_
        refine JQ.outNB ?_
        refine JQ.then ?_
        refine JC.region ?_
        replace hx := lt1_inv hx
        obtain ⟨v_20, hv_v_20, hx⟩ := hx
        refine JL.cons rfl (op_arI (ltB rfl) (.tmp rfl) .cI (congrArg some hv_v_20)) ?_
        refine JL.cons rfl (op_move (ltB rfl) (.tmp rfl)) ?_
        refine JL.nil ?_
        replace hx := Option.some.inj hx
        subst hx
        exact JQ.next () rfl (Imp.norm (js := [2, 0, 0, 0]) rfl (.cons rfl (.cons rfl (.cons rfl .nil))))
      · refine JC.condF (.tmp rfl) hc3 ?_
        refine JC.exit ?_
        refine JQ.outX ?_
        replace hx := Option.some.inj hx
        subst hx
        have ht := hr _ rfl
        have hq2 := congrArg some ht
        clear hr ht
        refine JQ.outX ?_
        refine JQ.here ?_
        replace hq2 := Option.some.inj hq2
        subst hq2
        exact JQ.join () (Imp.norm (js := [0, 2]) rfl (.cons rfl .nil))

end Go.Proofs.Ytkbkdfcakpbojaa
