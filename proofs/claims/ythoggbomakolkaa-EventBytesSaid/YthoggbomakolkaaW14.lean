/- Walks. -/
import Derived.Test.YthoggbomakolkaaT
import Derived.Test.YthoggbomakolkaaW10
import Derived.Test.YthoggbomakolkaaW11
import Derived.Test.YthoggbomakolkaaW12
import Derived.Test.YthoggbomakolkaaW13
import Derived.Test.YthoggbomakolkaaW9
namespace Go.Proofs.Ythoggbomakolkaa
open Go Fw
set_option linter.unusedVariables false
set_option maxRecDepth 100000
set_option maxHeartbeats 4000000

theorem sim_event_Of'2 (k : Nat) (b_1 : (List UInt8)) (r : api_Dot × (List UInt8) × (List UInt8) × Nat × Nat × (Vector UInt64 16) × (List api_Dest) × Int) (hm : event_Of'2 k b_1 = some r) : Sim Try.prog 21 [S (rL (rU UInt8)) b_1] [] (γ := Option Nat × Nat × Option Nat × Nat) (fun q => [cown q.1 (rU UInt8) r.2.2.1 0 q.2.1, cown q.2.2.1 r_api_Dest r.2.2.2.2.2.2.1 (List.length r.2.2.2.2.2.2.1) q.2.2.2]) (fun q => .tup [.val (A (rP r_api_Dot (rP rS (rP (rW (HDX q.1 (r.2.2.2.1 * 1) r.2.2.2.2.1)) (rP (rV 16 (rU UInt64)) (rP (rW (HDR q.2.2.1 0 (List.length r.2.2.2.2.2.2.1) q.2.2.2)) r0))))) (r.1, (r.2.1, ((), (r.2.2.2.2.2.1, ((), ())))))), .val (S (rI .i64) r.2.2.2.2.2.2.2)]) := by
 unfold event_Of'2 at hm
 refine Sim.of Try.func21 rfl rfl (Nat.le_of_ble_eq_true rfl) (fun e0 w0 => ?_)
 refine JC.at ⟨[(0, ov (S (rL (rU UInt8)) b_1))], [], []⟩ ?_
 refine JC.seq ?_
 refine JC.region ?_
 refine jx (op_alloc lb tZ38 zr38) (fun q => ?_)
 obtain ⟨gb_2, hqq⟩ : ∃ z, z = q := ⟨_, rfl⟩
 subst hqq
 refine jc (op_assign lb .cI) ?_
 refine JL.nil ?_
 refine JQ.then ?_
 refine JC.seq ?_
 refine JC.region ?_
 refine jc (op_move lb (.tmp rfl)) ?_
 replace hm := bnd_inv hm
 obtain ⟨⟨v_3, x_4⟩, hv_v_3, hm⟩ := hm
 refine jx (op_call (js := []) ld cl38 (sim_wire_Read k b_1 (v_3, x_4) hv_v_3) .func (.cons (.tmp rfl) .nil) rfl) (fun q => ?_)
 obtain ⟨gb_5, go_6, gc_7⟩ := q
 refine jc (op_assign lb (.tmp rfl)) ?_
 refine JL.nil ?_
 refine JQ.then ?_
 refine JC.seq ?_
 replace hm := bnd_inv hm
 obtain ⟨⟨v_8, x_9, x_10, x_11, x_12⟩, hv_v_8, hm⟩ := hm
 replace hm := bnd_inv hm
 obtain ⟨⟨v_13, x_14, x_15, x_16, x_17, x_18⟩, hv_v_13, hm⟩ := hm
 replace hm := bnd_inv hm
 obtain ⟨v_19, hv_v_19, hm⟩ := hm
 replace hm := bnd_inv hm
 obtain ⟨⟨v_20, x_21, x_22, x_23, x_24, x_25⟩, hv_v_20, hm⟩ := hm
 replace hm := bnd_inv hm
 obtain ⟨⟨v_26, x_27, x_28, x_29, x_30⟩, hv_v_26, hm⟩ := hm
 refine JC.anyE (kl := []) (kk := 0) (base := [(0, ov (S (rL (rU UInt8)) b_1)), (2, ov (PTR gb_2 0)), (4, ov (PTR gb_5 0))])
     (fs := fun γ => [⟨some 8, ov (PTR gb_5 0)⟩, ⟨some 9, ov (A r_api_Dot v_8)⟩, ⟨some 10, ov (PTR gb_5 0)⟩, ⟨some 11, ov (HDX go_6 (v_13 * 1) x_14)⟩, ⟨some 12, ov (S rS v_19)⟩, ⟨some 13, ov (PTR gb_5 0)⟩, ⟨some 14, ov (HDX go_6 (v_20 * 1) x_21)⟩, ⟨some 15, ov (PTR gb_5 0)⟩, ⟨some 16, ov (A (rV 16 (rU UInt64)) v_26)⟩, ⟨some 17, ov (A (rP r_api_Dot (rP rS (rP (rW (HDX go_6 (v_20 * 1) x_21)) (rP (rV 16 (rU UInt64)) (rP (rW (HDR none 0 0 0)) r0))))) (v_8, (v_19, ((), (v_26, ((), ()))))))⟩, ⟨some 5, ov (PTR (γ 10 0) 0)⟩, ⟨none, .one .any⟩])
     (rs := fun γ => [⟨cvar gb_5 (rP (rW (HDX go_6 ((0) * 1) x_4)) (rP rB (rP rB r0))) ((), (true, (true, ()))), none, (some 1), []⟩, ⟨cown go_6 (rU UInt8) v_3 0 gc_7, none, none, [1, 3, 4, 6, 8]⟩, ⟨cvar gb_2 (rP r_api_Dot (rP rS (rP (rW (HDR none 0 0 0)) (rP (rV 16 (rU UInt64)) (rP (rW (HDR none 0 0 0)) r0))))) ((api_Dot.mk (0 : Int) (0 : UInt64)), (([] : (List UInt8)), ((), ((Vector.replicate 16 (0 : UInt64)), ((), ()))))), none, none, []⟩, ⟨cvar gb_5 (rP (rW (HDX go_6 (x_9 * 1) x_10)) (rP rB (rP rB r0))) ((), (x_11, (x_12, ()))), (some 1), (some 3), []⟩, ⟨cvar gb_5 (rP (rW (HDX go_6 (x_15 * 1) x_16)) (rP rB (rP rB r0))) ((), (x_17, (x_18, ()))), (some 3), (some 6), []⟩, ⟨cvar gb_5 (rP (rW (HDX go_6 (x_22 * 1) x_23)) (rP rB (rP rB r0))) ((), (x_24, (x_25, ()))), (some 6), (some 8), []⟩, ⟨cvar gb_5 (rP (rW (HDX go_6 (x_27 * 1) x_28)) (rP rB (rP rB r0))) ((), (x_29, (x_30, ()))), (some 8), none, []⟩, ⟨cvar (γ 10 0) (rP r_api_Dot (rP rS (rP (rW (HDR none 0 0 0)) (rP (rV 16 (rU UInt64)) (rP (rW (HDR none 0 0 0)) r0))))) ((api_Dot.mk (0 : Int) (0 : UInt64)), (([] : (List UInt8)), ((), ((Vector.replicate 16 (0 : UInt64)), ((), ()))))), (some 10), (some 11), []⟩, ⟨cvar (γ 10 0) (rP r_api_Dot (rP rS (rP (rW (HDX go_6 (v_20 * 1) x_21)) (rP (rV 16 (rU UInt64)) (rP (rW (HDR none 0 0 0)) r0))))) (v_8, (v_19, ((), (v_26, ((), ()))))), (some 11), none, []⟩])
     (ds := [8, 9, 10, 11, 12, 13, 14, 15, 16, 17, 5]) (bs := [0, 2, 4]) (afts := [[], [], [], [], [], [], [], [], [], [], [10, 11], []]) (js := [0, 0, 0]) mixed (.cons rfl (.cons rfl (.cons rfl .nil))) (fun _ => rfl)
     (by
      refine dS 1 (fun γ ρ B hb hd => op_move lb (.tmp (hb 4 _ rfl))) ?_
      refine DSteps.cons (j := 2) rfl (fun _ => rfl) (.run (fun γ ρ B hb hd => ⟨.none, OpStep.at ⟨ρ, (cvar gb_5 (rP (rW (HDX go_6 ((0) * 1) x_4)) (rP rB (rP rB r0))) ((), (true, (true, ())))) :: (cown go_6 (rU UInt8) v_3 0 gc_7) :: B, _⟩ (setO ⟨ρ, (cvar gb_5 (rP (rW (HDX go_6 (x_9 * 1) x_10)) (rP rB (rP rB r0))) ((), (x_11, (x_12, ())))) :: (cown go_6 (rU UInt8) v_3 0 gc_7) :: B, _⟩ _ _) ((op_call (js := [0, 0]) ld cl39 (sim_wire_Reader_Dot k (0) x_4 true true v_3 gb_5 go_6 gc_7 (v_8, x_9, x_10, x_11, x_12) hv_v_8) .func (.cons (.tmp (hl hd 0 8 rfl)) .nil) rfl).post (fun _ => Imp.pick (js := [0, 0]) rfl rfl))⟩)) ?_
      refine dS 3 (fun γ ρ B hb hd => op_move lb (.tmp (hb 4 _ rfl))) ?_
      refine DSteps.cons (j := 4) rfl (fun _ => rfl) (.run (fun γ ρ B hb hd => ⟨.none, OpStep.at ⟨ρ, (cvar gb_5 (rP (rW (HDX go_6 (x_9 * 1) x_10)) (rP rB (rP rB r0))) ((), (x_11, (x_12, ())))) :: (cown go_6 (rU UInt8) v_3 0 gc_7) :: B, _⟩ (setO ⟨ρ, (cvar gb_5 (rP (rW (HDX go_6 (x_15 * 1) x_16)) (rP rB (rP rB r0))) ((), (x_17, (x_18, ())))) :: (cown go_6 (rU UInt8) v_3 0 gc_7) :: B, _⟩ _ _) ((op_call (js := [0, 0]) ld cl40 (sim_wire_Reader_Blob k x_9 x_10 x_11 x_12 v_3 gb_5 go_6 gc_7 (v_13, x_14, x_15, x_16, x_17, x_18) hv_v_13) .func (.cons (.tmp (hl hd 2 10 rfl)) .nil) rfl).post (fun _ => Imp.pick (js := [1, 0]) rfl rfl))⟩)) ?_
      refine DSteps.cons (j := 5) rfl (fun _ => rfl) (.run (fun γ ρ B hb hd => ⟨.none, OpStep.at ⟨ρ, (cown go_6 (rU UInt8) v_3 0 gc_7) :: B, _⟩ (setO ⟨ρ, (cown go_6 (rU UInt8) v_3 0 gc_7) :: B, _⟩ _ _) (op_convXS (j := 0) (o := v_13) lb tu35 tu5 tu9 rfl (.tmp (hl hd 3 11 rfl)) hv_v_19)⟩)) ?_
      refine dS 6 (fun γ ρ B hb hd => op_move lb (.tmp (hb 4 _ rfl))) ?_
      refine DSteps.cons (j := 7) rfl (fun _ => rfl) (.run (fun γ ρ B hb hd => ⟨.none, OpStep.at ⟨ρ, (cvar gb_5 (rP (rW (HDX go_6 (x_15 * 1) x_16)) (rP rB (rP rB r0))) ((), (x_17, (x_18, ())))) :: (cown go_6 (rU UInt8) v_3 0 gc_7) :: B, _⟩ (setO ⟨ρ, (cvar gb_5 (rP (rW (HDX go_6 (x_22 * 1) x_23)) (rP rB (rP rB r0))) ((), (x_24, (x_25, ())))) :: (cown go_6 (rU UInt8) v_3 0 gc_7) :: B, _⟩ _ _) ((op_call (js := [0, 0]) ld cl40 (sim_wire_Reader_Blob k x_15 x_16 x_17 x_18 v_3 gb_5 go_6 gc_7 (v_20, x_21, x_22, x_23, x_24, x_25) hv_v_20) .func (.cons (.tmp (hl hd 5 13 rfl)) .nil) rfl).post (fun _ => Imp.pick (js := [1, 0]) rfl rfl))⟩)) ?_
      refine dS 8 (fun γ ρ B hb hd => op_move lb (.tmp (hb 4 _ rfl))) ?_
      refine DSteps.cons (j := 9) rfl (fun _ => rfl) (.run (fun γ ρ B hb hd => ⟨.none, OpStep.at ⟨ρ, (cvar gb_5 (rP (rW (HDX go_6 (x_22 * 1) x_23)) (rP rB (rP rB r0))) ((), (x_24, (x_25, ())))) :: (cown go_6 (rU UInt8) v_3 0 gc_7) :: B, _⟩ (setO ⟨ρ, (cvar gb_5 (rP (rW (HDX go_6 (x_27 * 1) x_28)) (rP rB (rP rB r0))) ((), (x_29, (x_30, ())))) :: (cown go_6 (rU UInt8) v_3 0 gc_7) :: B, _⟩ _ _) ((op_call (js := [0, 0]) ld cl41 (sim_wire_Reader_Vector k x_22 x_23 x_24 x_25 v_3 gb_5 go_6 gc_7 (v_26, x_27, x_28, x_29, x_30) hv_v_26) .func (.cons (.tmp (hl hd 7 15 rfl)) .nil) rfl).post (fun _ => Imp.pick (js := [0, 0]) rfl rfl))⟩)) ?_
      refine dS 10 (fun γ ρ B hb hd => op_build lb tZ38 zr38 tp38 (.A (off := 0) rfl (.tmp (hl hd 1 9 rfl)) ((UpdR.fst (UpdR.self (by rfl))).at (by rfl)) (.S (off := 2) rfl (.tmp (hl hd 4 12 rfl)) rfl ((UpdR.snd (UpdR.fst (UpdR.self (by rfl)))).at (by rfl)) (.S (off := 3) (s := rW (HDX go_6 (v_20 * 1) x_21)) (u := ()) rfl (HasO.wk (q := S (rW (HDX go_6 (v_20 * 1) x_21)) ()) (.tmp (hl hd 6 14 rfl)) wkV) rfl ((UpdR.snd (UpdR.snd (UpdR.fst (UpdR.self (by rfl))))).at (by rfl)) (.A (off := 4) rfl (.tmp (hl hd 8 16 rfl)) ((UpdR.snd (UpdR.snd (UpdR.snd (UpdR.fst (UpdR.self (by rfl)))))).at (by rfl)) .nil)))) rfl) ?_
      refine DSteps.cons (j := 11) rfl (fun _ => rfl) (.runX (fun _ _ => rfl) (fun γ ρ B hb hd => ⟨.none, OpX.ghost (γ := Nat) (st' := fun q => setO ⟨ρ, (cvar q (rP r_api_Dot (rP rS (rP (rW (HDR none 0 0 0)) (rP (rV 16 (rU UInt64)) (rP (rW (HDR none 0 0 0)) r0))))) ((api_Dot.mk (0 : Int) (0 : UInt64)), (([] : (List UInt8)), ((), ((Vector.replicate 16 (0 : UInt64)), ((), ())))))) :: B, _⟩ (some 5) (ov (PTR q 0))) (fun q c => q) (OpX.front (op_alloc lb tZ38 zr38)) (fun q => Imp.refl)⟩) (fun _ _ => rfl) (fun _ _ => rfl)) ?_
      refine DSteps.cons (j := 12) rfl (fun _ => rfl) (.run (fun γ ρ B hb hd => ⟨.none, OpStep.at ⟨ρ, (cvar (γ 10 0) (rP r_api_Dot (rP rS (rP (rW (HDR none 0 0 0)) (rP (rV 16 (rU UInt64)) (rP (rW (HDR none 0 0 0)) r0))))) ((api_Dot.mk (0 : Int) (0 : UInt64)), (([] : (List UInt8)), ((), ((Vector.replicate 16 (0 : UInt64)), ((), ())))))) :: B, _⟩ (setO ⟨ρ, (cvar (γ 10 0) (rP r_api_Dot (rP rS (rP (rW (HDX go_6 (v_20 * 1) x_21)) (rP (rV 16 (rU UInt64)) (rP (rW (HDR none 0 0 0)) r0))))) (v_8, (v_19, ((), (v_26, ((), ())))))) :: B, _⟩ _ _) (op_storeA (j := 0) tA38 (.tmp (hl hd 10 5 rfl)) (.tmp (hl hd 9 17 rfl)) rfl (UpdR.self (by rfl)) rfl)⟩)) ?_
      exact DSteps.nil)
     (by decide +kernel) (fun _ => rfl) rfl (fun _ => rfl) (fun _ => rfl) rfl (by decide) (by decide) (by decide +kernel) (fun _ d h => by cases h)
     (ρ' := fun γ => [(0, ov (S (rL (rU UInt8)) b_1)), (2, ov (PTR gb_2 0)), (4, ov (PTR gb_5 0)), (5, ov (PTR (γ 10 0) 0))])
     (X' := fun γ => [cown go_6 (rU UInt8) v_3 0 gc_7, cvar gb_2 (rP r_api_Dot (rP rS (rP (rW (HDR none 0 0 0)) (rP (rV 16 (rU UInt64)) (rP (rW (HDR none 0 0 0)) r0))))) ((api_Dot.mk (0 : Int) (0 : UInt64)), (([] : (List UInt8)), ((), ((Vector.replicate 16 (0 : UInt64)), ((), ()))))), cvar gb_5 (rP (rW (HDX go_6 (x_27 * 1) x_28)) (rP rB (rP rB r0))) ((), (x_29, (x_30, ()))), cvar (γ 10 0) (rP r_api_Dot (rP rS (rP (rW (HDX go_6 (v_20 * 1) x_21)) (rP (rV 16 (rU UInt64)) (rP (rW (HDR none 0 0 0)) r0))))) (v_8, (v_19, ((), (v_26, ((), ())))))])
     (fun γ ρ hb hd => (.cons (hb 0 _ rfl (by decide)) (.cons (hb 2 _ rfl (by decide)) (.cons (hb 4 _ rfl (by decide)) (.cons (hdq hd 10 5 rfl) .nil))))) (fun _ => rfl) (fun γ => ?_)
 generalize (γ 10 0) = gb_31
 clear γ
 refine JQ.at ⟨[(0, ov (S (rL (rU UInt8)) b_1)), (2, ov (PTR gb_2 0)), (4, ov (PTR gb_5 0)), (5, ov (PTR gb_31 0))], [cown go_6 (rU UInt8) v_3 0 gc_7, cvar gb_2 (rP r_api_Dot (rP rS (rP (rW (HDR none 0 0 0)) (rP (rV 16 (rU UInt64)) (rP (rW (HDR none 0 0 0)) r0))))) ((api_Dot.mk (0 : Int) (0 : UInt64)), (([] : (List UInt8)), ((), ((Vector.replicate 16 (0 : UInt64)), ((), ()))))), cvar gb_5 (rP (rW (HDX go_6 (x_27 * 1) x_28)) (rP rB (rP rB r0))) ((), (x_29, (x_30, ()))), cvar gb_31 (rP r_api_Dot (rP rS (rP (rW (HDX go_6 (v_20 * 1) x_21)) (rP (rV 16 (rU UInt64)) (rP (rW (HDR none 0 0 0)) r0))))) (v_8, (v_19, ((), (v_26, ((), ())))))], []⟩ ?_
 refine JQ.then ?_
 replace hm := bnd_inv hm
 obtain ⟨⟨x_65, x_66, is_67, made_68, To_69⟩, hx1, hq1⟩ := hm
 refine JC.seqJ (γ := Option Nat × Nat) (stj := fun q => ⟨[(0, ov (S (rL (rU UInt8)) b_1)), (2, ov (PTR gb_2 0)), (4, ov (PTR gb_5 0)), (5, ov (PTR gb_31 0))], [cvar gb_2 (rP r_api_Dot (rP rS (rP (rW (HDR none 0 0 0)) (rP (rV 16 (rU UInt64)) (rP (rW (HDR none 0 0 0)) r0))))) ((api_Dot.mk (0 : Int) (0 : UInt64)), (([] : (List UInt8)), ((), ((Vector.replicate 16 (0 : UInt64)), ((), ()))))), cvar gb_5 (rP (rW (HDX go_6 (x_65 * 1) x_66)) (rP rB (rP rB r0))) ((), (is_67, (made_68, ()))), cown go_6 (rU UInt8) v_3 0 gc_7, cvar gb_31 (rP r_api_Dot (rP rS (rP (rW (HDX go_6 (v_20 * 1) x_21)) (rP (rV 16 (rU UInt64)) (rP (rW (HDR q.1 0 (List.length To_69) q.2)) r0))))) (v_8, (v_19, ((), (v_26, ((), ()))))), cown q.1 r_api_Dest To_69 0 q.2], []⟩) (fun q => ?_) ?_
 · obtain ⟨go_70, gc_71⟩ := q
   refine JC.at ⟨[(0, ov (S (rL (rU UInt8)) b_1)), (2, ov (PTR gb_2 0)), (4, ov (PTR gb_5 0)), (5, ov (PTR gb_31 0))], [cvar gb_2 (rP r_api_Dot (rP rS (rP (rW (HDR none 0 0 0)) (rP (rV 16 (rU UInt64)) (rP (rW (HDR none 0 0 0)) r0))))) ((api_Dot.mk (0 : Int) (0 : UInt64)), (([] : (List UInt8)), ((), ((Vector.replicate 16 (0 : UInt64)), ((), ()))))), cvar gb_5 (rP (rW (HDX go_6 (x_65 * 1) x_66)) (rP rB (rP rB r0))) ((), (is_67, (made_68, ()))), cown go_6 (rU UInt8) v_3 0 gc_7, cvar gb_31 (rP r_api_Dot (rP rS (rP (rW (HDX go_6 (v_20 * 1) x_21)) (rP (rV 16 (rU UInt64)) (rP (rW (HDR go_70 0 (List.length To_69) gc_71)) r0))))) (v_8, (v_19, ((), (v_26, ((), ()))))), cown go_70 r_api_Dest To_69 0 gc_71], []⟩ ?_
   refine JC.seq ?_
   replace hq1 := bnd_inv hq1
   obtain ⟨x_81, hx4, hq4⟩ := hq1
   refine JC.seqJ (γ := Unit) (stj := fun q => ⟨[(2, ov (PTR gb_2 0)), (5, ov (PTR gb_31 0)), (52, ov (S rB x_81))], [cvar gb_2 (rP r_api_Dot (rP rS (rP (rW (HDR none 0 0 0)) (rP (rV 16 (rU UInt64)) (rP (rW (HDR none 0 0 0)) r0))))) ((api_Dot.mk (0 : Int) (0 : UInt64)), (([] : (List UInt8)), ((), ((Vector.replicate 16 (0 : UInt64)), ((), ()))))), cvar gb_31 (rP r_api_Dot (rP rS (rP (rW (HDX go_6 (v_20 * 1) x_21)) (rP (rV 16 (rU UInt64)) (rP (rW (HDR go_70 0 (List.length To_69) gc_71)) r0))))) (v_8, (v_19, ((), (v_26, ((), ()))))), cown go_6 (rU UInt8) v_3 0 gc_7, cown go_70 r_api_Dest To_69 (List.length To_69) gc_71], []⟩) (fun q => ?_) ?_
   · obtain _ := q
     refine JC.at ⟨[(2, ov (PTR gb_2 0)), (5, ov (PTR gb_31 0)), (52, ov (S rB x_81))], [cvar gb_2 (rP r_api_Dot (rP rS (rP (rW (HDR none 0 0 0)) (rP (rV 16 (rU UInt64)) (rP (rW (HDR none 0 0 0)) r0))))) ((api_Dot.mk (0 : Int) (0 : UInt64)), (([] : (List UInt8)), ((), ((Vector.replicate 16 (0 : UInt64)), ((), ()))))), cvar gb_31 (rP r_api_Dot (rP rS (rP (rW (HDX go_6 (v_20 * 1) x_21)) (rP (rV 16 (rU UInt64)) (rP (rW (HDR go_70 0 (List.length To_69) gc_71)) r0))))) (v_8, (v_19, ((), (v_26, ((), ()))))), cown go_6 (rU UInt8) v_3 0 gc_7, cown go_70 r_api_Dest To_69 (List.length To_69) gc_71], []⟩ ?_
     replace hq4 := iteB_inv hq4
     rcases hq4 with ⟨hc9, hq4⟩ | ⟨hc9, hq4⟩
     · refine JC.condT (.tmp rfl) hc9 ?_
       refine JC.seq ?_
       refine JC.region ?_
       refine jc (op_build lb tZ38 zr38 tp38 .nil rfl) ?_
       refine jc (op_storeA (j := 0) tA38 (.tmp rfl) (.tmp rfl) rfl (UpdR.self (by rfl)) rfl) ?_
       refine jc (op_assign lb .cI) ?_
       refine JL.nil ?_
       refine JQ.then ?_
       refine JC.ret ?_
       refine JQ.outR ?_
       replace hq4 := Option.some.inj hq4
       subst hq4
       refine JQ.pre (Imp.nilown r_api_Dest) ?_
       refine JQ.pre (Imp.frz (j := 4) rfl ImpK.refl) ?_
       refine JQ.pre (Imp.var (j := 0) (q := (rP r_api_Dot (rP rS (rP (rW (HDX go_6 ((0) * 1) (0))) (rP (rV 16 (rU UInt64)) (rP (rW (HDR none 0 (List.length ([] : (List api_Dest))) (0))) r0)))))) (y := ((api_Dot.mk (0 : Int) (0 : UInt64)), (([] : (List UInt8)), ((), ((Vector.replicate 16 (0 : UInt64)), ((), ())))))) rfl (Wk.pair Wk.refl (Wk.pair Wk.refl (Wk.pair Wk.nx (Wk.pair Wk.refl (Wk.pair Wk.refl Wk.refl)))))) ?_
       exact JQ.done (js := [2, 3]) (ss := [.val (A (rP r_api_Dot (rP rS (rP (rW (HDX go_6 ((0) * 1) (0))) (rP (rV 16 (rU UInt64)) (rP (rW (HDR none 0 (List.length ([] : (List api_Dest))) (0))) r0))))) ((api_Dot.mk (0 : Int) (0 : UInt64)), (([] : (List UInt8)), ((), ((Vector.replicate 16 (0 : UInt64)), ((), ())))))), .val (S (rI .i64) (4 : Int))]) (go_6, gc_7, none, 0) (.inl rfl) (.nil rfl) rfl (.cons (.cellA (j := 0) tA38 rfl rfl) (.cons (.tmp rfl) .nil)) rfl rfl rfl
     · refine JC.condF (.tmp rfl) hc9 ?_
       refine JC.skip ?_
       refine JQ.then ?_
       refine JC.seq ?_
       refine JC.region ?_
       refine jc (op_loadA (j := 1) lb tA38 (.tmp rfl) rfl (Comp.self (rP r_api_Dot (rP rS (rP (rW (HDX go_6 (v_20 * 1) x_21)) (rP (rV 16 (rU UInt64)) (rP (rW (HDR go_70 0 (List.length To_69) gc_71)) r0))))) (v_8, (v_19, ((), (v_26, ((), ())))))) rfl) ?_
       refine jc (op_storeA (j := 0) tA38 (.tmp rfl) (.tmp rfl) rfl (UpdR.self (by rfl)) rfl) ?_
       refine jc (op_assign lb .cI) ?_
       refine JL.nil ?_
       refine JQ.then ?_
       refine JC.ret ?_
       replace hq4 := Option.some.inj hq4
       subst hq4
       exact JQ.done (js := [2, 2]) (ss := [.val (A (rP r_api_Dot (rP rS (rP (rW (HDX go_6 (v_20 * 1) x_21)) (rP (rV 16 (rU UInt64)) (rP (rW (HDR go_70 0 (List.length To_69) gc_71)) r0))))) (v_8, (v_19, ((), (v_26, ((), ())))))), .val (S (rI .i64) (0 : Int))]) (go_6, gc_7, go_70, gc_71) (.inl rfl) (.nil rfl) rfl (.cons (.cellA (j := 0) tA38 rfl rfl) (.cons (.tmp rfl) .nil)) rfl rfl rfl
   · refine JC.region ?_
     refine jc (op_move lb (.tmp rfl)) ?_
     replace hx4 := bnd_inv hx4
     obtain ⟨v_72, hv_v_72, hx4⟩ := hx4
     refine jx (op_call (js := [1, 1]) ld cl44 (sim_wire_Reader_End k x_65 x_66 is_67 made_68 v_3 gb_5 go_6 gc_7 v_72 hv_v_72) .func (.cons (.tmp rfl) .nil) rfl) (fun _ => ?_)
     replace hx4 := lt1_inv hx4
     obtain ⟨v_73, hv_v_73, hx4⟩ := hx4
     refine jc (op_cmpI lb (.tmp rfl) .cI (congrArg some hv_v_73)) ?_
     refine jc (op_move lb (.tmp rfl)) ?_
     replace hx4 := iteB_inv hx4
     rcases hx4 with ⟨hc6, hx4⟩ | ⟨hc6, hx4⟩
     · refine JL.skip (.no rfl (ltB rfl) rfl hc6) (fun d h => by cases h; exact ltB rfl) ?_
       refine JL.skip (.no rfl (ltB rfl) rfl hc6) (fun d h => by cases h; exact ltB rfl) ?_
       refine JL.skip (.no rfl (ltB rfl) rfl hc6) (fun d h => by cases h; exact ltB rfl) ?_
       refine jc (op_pickT lb (.tmp rfl) hc6 .cB) ?_
       refine jc (op_move lb (.tmp rfl)) ?_
       refine JL.skip (.no rfl (ltB rfl) rfl rfl) (fun d h => by cases h; exact ltB rfl) ?_
       refine JL.skip (.no rfl (ltB rfl) rfl rfl) (fun d h => by cases h; exact ltB rfl) ?_
       refine JL.skip (.no rfl (ltB rfl) rfl rfl) (fun d h => by cases h; exact ltB rfl) ?_
       refine JL.skip (.no rfl (ltB rfl) rfl rfl) (fun d h => by cases h; exact ltB rfl) ?_
       refine JL.skip (.no rfl (ltB rfl) rfl rfl) (fun d h => by cases h; exact ltB rfl) ?_
       refine jc (op_pickT lb (.tmp rfl) rfl .cB) ?_
       refine JL.nil ?_
       replace hx4 := Option.some.inj hx4
       first | subst hx4 | clear hx4
       refine JQ.pre (Imp.frz (j := 4) rfl ImpK.refl) ?_
       exact JQ.join () (Imp.norm (js := [2, 2, 1, 1]) rfl (.cons rfl (.cons rfl (.cons rfl .nil))))
     · refine JL.run (.yes rfl (ltB rfl) rfl hc6) (op_loadA (j := 3) lb tA38 (.tmp rfl) rfl (Comp.self (rP r_api_Dot (rP rS (rP (rW (HDX go_6 (v_20 * 1) x_21)) (rP (rV 16 (rU UInt64)) (rP (rW (HDR go_70 0 (List.length To_69) gc_71)) r0))))) (v_8, (v_19, ((), (v_26, ((), ())))))) rfl) ?_
       replace hx4 := bnd_inv hx4
       obtain ⟨v_74, hv_v_74, hx4⟩ := hx4
       refine JL.pre (Imp.frz (j := 4) rfl (ImpK.slotA (s := 42) (q := (rP r_api_Dot (rP rS (rP (rW (HDX go_6 (v_20 * 1) x_21)) (rP (rV 16 (rU UInt64)) (rP (rW (HL go_70 r_api_Dest To_69 gc_71)) r0)))))) (y := (v_8, (v_19, ((), (v_26, ((), ())))))) rfl (Wk.pair Wk.refl (Wk.pair Wk.refl (Wk.pair Wk.refl (Wk.pair Wk.refl (Wk.pair Wk.own Wk.refl))))) (ImpK.var (j := 3) (q := (rP r_api_Dot (rP rS (rP (rW (HDX go_6 (v_20 * 1) x_21)) (rP (rV 16 (rU UInt64)) (rP (rW (HL go_70 r_api_Dest To_69 gc_71)) r0)))))) (y := (v_8, (v_19, ((), (v_26, ((), ())))))) rfl (Wk.pair Wk.refl (Wk.pair Wk.refl (Wk.pair Wk.refl (Wk.pair Wk.refl (Wk.pair Wk.own Wk.refl))))) ImpK.refl))) ?_
       refine JL.runX (.yes rfl (ltB rfl) rfl hc6) (op_call (js := [1]) ld cl17 (sim_event_May'2 k v_8 v_19 v_20 x_21 v_26 To_69 v_3 go_6 gc_7 v_74 hv_v_74) .func (.cons (HasO.wk (q := A (rP r_api_Dot (rP rS (rP (rW (HDX go_6 (v_20 * 1) x_21)) (rP (rV 16 (rU UInt64)) (rP (rL r_api_Dest) r0))))) (v_8, (v_19, ((), (v_26, (To_69, ())))))) (.tmp rfl) (wkAK (Wk.pair Wk.refl (Wk.pair Wk.refl (Wk.pair Wk.refl (Wk.pair Wk.refl (Wk.pair Wk.hl Wk.refl))))))) .nil) rfl) (fun _ => ?_)
       replace hx4 := lt1_inv hx4
       obtain ⟨v_75, hv_v_75, hx4⟩ := hx4
       refine JL.run (.yes rfl (ltB rfl) rfl hc6) (op_not lb (.tmp rfl) hv_v_75) ?_
       refine jc (op_pickF lb (.tmp rfl) hc6 (.tmp rfl)) ?_
       refine JL.nrm ⟨[(0, ov (S (rL (rU UInt8)) b_1)), (2, ov (PTR gb_2 0)), (5, ov (PTR gb_31 0)), (45, ov (S rB v_75))], [cown go_6 (rU UInt8) v_3 0 gc_7, cvar gb_2 (rP r_api_Dot (rP rS (rP (rW (HDR none 0 0 0)) (rP (rV 16 (rU UInt64)) (rP (rW (HDR none 0 0 0)) r0))))) ((api_Dot.mk (0 : Int) (0 : UInt64)), (([] : (List UInt8)), ((), ((Vector.replicate 16 (0 : UInt64)), ((), ()))))), cvar gb_31 (rP r_api_Dot (rP rS (rP (rW (HDX go_6 (v_20 * 1) x_21)) (rP (rV 16 (rU UInt64)) (rP (rW (HL go_70 r_api_Dest To_69 gc_71)) r0))))) (v_8, (v_19, ((), (v_26, ((), ()))))), cown go_70 r_api_Dest To_69 (List.length To_69) gc_71], []⟩ [0, 1, 1, 1] rfl (.cons rfl (.cons rfl (.cons rfl (.cons rfl .nil)))) rfl ?_
       refine jc (op_move lb (.tmp rfl)) ?_
       replace hx4 := iteB_inv hx4
       rcases hx4 with ⟨hc8, hx4⟩ | ⟨hc8, hx4⟩
       · refine JL.skip (.no rfl (ltB rfl) rfl hc8) (fun d h => by cases h; exact ltB rfl) ?_
         refine JL.skip (.no rfl (ltB rfl) rfl hc8) (fun d h => by cases h; exact ltB rfl) ?_
         refine JL.skip (.no rfl (ltB rfl) rfl hc8) (fun d h => by cases h; exact ltB rfl) ?_
         refine JL.skip (.no rfl (ltB rfl) rfl hc8) (fun d h => by cases h; exact ltB rfl) ?_
         refine JL.skip (.no rfl (ltB rfl) rfl hc8) (fun d h => by cases h; exact ltB rfl) ?_
         refine jc (op_pickT lb (.tmp rfl) hc8 .cB) ?_
         refine JL.nil ?_
         replace hx4 := Option.some.inj hx4
         first | subst hx4 | clear hx4
         refine JQ.pre (Imp.var (j := 2) (q := (rP r_api_Dot (rP rS (rP (rW (HDX go_6 (v_20 * 1) x_21)) (rP (rV 16 (rU UInt64)) (rP (rW (HDR go_70 0 (List.length To_69) gc_71)) r0)))))) (y := (v_8, (v_19, ((), (v_26, ((), ())))))) rfl (Wk.pair Wk.refl (Wk.pair Wk.refl (Wk.pair Wk.refl (Wk.pair Wk.refl (Wk.pair Wk.hh Wk.refl)))))) ?_
         exact JQ.join () (Imp.norm (js := [1, 1, 0, 0]) rfl (.cons rfl (.cons rfl (.cons rfl .nil))))
       · refine JL.run (.yes rfl (ltB rfl) rfl hc8) (op_loadA (j := 2) lb tA38 (.tmp rfl) rfl (Comp.self (rP r_api_Dot (rP rS (rP (rW (HDX go_6 (v_20 * 1) x_21)) (rP (rV 16 (rU UInt64)) (rP (rW (HL go_70 r_api_Dest To_69 gc_71)) r0))))) (v_8, (v_19, ((), (v_26, ((), ())))))) rfl) ?_
         replace hx4 := bnd_inv hx4
         obtain ⟨v_76, hv_v_76, hx4⟩ := hx4
         refine JL.runX (.yes rfl (ltB rfl) rfl hc8) (op_call (js := [0]) ld cl28 (sim_event_bytes'2 k v_8 v_19 v_20 x_21 v_26 To_69 v_3 go_6 gc_7 v_76 hv_v_76) .func (.cons (HasO.wk (q := A (rP r_api_Dot (rP rS (rP (rW (HDX go_6 (v_20 * 1) x_21)) (rP (rV 16 (rU UInt64)) (rP (rL r_api_Dest) r0))))) (v_8, (v_19, ((), (v_26, (To_69, ())))))) (.tmp rfl) (wkAK (Wk.pair Wk.refl (Wk.pair Wk.refl (Wk.pair Wk.refl (Wk.pair Wk.refl (Wk.pair Wk.hl Wk.refl))))))) .nil) rfl) (fun q => ?_)
         obtain ⟨go_77, gc_78⟩ := q
         refine JL.run (.yes rfl (ltB rfl) rfl hc8) (op_move lb (.tmp rfl)) ?_
         replace hx4 := bnd_inv hx4
         obtain ⟨v_79, hv_v_79, hx4⟩ := hx4
         refine JL.pre (Imp.frz (j := 0) rfl (ImpK.slotH (s := 48) rfl ImpK.refl)) ?_
         refine JL.runX (.yes rfl (ltB rfl) rfl hc8) (op_call (js := []) ld cl45 (sim_slices_Equalbyte_byte k v_76 b_1 v_79 hv_v_79) .func (.cons (HasO.wk (.tmp rfl) wkHL) (.cons (.tmp rfl) .nil)) rfl) (fun _ => ?_)
         replace hx4 := lt1_inv hx4
         obtain ⟨v_80, hv_v_80, hx4⟩ := hx4
         refine JL.run (.yes rfl (ltB rfl) rfl hc8) (op_not lb (.tmp rfl) hv_v_80) ?_
         refine jc (op_pickF lb (.tmp rfl) hc8 (.tmp rfl)) ?_
         refine JL.nil ?_
         replace hx4 := Option.some.inj hx4
         first | subst hx4 | clear hx4
         refine JQ.pre (Imp.var (j := 3) (q := (rP r_api_Dot (rP rS (rP (rW (HDX go_6 (v_20 * 1) x_21)) (rP (rV 16 (rU UInt64)) (rP (rW (HDR go_70 0 (List.length To_69) gc_71)) r0)))))) (y := (v_8, (v_19, ((), (v_26, ((), ())))))) rfl (Wk.pair Wk.refl (Wk.pair Wk.refl (Wk.pair Wk.refl (Wk.pair Wk.refl (Wk.pair Wk.hh Wk.refl)))))) ?_
         exact JQ.join () (Imp.norm (js := [2, 2, 1, 1]) rfl (.cons rfl (.cons rfl (.cons rfl .nil))))
 · refine JC.seq ?_
   refine JC.region ?_
   refine jc (op_move lb (.tmp rfl)) ?_
   replace hx1 := bnd_inv hx1
   obtain ⟨⟨v_32, x_33, x_34, x_35, x_36⟩, hv_v_32, hx1⟩ := hx1
   refine jx (op_call (js := [2, 0]) ld cl42 (sim_wire_Reader_Number k (2 : Int) x_27 x_28 x_29 x_30 v_3 gb_5 go_6 gc_7 (v_32, x_33, x_34, x_35, x_36) hv_v_32) .func (.cons (.tmp rfl) (.cons .cI .nil)) rfl) (fun _ => ?_)
   replace hx1 := lt1_inv hx1
   obtain ⟨v_37, hv_v_37, hx1⟩ := hx1
   refine jc (op_convUI lb tu22 tu3 (.tmp rfl) hv_v_37) ?_
   refine jc (op_move lb (.tmp rfl)) ?_
   replace hx1 := bnd_inv hx1
   obtain ⟨v_38, hv_v_38, hx1⟩ := hx1
   refine jx (op_call (js := [0, 0]) ld cl43 (sim_wire_Reader_Left k x_33 x_34 x_35 x_36 v_3 gb_5 go_6 gc_7 v_38 hv_v_38) .func (.cons (.tmp rfl) .nil) rfl) (fun _ => ?_)
   replace hx1 := lt1_inv hx1
   obtain ⟨v_39, hv_v_39, hx1⟩ := hx1
   refine jc (op_minI lb (.tmp rfl) (.tmp rfl) hv_v_39) ?_
   refine jc (op_move lb .cI) ?_
   refine JL.nil ?_
   refine JQ.then ?_
   refine JC.block ?_
   refine JC.pre (Imp.nilown r_api_Dest) ?_
   refine JC.pre ?_ (JC.loop (γ := Option Nat × Nat) (stf := fun s q => ⟨[(0, ov (S (rL (rU UInt8)) b_1)), (2, ov (PTR gb_2 0)), (4, ov (PTR gb_5 0)), (5, ov (PTR gb_31 0)), (23, ov (S (rI .i64) v_39)), (24, ov (S (rI .i64) s.2.2.2.2.2))], [cvar gb_2 (rP r_api_Dot (rP rS (rP (rW (HDR none 0 0 0)) (rP (rV 16 (rU UInt64)) (rP (rW (HDR none 0 0 0)) r0))))) ((api_Dot.mk (0 : Int) (0 : UInt64)), (([] : (List UInt8)), ((), ((Vector.replicate 16 (0 : UInt64)), ((), ()))))), cvar gb_5 (rP (rW (HDX go_6 (s.1 * 1) s.2.1)) (rP rB (rP rB r0))) ((), (s.2.2.1, (s.2.2.2.1, ()))), cown go_6 (rU UInt8) v_3 0 gc_7, cvar gb_31 (rP r_api_Dot (rP rS (rP (rW (HDX go_6 (v_20 * 1) x_21)) (rP (rV 16 (rU UInt64)) (rP (rW (HDR q.1 0 (List.length s.2.2.2.2.1) q.2)) r0))))) (v_8, (v_19, ((), (v_26, ((), ()))))), cown q.1 r_api_Dest s.2.2.2.2.1 0 q.2], []⟩) (q := (none, 0)) hx1 ?_)
   · exact (Imp.norm (js := [2, 0, 0, 0, 0]) rfl (.cons rfl (.cons rfl (.cons rfl (.cons rfl (.cons rfl (.cons rfl .nil)))))))
   · intro s q x hx hr
     obtain ⟨x_40, x_41, is_42, made_43, To_44, x_45⟩ := s
     obtain ⟨go_46, gc_47⟩ := q
     change event_Of'2.b1 k v_39 v_3 x_40 x_41 is_42 made_43 To_44 x_45 = some x at hx
     unfold event_Of'2.b1 at hx
     refine JC.at ⟨[(0, ov (S (rL (rU UInt8)) b_1)), (2, ov (PTR gb_2 0)), (4, ov (PTR gb_5 0)), (5, ov (PTR gb_31 0)), (23, ov (S (rI .i64) v_39)), (24, ov (S (rI .i64) x_45))], [cvar gb_2 (rP r_api_Dot (rP rS (rP (rW (HDR none 0 0 0)) (rP (rV 16 (rU UInt64)) (rP (rW (HDR none 0 0 0)) r0))))) ((api_Dot.mk (0 : Int) (0 : UInt64)), (([] : (List UInt8)), ((), ((Vector.replicate 16 (0 : UInt64)), ((), ()))))), cvar gb_5 (rP (rW (HDX go_6 (x_40 * 1) x_41)) (rP rB (rP rB r0))) ((), (is_42, (made_43, ()))), cown go_6 (rU UInt8) v_3 0 gc_7, cvar gb_31 (rP r_api_Dot (rP rS (rP (rW (HDX go_6 (v_20 * 1) x_21)) (rP (rV 16 (rU UInt64)) (rP (rW (HDR go_46 0 (List.length To_44) gc_47)) r0))))) (v_8, (v_19, ((), (v_26, ((), ()))))), cown go_46 r_api_Dest To_44 0 gc_47], []⟩ ?_
     refine JC.seq ?_
     refine JC.region ?_
     replace hx := lt1_inv hx
     obtain ⟨v_48, hv_v_48, hx⟩ := hx
     refine jc (op_cmpI lb (.tmp rfl) (.tmp rfl) (congrArg some hv_v_48)) ?_
     refine JL.nil ?_
     refine JQ.then ?_
     refine JC.seq ?_
     replace hx := iteB_inv hx
     rcases hx with ⟨hc3, hx⟩ | ⟨hc3, hx⟩
     · refine JC.condT (.tmp rfl) hc3 ?_
       refine JC.skip ?_
       refine JQ.then ?_
       refine JC.seq ?_
       refine JC.block ?_
       replace hx := bnd_inv hx
       obtain ⟨⟨v_49, x_50, x_51, x_52, x_53⟩, hv_v_49, hx⟩ := hx
       replace hx := bnd_inv hx
       obtain ⟨⟨v_54, x_55, x_56, x_57, x_58, x_59⟩, hv_v_54, hx⟩ := hx
       replace hx := bnd_inv hx
       obtain ⟨v_60, hv_v_60, hx⟩ := hx
       replace hx := bnd_inv hx
       obtain ⟨x_61, hv_x_61, hx⟩ := hx
       refine JC.anyE (kl := []) (kk := 0) (base := [(0, ov (S (rL (rU UInt8)) b_1)), (2, ov (PTR gb_2 0)), (4, ov (PTR gb_5 0)), (5, ov (PTR gb_31 0)), (23, ov (S (rI .i64) v_39)), (24, ov (S (rI .i64) x_45))])
           (fs := fun γ => [⟨some 26, ov (PTR gb_31 (0 + 20))⟩, ⟨some 27, ov (HDR go_46 0 (List.length To_44) gc_47)⟩, ⟨some 28, ov (PTR gb_5 0)⟩, ⟨some 29, ov (A r_api_Dot v_49)⟩, ⟨some 30, ov (PTR gb_5 0)⟩, ⟨some 31, ov (HDX go_6 (v_54 * 1) x_55)⟩, ⟨some 32, ov (S rS v_60)⟩, ⟨some 33, ov (A (rP r_api_Dot (rP rS r0)) (v_49, (v_60, ())))⟩, ⟨some 34, ov (S (rL r_api_Dest) ([(api_Dest.mk v_49 v_60)] : (List api_Dest)))⟩, ⟨some 35, ov (HDR (deo (γ 9 0)) 0 (List.length x_61) (γ 9 1))⟩, ⟨some 36, ov (PTR gb_31 (0 + 20))⟩, ⟨none, .one .any⟩])
           (rs := fun γ => [⟨cvar gb_2 (rP r_api_Dot (rP rS (rP (rW (HDR none 0 0 0)) (rP (rV 16 (rU UInt64)) (rP (rW (HDR none 0 0 0)) r0))))) ((api_Dot.mk (0 : Int) (0 : UInt64)), (([] : (List UInt8)), ((), ((Vector.replicate 16 (0 : UInt64)), ((), ()))))), none, none, []⟩, ⟨cvar gb_5 (rP (rW (HDX go_6 (x_40 * 1) x_41)) (rP rB (rP rB r0))) ((), (is_42, (made_43, ()))), none, (some 3), []⟩, ⟨cown go_6 (rU UInt8) v_3 0 gc_7, none, none, [3, 5, 6]⟩, ⟨cvar gb_31 (rP r_api_Dot (rP rS (rP (rW (HDX go_6 (v_20 * 1) x_21)) (rP (rV 16 (rU UInt64)) (rP (rW (HDR go_46 0 (List.length To_44) gc_47)) r0))))) (v_8, (v_19, ((), (v_26, ((), ()))))), none, (some 11), [1]⟩, ⟨cown go_46 r_api_Dest To_44 0 gc_47, none, (some 9), []⟩, ⟨cvar gb_5 (rP (rW (HDX go_6 (x_50 * 1) x_51)) (rP rB (rP rB r0))) ((), (x_52, (x_53, ()))), (some 3), (some 5), []⟩, ⟨cvar gb_5 (rP (rW (HDX go_6 (x_56 * 1) x_57)) (rP rB (rP rB r0))) ((), (x_58, (x_59, ()))), (some 5), none, []⟩, ⟨cown (deo (γ 9 0)) r_api_Dest x_61 0 (γ 9 1), (some 9), none, []⟩, ⟨cvar gb_31 (rP r_api_Dot (rP rS (rP (rW (HDX go_6 (v_20 * 1) x_21)) (rP (rV 16 (rU UInt64)) (rP (rW (HDR (deo (γ 9 0)) 0 (List.length x_61) (γ 9 1))) r0))))) (v_8, (v_19, ((), (v_26, ((), ()))))), (some 11), none, []⟩])
           (ds := [26, 27, 28, 29, 30, 31, 32, 33, 34, 35, 36]) (bs := [0, 2, 4, 5, 23, 24]) (afts := [[], [], [], [], [], [], [], [], [], [9, 10, 11], [], []]) (js := [0, 0, 0, 0, 0]) mixed (.cons rfl (.cons rfl (.cons rfl (.cons rfl (.cons rfl (.cons rfl .nil)))))) (fun _ => rfl)
           (by
      refine dS 1 (fun γ ρ B hb hd => op_fieldAddr (off := 20) lb tf38_4 (.tmp (hb 5 _ rfl))) ?_
      refine DSteps.cons (j := 2) rfl (fun _ => rfl) (.run (fun γ ρ B hb hd => ⟨.none, OpStep.at ⟨ρ, (cvar gb_31 (rP r_api_Dot (rP rS (rP (rW (HDX go_6 (v_20 * 1) x_21)) (rP (rV 16 (rU UInt64)) (rP (rW (HDR go_46 0 (List.length To_44) gc_47)) r0))))) (v_8, (v_19, ((), (v_26, ((), ())))))) :: B, _⟩ (setO ⟨ρ, (cvar gb_31 (rP r_api_Dot (rP rS (rP (rW (HDX go_6 (v_20 * 1) x_21)) (rP (rV 16 (rU UInt64)) (rP (rW (HDR go_46 0 (List.length To_44) gc_47)) r0))))) (v_8, (v_19, ((), (v_26, ((), ())))))) :: B, _⟩ _ _) (op_loadW (j := 0) lb tS36 (.tmp (hl hd 0 26 rfl)) rfl (Comp.trans (Comp.self (rP r_api_Dot (rP rS (rP (rW (HDX go_6 (v_20 * 1) x_21)) (rP (rV 16 (rU UInt64)) (rP (rW (HDR go_46 0 (List.length To_44) gc_47)) r0))))) (v_8, (v_19, ((), (v_26, ((), ())))))) (Comp.at' (Comp.inS (Comp.inS (Comp.inS (Comp.inS (Comp.inF (Comp.self (rW (HDR go_46 0 (List.length To_44) gc_47)) ()) (Nat.le_of_ble_eq_true rfl)))))) (by rfl : _ = 20)) (Nat.le_of_ble_eq_true rfl)))⟩)) ?_
      refine dS 3 (fun γ ρ B hb hd => op_move lb (.tmp (hb 4 _ rfl))) ?_
      refine DSteps.cons (j := 4) rfl (fun _ => rfl) (.run (fun γ ρ B hb hd => ⟨.none, OpStep.at ⟨ρ, (cvar gb_5 (rP (rW (HDX go_6 (x_40 * 1) x_41)) (rP rB (rP rB r0))) ((), (is_42, (made_43, ())))) :: (cown go_6 (rU UInt8) v_3 0 gc_7) :: B, _⟩ (setO ⟨ρ, (cvar gb_5 (rP (rW (HDX go_6 (x_50 * 1) x_51)) (rP rB (rP rB r0))) ((), (x_52, (x_53, ())))) :: (cown go_6 (rU UInt8) v_3 0 gc_7) :: B, _⟩ _ _) ((op_call (js := [0, 0]) ld cl39 (sim_wire_Reader_Dot k x_40 x_41 is_42 made_43 v_3 gb_5 go_6 gc_7 (v_49, x_50, x_51, x_52, x_53) hv_v_49) .func (.cons (.tmp (hl hd 2 28 rfl)) .nil) rfl).post (fun _ => Imp.pick (js := [0, 0]) rfl rfl))⟩)) ?_
      refine dS 5 (fun γ ρ B hb hd => op_move lb (.tmp (hb 4 _ rfl))) ?_
      refine DSteps.cons (j := 6) rfl (fun _ => rfl) (.run (fun γ ρ B hb hd => ⟨.none, OpStep.at ⟨ρ, (cvar gb_5 (rP (rW (HDX go_6 (x_50 * 1) x_51)) (rP rB (rP rB r0))) ((), (x_52, (x_53, ())))) :: (cown go_6 (rU UInt8) v_3 0 gc_7) :: B, _⟩ (setO ⟨ρ, (cvar gb_5 (rP (rW (HDX go_6 (x_56 * 1) x_57)) (rP rB (rP rB r0))) ((), (x_58, (x_59, ())))) :: (cown go_6 (rU UInt8) v_3 0 gc_7) :: B, _⟩ _ _) ((op_call (js := [0, 0]) ld cl40 (sim_wire_Reader_Blob k x_50 x_51 x_52 x_53 v_3 gb_5 go_6 gc_7 (v_54, x_55, x_56, x_57, x_58, x_59) hv_v_54) .func (.cons (.tmp (hl hd 4 30 rfl)) .nil) rfl).post (fun _ => Imp.pick (js := [1, 0]) rfl rfl))⟩)) ?_
      refine DSteps.cons (j := 7) rfl (fun _ => rfl) (.run (fun γ ρ B hb hd => ⟨.none, OpStep.at ⟨ρ, (cown go_6 (rU UInt8) v_3 0 gc_7) :: B, _⟩ (setO ⟨ρ, (cown go_6 (rU UInt8) v_3 0 gc_7) :: B, _⟩ _ _) (op_convXS (j := 0) (o := v_54) lb tu35 tu5 tu9 rfl (.tmp (hl hd 5 31 rfl)) hv_v_60)⟩)) ?_
      refine dS 8 (fun γ ρ B hb hd => op_build lb tZ59 zs59 tp59 (.A (off := 0) rfl (.tmp (hl hd 3 29 rfl)) ((UpdR.fst (UpdR.self (by rfl))).at (by rfl)) (.S (off := 2) rfl (.tmp (hl hd 6 32 rfl)) rfl ((UpdR.snd (UpdR.fst (UpdR.self (by rfl)))).at (by rfl)) .nil)) rfl) ?_
      refine dS 9 (fun γ ρ B hb hd => op_buildF (r := r_api_Dest) lb tu36 tz59 tZ59 rfl (Nat.le_of_ble_eq_true rfl) (.A (HasO.wk (q := A r_api_Dest (api_Dest.mk v_49 v_60)) (.tmp (hl hd 7 33 rfl)) (wkAK (Wk.st Wk.refl))) .nil) rfl) ?_
      refine DSteps.cons (j := 10) rfl (fun _ => rfl) (.runX (fun _ _ => rfl) (fun γ ρ B hb hd => ⟨.none, OpX.ghost (γ := Option Nat × Nat) (st' := fun q => setO ⟨ρ, (cown q.1 r_api_Dest x_61 0 q.2) :: B, _⟩ (some 35) (ov (HDR q.1 0 (List.length x_61) q.2))) (fun q c => bif Nat.beq c 0 then eno q.1 else q.2) (op_appendL (j := 0) lb tu36 tu36 rfl tB59 rfl (Nat.lt_of_lt_of_le Nat.zero_lt_one (Nat.le_of_ble_eq_true rfl)) (Nat.lt_of_lt_of_le Nat.zero_lt_one (Nat.le_of_ble_eq_true rfl))  rfl (.tmp (hl hd 1 27 rfl)) (.tmp (hl hd 8 34 rfl)) hv_x_61) (fun q => by obtain ⟨q0, q1⟩ := q; cases q0 <;> exact Imp.refl)⟩) (fun _ _ => rfl) (fun _ _ => rfl)) ?_
      refine dS 11 (fun γ ρ B hb hd => op_fieldAddr (off := 20) lb tf38_4 (.tmp (hb 5 _ rfl))) ?_
      refine DSteps.cons (j := 12) rfl (fun _ => rfl) (.run (fun γ ρ B hb hd => ⟨.none, OpStep.at ⟨ρ, (cvar gb_31 (rP r_api_Dot (rP rS (rP (rW (HDX go_6 (v_20 * 1) x_21)) (rP (rV 16 (rU UInt64)) (rP (rW (HDR go_46 0 (List.length To_44) gc_47)) r0))))) (v_8, (v_19, ((), (v_26, ((), ())))))) :: B, _⟩ (setO ⟨ρ, (cvar gb_31 (rP r_api_Dot (rP rS (rP (rW (HDX go_6 (v_20 * 1) x_21)) (rP (rV 16 (rU UInt64)) (rP (rW (HDR (deo (γ 9 0)) 0 (List.length x_61) (γ 9 1))) r0))))) (v_8, (v_19, ((), (v_26, ((), ())))))) :: B, _⟩ _ _) (op_storeW (j := 0) tS36 (.tmp (hl hd 10 36 rfl)) (.tmp (hl hd 9 35 rfl)) rfl ((UpdR.snd (UpdR.snd (UpdR.snd (UpdR.snd (UpdR.fst (UpdR.self (by rfl))))))).at (by change (2 + (1 + (1 + (16 + 0)))) = (0 + 20); omega)) rfl)⟩)) ?_
      exact DSteps.nil)
           (by decide +kernel) (fun _ => rfl) rfl (fun _ => rfl) (fun _ => rfl) rfl (by decide) (by decide) (by decide +kernel) (fun _ d h => by cases h)
           (ρ' := fun γ => [(0, ov (S (rL (rU UInt8)) b_1)), (2, ov (PTR gb_2 0)), (4, ov (PTR gb_5 0)), (5, ov (PTR gb_31 0)), (23, ov (S (rI .i64) v_39)), (24, ov (S (rI .i64) x_45))])
           (X' := fun γ => [cvar gb_2 (rP r_api_Dot (rP rS (rP (rW (HDR none 0 0 0)) (rP (rV 16 (rU UInt64)) (rP (rW (HDR none 0 0 0)) r0))))) ((api_Dot.mk (0 : Int) (0 : UInt64)), (([] : (List UInt8)), ((), ((Vector.replicate 16 (0 : UInt64)), ((), ()))))), cown go_6 (rU UInt8) v_3 0 gc_7, cvar gb_5 (rP (rW (HDX go_6 (x_56 * 1) x_57)) (rP rB (rP rB r0))) ((), (x_58, (x_59, ()))), cown (deo (γ 9 0)) r_api_Dest x_61 0 (γ 9 1), cvar gb_31 (rP r_api_Dot (rP rS (rP (rW (HDX go_6 (v_20 * 1) x_21)) (rP (rV 16 (rU UInt64)) (rP (rW (HDR (deo (γ 9 0)) 0 (List.length x_61) (γ 9 1))) r0))))) (v_8, (v_19, ((), (v_26, ((), ())))))])
           (fun γ ρ hb hd => (.cons (hb 0 _ rfl (by decide)) (.cons (hb 2 _ rfl (by decide)) (.cons (hb 4 _ rfl (by decide)) (.cons (hb 5 _ rfl (by decide)) (.cons (hb 23 _ rfl (by decide)) (.cons (hb 24 _ rfl (by decide)) .nil))))))) (fun _ => rfl) (fun γ => ?_)
       generalize (deo (γ 9 0)) = go_62
       generalize (γ 9 1) = gc_63
       clear γ
       refine JQ.at ⟨[(0, ov (S (rL (rU UInt8)) b_1)), (2, ov (PTR gb_2 0)), (4, ov (PTR gb_5 0)), (5, ov (PTR gb_31 0)), (23, ov (S (rI .i64) v_39)), (24, ov (S (rI .i64) x_45))], [cvar gb_2 (rP r_api_Dot (rP rS (rP (rW (HDR none 0 0 0)) (rP (rV 16 (rU UInt64)) (rP (rW (HDR none 0 0 0)) r0))))) ((api_Dot.mk (0 : Int) (0 : UInt64)), (([] : (List UInt8)), ((), ((Vector.replicate 16 (0 : UInt64)), ((), ()))))), cown go_6 (rU UInt8) v_3 0 gc_7, cvar gb_5 (rP (rW (HDX go_6 (x_56 * 1) x_57)) (rP rB (rP rB r0))) ((), (x_58, (x_59, ()))), cown go_62 r_api_Dest x_61 0 gc_63, cvar gb_31 (rP r_api_Dot (rP rS (rP (rW (HDX go_6 (v_20 * 1) x_21)) (rP (rV 16 (rU UInt64)) (rP (rW (HDR go_62 0 (List.length x_61) gc_63)) r0))))) (v_8, (v_19, ((), (v_26, ((), ())))))], []⟩ ?_
       refine JQ.outNB ?_
       refine JQ.then ?_
       refine JC.region ?_
       replace hx := lt1_inv hx
       obtain ⟨v_64, hv_v_64, hx⟩ := hx
       refine jc (op_arI lb (.tmp rfl) .cI (congrArg some hv_v_64)) ?_
       refine jc (op_move lb (.tmp rfl)) ?_
       refine JL.nil ?_
       replace hx := Option.some.inj hx
       first | subst hx | clear hx
       exact JQ.next (go_62, gc_63) rfl (Imp.norm (js := [0, 1, 0, 1, 0]) rfl (.cons rfl (.cons rfl (.cons rfl (.cons rfl (.cons rfl (.cons rfl .nil)))))))
     · refine JC.condF (.tmp rfl) hc3 ?_
       refine JC.exit ?_
       refine JQ.outX ?_
       replace hx := Option.some.inj hx
       first | subst hx | clear hx
       have ht := hr _ rfl
       have hq2 := congrArg some ht
       clear hr ht
       refine JQ.outX ?_
       refine JQ.here ?_
       replace hq2 := Option.some.inj hq2
       replace hq2 := Prod.mk.inj hq2
       obtain ⟨hq2_a, hq2⟩ := hq2
       first | subst hq2_a | clear hq2_a
       replace hq2 := Prod.mk.inj hq2
       obtain ⟨hq2_a, hq2⟩ := hq2
       first | subst hq2_a | clear hq2_a
       replace hq2 := Prod.mk.inj hq2
       obtain ⟨hq2_a, hq2⟩ := hq2
       first | subst hq2_a | clear hq2_a
       replace hq2 := Prod.mk.inj hq2
       obtain ⟨hq2_a, hq2⟩ := hq2
       first | subst hq2_a | clear hq2_a
       first | subst hq2 | clear hq2
       exact JQ.join (go_46, gc_47) (Imp.norm (js := [0, 0, 0, 0, 0]) rfl (.cons rfl (.cons rfl (.cons rfl (.cons rfl .nil)))))

end Go.Proofs.Ythoggbomakolkaa
