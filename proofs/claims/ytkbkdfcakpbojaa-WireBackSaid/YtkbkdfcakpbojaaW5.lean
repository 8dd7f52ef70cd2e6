/- Walks. -/
import Derived.Test.YtkbkdfcakpbojaaT
import Derived.Test.YtkbkdfcakpbojaaW0
import Derived.Test.YtkbkdfcakpbojaaW1
import Derived.Test.YtkbkdfcakpbojaaW3
import Derived.Test.YtkbkdfcakpbojaaW4
namespace Go.Proofs.Ytkbkdfcakpbojaa
open Go Fw
set_option linter.unusedVariables false
set_option maxRecDepth 100000
set_option maxHeartbeats 4000000

theorem sim_ref01_Reader_Dot (k : Nat) (r_1 : ref01_Reader) (gb_2 : Nat) (r : api_Dot × ref01_Reader) (hm : ref01_Reader_Dot k r_1 = some r) : Sim Try.prog 44 [PTR gb_2 0] [cvar gb_2 r_ref01_Reader r_1] (γ := Unit) (fun q => [cvar gb_2 r_ref01_Reader r.2]) (fun q => .one (.val (A r_api_Dot r.1))) := by
 unfold ref01_Reader_Dot at hm
 refine Sim.of Try.func44 rfl rfl (Nat.le_of_ble_eq_true rfl) (fun e0 w0 => ?_)
 refine JC.at ⟨[(0, ov (PTR gb_2 0))], [cvar gb_2 r_ref01_Reader r_1], []⟩ ?_
 refine JC.seq ?_
 refine JC.region ?_
 refine jx (op_alloc lb tZ48 zr48) (fun q => ?_)
 obtain ⟨gb_3, hqq⟩ : ∃ z, z = q := ⟨_, rfl⟩
 subst hqq
 refine JL.nil ?_
 refine JQ.then ?_
 refine JC.seq ?_
 refine JC.region ?_
 refine jc (op_move lb (.tmp rfl)) ?_
 replace hm := bnd_inv hm
 obtain ⟨⟨v_4, x_5⟩, hv_v_4, hm⟩ := hm
 refine jx (op_call (js := [0]) ld cl46 (sim_ref01_Reader_Bytes k (9 : Int) r_1 gb_2 (v_4, x_5) hv_v_4) .func (.cons (.tmp rfl) (.cons .cI .nil)) rfl) (fun _ => ?_)
 refine jc (op_assign lb (.tmp rfl)) ?_
 refine JL.nil ?_
 refine JQ.then ?_
 refine JC.seq ?_
 refine JC.seq ?_
 refine JC.region ?_
 refine jc (op_move lb (.tmp rfl)) ?_
 refine jc (op_lenL lb tu23 (.tmp rfl)) ?_
 replace hm := lt1_inv hm
 obtain ⟨v_6, hv_v_6, hm⟩ := hm
 refine jc (op_cmpI lb (.tmp rfl) .cI (congrArg some hv_v_6)) ?_
 refine JL.nil ?_
 refine JQ.then ?_
 replace hm := iteB_inv hm
 rcases hm with ⟨hc1, hm⟩ | ⟨hc1, hm⟩
 · refine JC.condT (.tmp rfl) hc1 ?_
   refine JC.seq ?_
   refine JC.region ?_
   refine jc (op_build lb tZ48 zv48 tp48 .nil rfl) ?_
   refine JL.sub ⟨[(2, ov (PTR gb_3 0)), (9, ov (A r_api_Dot (api_Dot.mk (0 : Int) (0 : UInt64))))], [cvar gb_2 r_ref01_Reader x_5, cvar gb_3 r_api_Dot (api_Dot.mk (0 : Int) (0 : UInt64))], []⟩ (.cons rfl (.cons rfl .nil)) rfl rfl ?_
   refine jc (op_storeA (j := 1) tA48 (.tmp rfl) (.tmp rfl) rfl (UpdR.self (by rfl)) rfl) ?_
   refine JL.nil ?_
   refine JQ.then ?_
   refine JC.ret ?_
   refine JQ.outR ?_
   replace hm := Option.some.inj hm
   subst hm
   exact JQ.done (js := [0]) (ss := [.val (A r_api_Dot (api_Dot.mk (0 : Int) (0 : UInt64)))]) () (.inl rfl) (.nil rfl) rfl (.cons (.cellA (j := 1) tA48 rfl rfl) .nil) rfl rfl rfl
 · refine JC.condF (.tmp rfl) hc1 ?_
   refine JC.skip ?_
   refine JQ.then ?_
   refine JC.seq ?_
   replace hm := bnd_inv hm
   obtain ⟨v_7, hv_v_7, hm⟩ := hm
   replace hm := lt1_inv hm
   obtain ⟨v_8, hv_v_8, hm⟩ := hm
   replace hm := bnd_inv hm
   obtain ⟨v_9, hv_v_9, hm⟩ := hm
   replace hm := bnd_inv hm
   obtain ⟨v_10, hv_v_10, hm⟩ := hm
   refine JC.anyE (kl := []) (kk := 0) (base := [(2, ov (PTR gb_3 0)), (3, ov (S (rL (rU UInt8)) v_4))])
       (fs := fun γ => [⟨some 10, ov (S (rL (rU UInt8)) v_4)⟩, ⟨some 11, ov (PT (rU UInt8) v_7)⟩, ⟨some 12, ov (S (rU UInt8) v_7)⟩, ⟨some 13, ov (S (rI .i64) v_8)⟩, ⟨some 14, ov (S (rL (rU UInt8)) v_4)⟩, ⟨some 15, ov (S (rL (rU UInt8)) v_9)⟩, ⟨some 16, ov (S (rU UInt64) v_10)⟩, ⟨some 17, ov (A (rP (rI .i64) (rP (rU UInt64) r0)) (v_8, (v_10, ())))⟩, ⟨none, .one .any⟩])
       (rs := fun γ => [⟨cvar gb_2 r_ref01_Reader x_5, none, none, []⟩, ⟨cvar gb_3 r_api_Dot (api_Dot.mk (0 : Int) (0 : UInt64)), none, (some 8), []⟩, ⟨cvar gb_3 (rP (rI .i64) (rP (rU UInt64) r0)) (v_8, (v_10, ())), (some 8), none, []⟩])
       (ds := [10, 11, 12, 13, 14, 15, 16, 17]) (bs := [2, 3]) (afts := [[], [], [], [], [], [], [], [], []]) (js := [0, 0]) mixed (.cons rfl (.cons rfl .nil)) (fun _ => rfl)
       (by
      refine dS 1 (fun γ ρ B hb hd => op_move lb (.tmp (hb 3 _ rfl))) ?_
      refine dS 2 (fun γ ρ B hb hd => op_indexAddrLg lb tu23 tz5 (.tmp (hl hd 0 10 rfl)) .cI hv_v_7) ?_
      refine dS 3 (fun γ ρ B hb hd => op_loadPSg lb tS5 rfl (.tmp (hl hd 1 11 rfl)) rfl) ?_
      refine dS 4 (fun γ ρ B hb hd => op_convUI lb tu5 tu3 (.tmp (hl hd 2 12 rfl)) hv_v_8) ?_
      refine dS 5 (fun γ ρ B hb hd => op_move lb (.tmp (hb 3 _ rfl))) ?_
      refine dS 6 (fun γ ρ B hb hd => op_sliceLg lb tu23 tz5 (.tmp (hl hd 4 14 rfl)) (.some .cI) .none hv_v_9) ?_
      refine dS 7 (fun γ ρ B hb hd => (op_call (js := []) ld cl15 (sim_ref01_Get k v_9 v_10 hv_v_10) .func (.cons (.tmp (hl hd 5 15 rfl)) .nil) rfl).post (fun _ => Imp.refl)) ?_
      refine dS 8 (fun γ ρ B hb hd => op_build lb tZ48 zs48 tp48 (.S (off := 0) rfl (.tmp (hl hd 3 13 rfl)) rfl ((UpdR.fst (UpdR.self (by rfl))).at (by rfl)) (.S (off := 1) rfl (.tmp (hl hd 6 16 rfl)) rfl ((UpdR.snd (UpdR.fst (UpdR.self (by rfl)))).at (by rfl)) .nil)) rfl) ?_
      refine DSteps.cons (j := 9) rfl (fun _ => rfl) (.run (fun γ ρ B hb hd => ⟨.none, OpStep.at ⟨ρ, (cvar gb_3 r_api_Dot (api_Dot.mk (0 : Int) (0 : UInt64))) :: B, _⟩ (setO ⟨ρ, (cvar gb_3 (rP (rI .i64) (rP (rU UInt64) r0)) (v_8, (v_10, ()))) :: B, _⟩ _ _) (op_storeA (j := 0) tA48 (.tmp (hb 2 _ rfl)) (.tmp (hl hd 7 17 rfl)) rfl (UpdR.self (by rfl)) rfl)⟩)) ?_
      exact DSteps.nil)
       (by decide +kernel) (fun _ => rfl) rfl (fun _ => rfl) (fun _ => rfl) rfl (by decide) (by decide) (by decide +kernel) (fun _ d h => by cases h)
       (ρ' := fun γ => [(2, ov (PTR gb_3 0))])
       (X' := fun γ => [cvar gb_2 r_ref01_Reader x_5, cvar gb_3 (rP (rI .i64) (rP (rU UInt64) r0)) (v_8, (v_10, ()))])
       (fun γ ρ hb hd => (.cons (hb 2 _ rfl (by decide)) .nil)) (fun _ => rfl) (fun γ => ?_)
   refine JQ.at ⟨[(2, ov (PTR gb_3 0))], [cvar gb_2 r_ref01_Reader x_5, cvar gb_3 (rP (rI .i64) (rP (rU UInt64) r0)) (v_8, (v_10, ()))], []⟩ ?_
   refine JQ.then ?_
   refine JC.ret ?_
   replace hm := Option.some.inj hm
   subst hm
   refine JQ.pre (Imp.var (j := 1) (q := r_api_Dot) (y := (api_Dot.mk v_8 v_10)) rfl (Wk.st Wk.refl)) ?_
   exact JQ.done (js := [0]) (ss := [.val (A r_api_Dot (api_Dot.mk v_8 v_10))]) () (.inl rfl) (.nil rfl) rfl (.cons (.cellA (j := 1) tA48 rfl rfl) .nil) rfl rfl rfl

theorem sim_wire_Reader_Vector_1 (k : Nat) (is_2 : Bool) (made_3 : Bool) (x_5 : (List UInt8)) (gb_1 : Nat) (gb_4 : Nat) (go_6 : Option Nat) (gc_7 : Nat) (r : UInt64 × wire_Reader) (hm : wire_Reader_Vector_1 k is_2 made_3 x_5 = some r) : Sim Try.prog 48 [PTR gb_1 0] [cvar gb_1 (rW (PTR gb_4 0)) (), cvar gb_4 (rP (rW (HDR go_6 0 (List.length x_5) gc_7)) (rP rB (rP rB r0))) ((), (is_2, (made_3, ()))), cown go_6 (rU UInt8) x_5 0 gc_7] (γ := Unit) (fun q => [cvar gb_1 (rW (PTR gb_4 0)) (), cvar gb_4 r_wire_Reader r.2, cown go_6 (rU UInt8) x_5 (List.length x_5) gc_7]) (fun q => .one (.val (S (rU UInt64) r.1))) := by
 unfold wire_Reader_Vector_1 at hm
 refine Sim.of Try.func48 rfl rfl (Nat.le_of_ble_eq_true rfl) (fun e0 w0 => ?_)
 refine JC.at ⟨[(0, ov (PTR gb_1 0))], [cvar gb_1 (rW (PTR gb_4 0)) (), cvar gb_4 (rP (rW (HDR go_6 0 (List.length x_5) gc_7)) (rP rB (rP rB r0))) ((), (is_2, (made_3, ()))), cown go_6 (rU UInt8) x_5 0 gc_7], []⟩ ?_
 refine JC.seq ?_
 refine JC.region ?_
 refine jc (op_assign lb (HasO.cU (x := (0 : UInt64)) rfl (by decide))) ?_
 refine JL.nil ?_
 refine JQ.then ?_
 refine JC.seq ?_
 refine JC.region ?_
 refine jc (op_loadW (j := 0) lb tS36 (.tmp rfl) rfl (Comp.self (rW (PTR gb_4 0)) ())) ?_
 replace hm := bnd_inv hm
 obtain ⟨⟨v_8, x_9⟩, hv_v_8, hm⟩ := hm
 refine jx (op_call (js := [1, 1]) ld cl39 (sim_wire_Reader_Number k (8 : Int) is_2 made_3 x_5 gb_4 go_6 gc_7 (v_8, x_9) hv_v_8) .func (.cons (.tmp rfl) (.cons .cI .nil)) rfl) (fun _ => ?_)
 refine jc (op_assign lb (.tmp rfl)) ?_
 refine JL.nil ?_
 refine JQ.then ?_
 refine JC.ret ?_
 replace hm := Option.some.inj hm
 subst hm
 exact JQ.done (js := [2, 0, 0]) (ss := [.val (S (rU UInt64) v_8)]) () (.inl rfl) (.nil rfl) rfl (.cons (.tmp rfl) .nil) rfl rfl rfl

theorem sim_wire_Reader_Vector_1'2 (k : Nat) (x_2 : wire_Reader) (gb_1 : Nat) (gb_3 : Nat) (r : UInt64 × wire_Reader) (hm : wire_Reader_Vector_1'2 k x_2 = some r) : Sim Try.prog 48 [PTR gb_1 0] [cvar gb_1 (rW (PTR gb_3 0)) (), cvar gb_3 r_wire_Reader x_2] (γ := Unit) (fun q => [cvar gb_1 (rW (PTR gb_3 0)) (), cvar gb_3 r_wire_Reader r.2]) (fun q => .one (.val (S (rU UInt64) r.1))) := by
 unfold wire_Reader_Vector_1'2 at hm
 refine Sim.of Try.func48 rfl rfl (Nat.le_of_ble_eq_true rfl) (fun e0 w0 => ?_)
 refine JC.at ⟨[(0, ov (PTR gb_1 0))], [cvar gb_1 (rW (PTR gb_3 0)) (), cvar gb_3 r_wire_Reader x_2], []⟩ ?_
 refine JC.seq ?_
 refine JC.region ?_
 refine jc (op_assign lb (HasO.cU (x := (0 : UInt64)) rfl (by decide))) ?_
 refine JL.nil ?_
 refine JQ.then ?_
 refine JC.seq ?_
 refine JC.region ?_
 refine jc (op_loadW (j := 0) lb tS36 (.tmp rfl) rfl (Comp.self (rW (PTR gb_3 0)) ())) ?_
 replace hm := bnd_inv hm
 obtain ⟨⟨v_4, x_5⟩, hv_v_4, hm⟩ := hm
 refine jx (op_call (js := [1]) ld cl39 (sim_wire_Reader_Number'2 k (8 : Int) x_2 gb_3 (v_4, x_5) hv_v_4) .func (.cons (.tmp rfl) (.cons .cI .nil)) rfl) (fun _ => ?_)
 refine jc (op_assign lb (.tmp rfl)) ?_
 refine JL.nil ?_
 refine JQ.then ?_
 refine JC.ret ?_
 replace hm := Option.some.inj hm
 subst hm
 exact JQ.done (js := [1, 0]) (ss := [.val (S (rU UInt64) v_4)]) () (.inl rfl) (.nil rfl) rfl (.cons (.tmp rfl) .nil) rfl rfl rfl

theorem sim_wire_Reader_Vector (k : Nat) (is_1 : Bool) (made_2 : Bool) (x_4 : (List UInt8)) (gb_3 : Nat) (go_5 : Option Nat) (gc_6 : Nat) (r : (Vector UInt64 16) × wire_Reader) (hm : wire_Reader_Vector k is_1 made_2 x_4 = some r) : Sim Try.prog 28 [PTR gb_3 0] [cvar gb_3 (rP (rW (HDR go_5 0 (List.length x_4) gc_6)) (rP rB (rP rB r0))) ((), (is_1, (made_2, ()))), cown go_5 (rU UInt8) x_4 0 gc_6] (γ := Unit) (fun q => [cvar gb_3 r_wire_Reader r.2, cown go_5 (rU UInt8) x_4 (List.length x_4) gc_6]) (fun q => .one (.val (A (rV 16 (rU UInt64)) r.1))) := by
 unfold wire_Reader_Vector at hm
 refine Sim.of Try.func28 rfl rfl (Nat.le_of_ble_eq_true rfl) (fun e0 w0 => ?_)
 refine JC.at ⟨[(0, ov (PTR gb_3 0))], [cvar gb_3 (rP (rW (HDR go_5 0 (List.length x_4) gc_6)) (rP rB (rP rB r0))) ((), (is_1, (made_2, ()))), cown go_5 (rU UInt8) x_4 0 gc_6], []⟩ ?_
 refine JC.seq ?_
 refine JC.region ?_
 refine jx (op_alloc lb tZ50 zr50) (fun q => ?_)
 obtain ⟨gb_7, hqq⟩ : ∃ z, z = q := ⟨_, rfl⟩
 subst hqq
 refine JL.nil ?_
 refine JQ.then ?_
 refine JC.seq ?_
 refine JC.region ?_
 refine jc (op_move lb (.tmp rfl)) ?_
 replace hm := bnd_inv hm
 obtain ⟨⟨v_8, v_9, x_10, x_11, x_12⟩, hv_v_8, hm⟩ := hm
 refine jx (op_call (js := [0, 0]) ld cl47 (sim_wire_Reader_take k (128 : Int) is_1 made_2 x_4 gb_3 go_5 gc_6 (v_8, v_9, x_10, x_11, x_12) hv_v_8) .func (.cons (.tmp rfl) (.cons .cI .nil)) rfl) (fun _ => ?_)
 refine jc (op_move lb (.tmp rfl)) ?_
 refine jc (op_extract (i := 0) lb (.tmp rfl) rfl) ?_
 refine jc (op_extract (i := 1) lb (.tmp rfl) rfl) ?_
 refine jc (op_assign lb (.tmp rfl)) ?_
 refine jc (op_assign lb (.tmp rfl)) ?_
 refine JL.sub ⟨[(2, ov (PTR gb_7 0)), (3, ov (S (rL (rU UInt8)) v_8))], [cvar gb_3 (rP (rL (rU UInt8)) (rP rB (rP rB r0))) (x_10, (x_11, (x_12, ()))), cown go_5 (rU UInt8) x_4 (List.length x_4) gc_6, cvar gb_7 (rV 16 (rU UInt64)) (Vector.replicate 16 (0 : UInt64))], []⟩ (.cons rfl (.cons rfl .nil)) rfl rfl ?_
 refine JL.nil ?_
 refine JQ.then ?_
 refine JC.seq ?_
 refine JC.region ?_
 refine jc (op_move lb (.tmp rfl)) ?_
 replace hm := bnd_inv hm
 obtain ⟨v_13, hv_v_13, hm⟩ := hm
 refine jx (op_call (js := []) ld cl16 (sim_wire_Read k v_8 v_13 hv_v_13) .func (.cons (.tmp rfl) .nil) rfl) (fun q => ?_)
 obtain ⟨gb_14, go_15, gc_16⟩ := q
 refine jx (op_alloc lb tZ36 zr36) (fun q => ?_)
 obtain ⟨gb_17, hqq⟩ : ∃ z, z = q := ⟨_, rfl⟩
 subst hqq
 refine jc (op_storeW (j := 5) tS36 (.tmp rfl) (.tmp rfl) rfl (UpdR.self (by rfl)) rfl) ?_
 refine JL.nil ?_
 refine JQ.then ?_
 refine JC.seq ?_
 refine JC.region ?_
 refine jc (op_makeFunc lb (.cons (.tmp rfl) .nil)) ?_
 refine jc (op_assign lb (.tmp rfl)) ?_
 refine JL.sub ⟨[(2, ov (PTR gb_7 0)), (6, ov (CLO 48 [PTR gb_17 0]))], [cvar gb_14 (rP (rW (HDR go_15 0 (List.length v_13) gc_16)) (rP rB (rP rB r0))) ((), (true, (true, ()))), cown go_15 (rU UInt8) v_13 0 gc_16, cvar gb_3 (rP (rL (rU UInt8)) (rP rB (rP rB r0))) (x_10, (x_11, (x_12, ()))), cown go_5 (rU UInt8) x_4 (List.length x_4) gc_6, cvar gb_7 (rV 16 (rU UInt64)) (Vector.replicate 16 (0 : UInt64)), cvar gb_17 (rW (PTR gb_14 0)) ()], []⟩ (.cons rfl (.cons rfl .nil)) rfl rfl ?_
 refine JL.nil ?_
 refine JQ.then ?_
 replace hm := bnd_inv hm
 obtain ⟨v_27, hx1, hq1⟩ := hm
 refine JC.seqJ (γ := Unit) (stj := fun q => ⟨[(2, ov (PTR gb_7 0))], [cvar gb_7 (rV 16 (rU UInt64)) v_27, cvar gb_3 (rP (rL (rU UInt8)) (rP rB (rP rB r0))) (x_10, (x_11, (x_12, ()))), cown go_5 (rU UInt8) x_4 (List.length x_4) gc_6], []⟩) (fun q => ?_) ?_
 · obtain _ := q
   refine JC.at ⟨[(2, ov (PTR gb_7 0))], [cvar gb_7 (rV 16 (rU UInt64)) v_27, cvar gb_3 (rP (rL (rU UInt8)) (rP rB (rP rB r0))) (x_10, (x_11, (x_12, ()))), cown go_5 (rU UInt8) x_4 (List.length x_4) gc_6], []⟩ ?_
   refine JC.seq ?_
   refine JC.region ?_
   refine jc (op_loadA (j := 0) lb tA50 (.tmp rfl) rfl (Comp.self (rV 16 (rU UInt64)) v_27) rfl) ?_
   refine jc (op_storeA (j := 0) tA50 (.tmp rfl) (.tmp rfl) rfl (UpdR.self (by rfl)) rfl) ?_
   refine JL.nil ?_
   refine JQ.then ?_
   refine JC.ret ?_
   replace hq1 := Option.some.inj hq1
   subst hq1
   refine JQ.pre (Imp.var (j := 1) (q := r_wire_Reader) (y := (wire_Reader.mk x_10 x_11 x_12)) rfl (Wk.st Wk.refl)) ?_
   exact JQ.done (js := [1, 1]) (ss := [.val (A (rV 16 (rU UInt64)) v_27)]) () (.inl rfl) (.nil rfl) rfl (.cons (.cellA (j := 0) tA50 rfl rfl) .nil) rfl rfl rfl
 · refine JC.seq ?_
   refine JC.region ?_
   refine jc (op_move lb .cI) ?_
   refine JL.nil ?_
   refine JQ.then ?_
   refine JC.block ?_
   refine JC.pre (Imp.frz (j := 1) rfl (ImpK.var (j := 0) (q := (rP (rW (HL go_15 (rU UInt8) v_13 gc_16)) (rP rB (rP rB r0)))) (y := ((), (true, (true, ())))) rfl (Wk.pair Wk.own (Wk.pair Wk.refl (Wk.pair Wk.refl Wk.refl))) ImpK.refl)) ?_
   refine JC.pre (Imp.var (j := 0) (q := r_wire_Reader) (y := (wire_Reader.mk v_13 true true)) rfl (Wk.st (Wk.pair Wk.hl (Wk.pair Wk.refl (Wk.pair Wk.refl Wk.refl))))) ?_
   refine JC.pre ?_ (JC.loop (γ := Unit) (stf := fun s q => ⟨[(2, ov (PTR gb_7 0)), (6, ov (CLO 48 [PTR gb_17 0])), (16, ov (S (rI .i64) s.2.2))], [cvar gb_7 (rV 16 (rU UInt64)) s.1, cvar gb_17 (rW (PTR gb_14 0)) (), cvar gb_14 r_wire_Reader s.2.1, cvar gb_3 (rP (rL (rU UInt8)) (rP rB (rP rB r0))) (x_10, (x_11, (x_12, ()))), cown go_5 (rU UInt8) x_4 (List.length x_4) gc_6], []⟩) (q := ()) hx1 ?_)
   · exact (Imp.norm (js := [4, 4, 0, 1, 1]) rfl (.cons rfl (.cons rfl (.cons rfl .nil))))
   · intro s q x hx hr
     obtain ⟨v_18, x_19, x_20⟩ := s
     obtain _ := q
     change wire_Reader_Vector.b1 k v_18 x_19 x_20 = some x at hx
     unfold wire_Reader_Vector.b1 at hx
     refine JC.at ⟨[(2, ov (PTR gb_7 0)), (6, ov (CLO 48 [PTR gb_17 0])), (16, ov (S (rI .i64) x_20))], [cvar gb_7 (rV 16 (rU UInt64)) v_18, cvar gb_17 (rW (PTR gb_14 0)) (), cvar gb_14 r_wire_Reader x_19, cvar gb_3 (rP (rL (rU UInt8)) (rP rB (rP rB r0))) (x_10, (x_11, (x_12, ()))), cown go_5 (rU UInt8) x_4 (List.length x_4) gc_6], []⟩ ?_
     refine JC.seq ?_
     refine JC.region ?_
     replace hx := lt1_inv hx
     obtain ⟨v_21, hv_v_21, hx⟩ := hx
     refine jc (op_cmpI lb (.tmp rfl) .cI (congrArg some hv_v_21)) ?_
     refine JL.nil ?_
     refine JQ.then ?_
     refine JC.seq ?_
     replace hx := iteB_inv hx
     rcases hx with ⟨hc3, hx⟩ | ⟨hc3, hx⟩
     · refine JC.condT (.tmp rfl) hc3 ?_
       refine JC.skip ?_
       refine JQ.then ?_
       refine JC.seq ?_
       refine JC.block ?_
       refine JC.seq ?_
       refine JC.region ?_
       refine jc (op_move lb (.tmp rfl)) ?_
       refine jc (op_assign lb (.tmp rfl)) ?_
       refine JL.nil ?_
       refine JQ.then ?_
       refine JC.region ?_
       refine jc (op_move lb (.tmp rfl)) ?_
       refine jc (op_move lb (.tmp rfl)) ?_
       replace hx := bnd_inv hx
       obtain ⟨⟨v_22, x_23⟩, hv_v_22, hx⟩ := hx
       refine jx (op_call (js := [1, 1]) ld cl48 (sim_wire_Reader_Vector_1'2 k x_19 gb_17 gb_14 (v_22, x_23) hv_v_22) (.tmp rfl) .nil rfl) (fun _ => ?_)
       replace hx := bnd_inv hx
       obtain ⟨i_24, hv_i_24, hx⟩ := hx
       refine jc (op_indexAddrIF lb tr50 (.tmp rfl) (.tmp rfl) hv_i_24) ?_
       replace hx := lt1_inv hx
       obtain ⟨v_25, hv_v_25, hx⟩ := hx
       refine jc (op_storeS (j := 2) tS22 (.tmp rfl) (.tmp rfl) rfl rfl (Upd.at (Comp.self (rV 16 (rU UInt64)) v_18) i_24.2 rfl (Upd.self (rV 16 (rU UInt64)) v_18 _)).R hv_v_25) ?_
       refine JL.sub ⟨[(2, ov (PTR gb_7 0)), (6, ov (CLO 48 [PTR gb_17 0])), (16, ov (S (rI .i64) x_20))], [cvar gb_17 (rW (PTR gb_14 0)) (), cvar gb_14 r_wire_Reader x_23, cvar gb_7 (rV 16 (rU UInt64)) v_25, cvar gb_3 (rP (rL (rU UInt8)) (rP rB (rP rB r0))) (x_10, (x_11, (x_12, ()))), cown go_5 (rU UInt8) x_4 (List.length x_4) gc_6], []⟩ (.cons rfl (.cons rfl (.cons rfl .nil))) rfl rfl ?_
       refine JL.nil ?_
       refine JQ.outNB ?_
       refine JQ.then ?_
       refine JC.region ?_
       replace hx := lt1_inv hx
       obtain ⟨v_26, hv_v_26, hx⟩ := hx
       refine jc (op_arI lb (.tmp rfl) .cI (congrArg some hv_v_26)) ?_
       refine jc (op_move lb (.tmp rfl)) ?_
       refine JL.nil ?_
       replace hx := Option.some.inj hx
       first | subst hx | clear hx
       exact JQ.next () rfl (Imp.norm (js := [2, 0, 0, 0, 0]) rfl (.cons rfl (.cons rfl (.cons rfl .nil))))
     · refine JC.condF (.tmp rfl) hc3 ?_
       refine JC.exit ?_
       refine JQ.outX ?_
       replace hx := Option.some.inj hx
       first | subst hx | clear hx
       have ht := hr _ rfl
       have hq2 := congrArg some ht
       clear hr ht
       refine JQ.outX ?_
       refine JQ.here ?_
       replace hq2 := Option.some.inj hq2
       first | subst hq2 | clear hq2
       exact JQ.join () (Imp.norm (js := [0, 2, 2]) rfl (.cons rfl .nil))

theorem sim_ref01_Reader_Vector (k : Nat) (r_1 : ref01_Reader) (gb_2 : Nat) (r : (Vector UInt64 16) × ref01_Reader) (hm : ref01_Reader_Vector k r_1 = some r) : Sim Try.prog 45 [PTR gb_2 0] [cvar gb_2 r_ref01_Reader r_1] (γ := Unit) (fun q => [cvar gb_2 r_ref01_Reader r.2]) (fun q => .one (.val (A (rV 16 (rU UInt64)) r.1))) := by
 unfold ref01_Reader_Vector at hm
 refine Sim.of Try.func45 rfl rfl (Nat.le_of_ble_eq_true rfl) (fun e0 w0 => ?_)
 refine JC.at ⟨[(0, ov (PTR gb_2 0))], [cvar gb_2 r_ref01_Reader r_1], []⟩ ?_
 refine JC.seq ?_
 refine JC.region ?_
 refine jx (op_alloc lb tZ50 zr50) (fun q => ?_)
 obtain ⟨gb_3, hqq⟩ : ∃ z, z = q := ⟨_, rfl⟩
 subst hqq
 refine JL.nil ?_
 refine JQ.then ?_
 refine JC.seq ?_
 refine JC.region ?_
 refine jx (op_alloc lb tZ50 zr50) (fun q => ?_)
 obtain ⟨gb_4, hqq⟩ : ∃ z, z = q := ⟨_, rfl⟩
 subst hqq
 refine JL.nil ?_
 refine JQ.then ?_
 refine JC.seq ?_
 refine JC.region ?_
 refine jc (op_move lb (.tmp rfl)) ?_
 replace hm := bnd_inv hm
 obtain ⟨⟨v_5, x_6⟩, hv_v_5, hm⟩ := hm
 refine jx (op_call (js := [0]) ld cl46 (sim_ref01_Reader_Bytes k (128 : Int) r_1 gb_2 (v_5, x_6) hv_v_5) .func (.cons (.tmp rfl) (.cons .cI .nil)) rfl) (fun _ => ?_)
 refine jc (op_assign lb (.tmp rfl)) ?_
 refine JL.nil ?_
 refine JQ.then ?_
 replace hm := bnd_inv hm
 obtain ⟨v_19, hx1, hq1⟩ := hm
 refine JC.seqJ (γ := Unit) (stj := fun q => ⟨[(2, ov (PTR gb_3 0)), (3, ov (PTR gb_4 0))], [cvar gb_3 (rV 16 (rU UInt64)) (Vector.replicate 16 (0 : UInt64)), cvar gb_4 (rV 16 (rU UInt64)) v_19, cvar gb_2 r_ref01_Reader x_6], []⟩) (fun q => ?_) ?_
 · obtain _ := q
   refine JC.at ⟨[(2, ov (PTR gb_3 0)), (3, ov (PTR gb_4 0))], [cvar gb_3 (rV 16 (rU UInt64)) (Vector.replicate 16 (0 : UInt64)), cvar gb_4 (rV 16 (rU UInt64)) v_19, cvar gb_2 r_ref01_Reader x_6], []⟩ ?_
   refine JC.seq ?_
   refine JC.region ?_
   refine jc (op_loadA (j := 1) lb tA50 (.tmp rfl) rfl (Comp.self (rV 16 (rU UInt64)) v_19) rfl) ?_
   refine jc (op_storeA (j := 0) tA50 (.tmp rfl) (.tmp rfl) rfl (UpdR.self (by rfl)) rfl) ?_
   refine JL.nil ?_
   refine JQ.then ?_
   refine JC.ret ?_
   replace hq1 := Option.some.inj hq1
   subst hq1
   exact JQ.done (js := [2]) (ss := [.val (A (rV 16 (rU UInt64)) v_19)]) () (.inl rfl) (.nil rfl) rfl (.cons (.cellA (j := 0) tA50 rfl rfl) .nil) rfl rfl rfl
 · refine JC.seq ?_
   refine JC.region ?_
   refine jc (op_assign lb .cI) ?_
   refine JL.sub ⟨[(2, ov (PTR gb_3 0)), (3, ov (PTR gb_4 0)), (4, ov (S (rL (rU UInt8)) v_5)), (5, ov (S (rI .i64) (0 : Int)))], [cvar gb_2 r_ref01_Reader x_6, cvar gb_3 (rV 16 (rU UInt64)) (Vector.replicate 16 (0 : UInt64)), cvar gb_4 (rV 16 (rU UInt64)) (Vector.replicate 16 (0 : UInt64))], []⟩ (.cons rfl (.cons rfl (.cons rfl (.cons rfl .nil)))) rfl rfl ?_
   refine JL.nil ?_
   refine JQ.then ?_
   refine JC.block ?_
   refine JC.pre ?_ (JC.loop (γ := Unit) (stf := fun s q => ⟨[(2, ov (PTR gb_3 0)), (3, ov (PTR gb_4 0)), (4, ov (S (rL (rU UInt8)) v_5)), (5, ov (S (rI .i64) s.2))], [cvar gb_3 (rV 16 (rU UInt64)) (Vector.replicate 16 (0 : UInt64)), cvar gb_4 (rV 16 (rU UInt64)) s.1, cvar gb_2 r_ref01_Reader x_6], []⟩) (q := ()) hx1 ?_)
   · exact (Imp.norm (js := [1, 1, 0]) rfl (.cons rfl (.cons rfl (.cons rfl (.cons rfl .nil)))))
   · intro s q x hx hr
     obtain ⟨v_7, i_8⟩ := s
     obtain _ := q
     change ref01_Reader_Vector.b1 k v_5 v_7 i_8 = some x at hx
     unfold ref01_Reader_Vector.b1 at hx
     refine JC.at ⟨[(2, ov (PTR gb_3 0)), (3, ov (PTR gb_4 0)), (4, ov (S (rL (rU UInt8)) v_5)), (5, ov (S (rI .i64) i_8))], [cvar gb_3 (rV 16 (rU UInt64)) (Vector.replicate 16 (0 : UInt64)), cvar gb_4 (rV 16 (rU UInt64)) v_7, cvar gb_2 r_ref01_Reader x_6], []⟩ ?_
     refine JC.seq ?_
     refine JC.seq ?_
     refine JC.region ?_
     refine jc (op_move lb (.tmp rfl)) ?_
     refine jc (op_move lb (.tmp rfl)) ?_
     refine jc (op_lenL lb tu23 (.tmp rfl)) ?_
     replace hx := bnd_inv hx
     obtain ⟨v_9, hv_v_9, hx⟩ := hx
     refine jc (op_arI lb (.tmp rfl) .cI hv_v_9) ?_
     replace hx := lt1_inv hx
     obtain ⟨v_10, hv_v_10, hx⟩ := hx
     refine jc (op_cmpI lb (.tmp rfl) (.tmp rfl) (congrArg some hv_v_10)) ?_
     refine JL.nil ?_
     refine JQ.then ?_
     replace hx := iteB_inv hx
     rcases hx with ⟨hc3, hx⟩ | ⟨hc3, hx⟩
     · refine JC.condT (.tmp rfl) hc3 ?_
       refine JC.skip ?_
       refine JQ.then ?_
       refine JC.seq ?_
       refine JC.block ?_
       refine JC.region ?_
       refine jc (op_move lb (.tmp rfl)) ?_
       refine jc (op_move lb (.tmp rfl)) ?_
       refine jc (op_move lb (.tmp rfl)) ?_
       replace hx := lt1_inv hx
       obtain ⟨v_11, hv_v_11, hx⟩ := hx
       refine jc (op_arI lb .cI (.tmp rfl) (congrArg some hv_v_11)) ?_
       refine jc (op_move lb (.tmp rfl)) ?_
       replace hx := lt1_inv hx
       obtain ⟨v_12, hv_v_12, hx⟩ := hx
       refine jc (op_arI lb .cI (.tmp rfl) (congrArg some hv_v_12)) ?_
       replace hx := lt1_inv hx
       obtain ⟨v_13, hv_v_13, hx⟩ := hx
       refine jc (op_arI lb (.tmp rfl) .cI (congrArg some hv_v_13)) ?_
       refine JL.sub ⟨[(2, ov (PTR gb_3 0)), (3, ov (PTR gb_4 0)), (4, ov (S (rL (rU UInt8)) v_5)), (5, ov (S (rI .i64) i_8)), (15, ov (S (rI .i64) i_8)), (16, ov (S (rL (rU UInt8)) v_5)), (18, ov (S (rI .i64) v_11)), (21, ov (S (rI .i64) v_13))], [cvar gb_3 (rV 16 (rU UInt64)) (Vector.replicate 16 (0 : UInt64)), cvar gb_4 (rV 16 (rU UInt64)) v_7, cvar gb_2 r_ref01_Reader x_6], []⟩ (.cons rfl (.cons rfl (.cons rfl (.cons rfl (.cons rfl (.cons rfl (.cons rfl (.cons rfl .nil)))))))) rfl rfl ?_
       replace hx := bnd_inv hx
       obtain ⟨v_14, hv_v_14, hx⟩ := hx
       refine jc (op_sliceLg lb tu23 tz5 (.tmp rfl) (.some (.tmp rfl)) (.some (.tmp rfl)) hv_v_14) ?_
       replace hx := bnd_inv hx
       obtain ⟨v_15, hv_v_15, hx⟩ := hx
       refine jx (op_call (js := []) ld cl15 (sim_ref01_Get k v_14 v_15 hv_v_15) .func (.cons (.tmp rfl) .nil) rfl) (fun _ => ?_)
       replace hx := bnd_inv hx
       obtain ⟨i_16, hv_i_16, hx⟩ := hx
       refine jc (op_indexAddrIF lb tr50 (.tmp rfl) (.tmp rfl) hv_i_16) ?_
       replace hx := lt1_inv hx
       obtain ⟨v_17, hv_v_17, hx⟩ := hx
       refine jc (op_storeS (j := 1) tS22 (.tmp rfl) (.tmp rfl) rfl rfl (Upd.at (Comp.self (rV 16 (rU UInt64)) v_7) i_16.2 rfl (Upd.self (rV 16 (rU UInt64)) v_7 _)).R hv_v_17) ?_
       refine JL.nil ?_
       refine JQ.outNB ?_
       refine JQ.then ?_
       refine JC.region ?_
       refine jc (op_move lb (.tmp rfl)) ?_
       replace hx := lt1_inv hx
       obtain ⟨v_18, hv_v_18, hx⟩ := hx
       refine jc (op_arI lb (.tmp rfl) .cI (congrArg some hv_v_18)) ?_
       refine jc (op_assign lb (.tmp rfl)) ?_
       refine JL.nil ?_
       replace hx := Option.some.inj hx
       first | subst hx | clear hx
       exact JQ.next () rfl (Imp.norm (js := [0, 0, 0]) rfl (.cons rfl (.cons rfl (.cons rfl (.cons rfl .nil)))))
     · refine JC.condF (.tmp rfl) hc3 ?_
       refine JC.exit ?_
       refine JQ.outX ?_
       replace hx := Option.some.inj hx
       first | subst hx | clear hx
       have ht := hr _ rfl
       have hq2 := congrArg some ht
       clear hr ht
       refine JQ.outX ?_
       refine JQ.here ?_
       replace hq2 := Option.some.inj hq2
       first | subst hq2 | clear hq2
       exact JQ.join () (Imp.norm (js := [0, 0, 0]) rfl (.cons rfl (.cons rfl .nil)))

theorem sim_wire_Reader_Bytes'2 (k : Nat) (n_1 : Int) (is_2 : Bool) (made_3 : Bool) (x_5 : (List UInt8)) (gb_4 : Nat) (go_6 : Option Nat) (gc_7 : Nat) (r : (List UInt8) × wire_Reader) (hm : wire_Reader_Bytes'2 k n_1 is_2 made_3 x_5 = some r) : Sim Try.prog 40 [PTR gb_4 0, S (rI .i64) n_1] [cvar gb_4 (rP (rW (HDR go_6 0 (List.length x_5) gc_7)) (rP rB (rP rB r0))) ((), (is_2, (made_3, ()))), cown go_6 (rU UInt8) x_5 0 gc_7] (γ := Unit) (fun q => [cvar gb_4 r_wire_Reader r.2, cown go_6 (rU UInt8) x_5 (List.length x_5) gc_7]) (fun q => .one (.val (S (rL (rU UInt8)) r.1))) := by
 unfold wire_Reader_Bytes'2 at hm
 refine Sim.of Try.func40 rfl rfl (Nat.le_of_ble_eq_true rfl) (fun e0 w0 => ?_)
 refine JC.at ⟨[(0, ov (PTR gb_4 0)), (1, ov (S (rI .i64) n_1))], [cvar gb_4 (rP (rW (HDR go_6 0 (List.length x_5) gc_7)) (rP rB (rP rB r0))) ((), (is_2, (made_3, ()))), cown go_6 (rU UInt8) x_5 0 gc_7], []⟩ ?_
 refine JC.seq ?_
 refine JC.region ?_
 refine jc (op_assign lb HasO.nilH) ?_
 refine JL.nil ?_
 refine JQ.then ?_
 refine JC.seq ?_
 refine JC.region ?_
 refine jc (op_move lb (.tmp rfl)) ?_
 refine jc (op_move lb (.tmp rfl)) ?_
 replace hm := bnd_inv hm
 obtain ⟨⟨v_8, v_9, x_10, x_11, x_12⟩, hv_v_8, hm⟩ := hm
 refine jx (op_call (js := [0, 0]) ld cl47 (sim_wire_Reader_take k n_1 is_2 made_3 x_5 gb_4 go_6 gc_7 (v_8, v_9, x_10, x_11, x_12) hv_v_8) .func (.cons (.tmp rfl) (.cons (.tmp rfl) .nil)) rfl) (fun _ => ?_)
 refine jc (op_move lb (.tmp rfl)) ?_
 refine jc (op_extract (i := 0) lb (.tmp rfl) rfl) ?_
 refine jc (op_extract (i := 1) lb (.tmp rfl) rfl) ?_
 refine jc (op_assign lb (.tmp rfl)) ?_
 refine jc (op_assign lb (.tmp rfl)) ?_
 refine JL.nil ?_
 refine JQ.then ?_
 refine JC.seq ?_
 refine JC.region ?_
 refine jc (op_move lb (.tmp rfl)) ?_
 refine JL.sub ⟨[(4, ov (HDR none 0 0 0)), (13, ov (S (rL (rU UInt8)) v_8))], [cvar gb_4 (rP (rL (rU UInt8)) (rP rB (rP rB r0))) (x_10, (x_11, (x_12, ()))), cown go_6 (rU UInt8) x_5 (List.length x_5) gc_7], []⟩ (.cons rfl (.cons rfl .nil)) rfl rfl ?_
 refine jc (op_assign lb (.tmp rfl)) ?_
 refine JL.nil ?_
 refine JQ.then ?_
 refine JC.ret ?_
 replace hm := Option.some.inj hm
 subst hm
 refine JQ.pre (Imp.var (j := 0) (q := r_wire_Reader) (y := (wire_Reader.mk x_10 x_11 x_12)) rfl (Wk.st Wk.refl)) ?_
 exact JQ.done (js := [0, 0]) (ss := [.val (S (rL (rU UInt8)) v_8)]) () (.inl rfl) (.nil rfl) rfl (.cons (.tmp rfl) .nil) rfl rfl rfl

end Go.Proofs.Ytkbkdfcakpbojaa
