/- Walks. -/
import Derived.Test.YtkbkdfcakpbojaaT
import Derived.Test.YtkbkdfcakpbojaaW0
import Derived.Test.YtkbkdfcakpbojaaW1
import Derived.Test.YtkbkdfcakpbojaaW3
namespace Go.Proofs.Ytkbkdfcakpbojaa
open Go Fw
set_option linter.unusedVariables false
set_option maxRecDepth 100000
set_option maxHeartbeats 4000000

theorem sim_wire_Read'2 (k : Nat) (o_1 : Nat) (n_2 : Nat) (x_3 : (List UInt8)) (go_4 : Option Nat) (gc_5 : Nat) (r : (List UInt8) × Nat) (hm : wire_Read'2 k o_1 n_2 x_3 = some r) : Sim Try.prog 16 [HDX go_4 (o_1 * 1) n_2] [cown go_4 (rU UInt8) x_3 0 gc_5] (γ := Nat × Option Nat × Nat) (fun q => [cvar q.1 (rP (rW (HDX q.2.1 ((0) * 1) r.2)) (rP rB (rP rB r0))) ((), (true, (true, ()))), cown q.2.1 (rU UInt8) r.1 0 q.2.2, cown go_4 (rU UInt8) x_3 0 gc_5]) (fun q => .one (.val (PTR q.1 0))) := by
 unfold wire_Read'2 at hm
 refine Sim.of Try.func16 rfl rfl (Nat.le_of_ble_eq_true rfl) (fun e0 w0 => ?_)
 refine JC.at ⟨[(0, ov (HDX go_4 (o_1 * 1) n_2))], [cown go_4 (rU UInt8) x_3 0 gc_5], []⟩ ?_
 refine JC.seq ?_
 refine JC.region ?_
 refine jc (op_assign lb (HasO.const (p := PTO none) fun _ => rfl)) ?_
 refine JL.nil ?_
 refine JQ.then ?_
 refine JC.seq ?_
 refine JC.region ?_
 refine jc (op_move lb (.tmp rfl)) ?_
 replace hm := bnd_inv hm
 obtain ⟨v_6, hv_v_6, hm⟩ := hm
 refine jx (op_call (js := [0]) ld cl41 (sim_slices_Clonebyte_byte'2 k o_1 n_2 x_3 go_4 gc_5 v_6 hv_v_6) .func (.cons (.tmp rfl) .nil) rfl) (fun q => ?_)
 obtain ⟨go_7, gc_8⟩ := q
 refine JL.pre (Imp.slot (s := 4) (q := HDE go_7 (List.length v_6) gc_8) rfl wkTE) ?_
 refine JL.pre (Imp.slotX (s := 4) (j := 0) rfl rfl) ?_
 refine JL.pre (Imp.slot (s := 4) (q := HDX go_7 ((0) * 1) (List.length v_6)) rfl wkX0) ?_
 refine jc (op_build lb tZ75 zr75 tp75 (.S (off := 0) (s := rW (HDX go_7 ((0) * 1) (List.length v_6))) (u := ()) rfl (HasO.wk (q := S (rW (HDX go_7 ((0) * 1) (List.length v_6))) ()) (.tmp rfl) wkV) rfl ((UpdR.fst (UpdR.self (by rfl))).at (by rfl)) (.S (off := 1) rfl .cB rfl ((UpdR.snd (UpdR.fst (UpdR.self (by rfl)))).at (by rfl)) (.S (off := 2) rfl .cB rfl ((UpdR.snd (UpdR.snd (UpdR.fst (UpdR.self (by rfl))))).at (by rfl)) .nil))) rfl) ?_
 refine jx (op_boxA lb (.tmp rfl)) (fun q => ?_)
 obtain ⟨gb_9, hqq⟩ : ∃ z, z = q := ⟨_, rfl⟩
 subst hqq
 refine jc (op_assign lb (.tmp rfl)) ?_
 refine JL.nil ?_
 refine JQ.then ?_
 refine JC.ret ?_
 replace hm := Option.some.inj hm
 subst hm
 exact JQ.done (js := [2, 0, 0]) (ss := [.val (PTR gb_9 0)]) (gb_9, go_7, gc_8) (.inl rfl) (.nil rfl) rfl (.cons (.tmp rfl) .nil) rfl rfl rfl

theorem sim_wire_Reader_Dot (k : Nat) (o_1 : Nat) (n_2 : Nat) (is_3 : Bool) (made_4 : Bool) (x_6 : (List UInt8)) (gb_5 : Nat) (go_7 : Option Nat) (gc_8 : Nat) (r : api_Dot × Nat × Nat × Bool × Bool) (hm : wire_Reader_Dot k o_1 n_2 is_3 made_4 x_6 = some r) : Sim Try.prog 27 [PTR gb_5 0] [cvar gb_5 (rP (rW (HDX go_7 (o_1 * 1) n_2)) (rP rB (rP rB r0))) ((), (is_3, (made_4, ()))), cown go_7 (rU UInt8) x_6 0 gc_8] (γ := Unit) (fun q => [cvar gb_5 (rP (rW (HDX go_7 (r.2.1 * 1) r.2.2.1)) (rP rB (rP rB r0))) ((), (r.2.2.2.1, (r.2.2.2.2, ()))), cown go_7 (rU UInt8) x_6 0 gc_8]) (fun q => .one (.val (A r_api_Dot r.1))) := by
 unfold wire_Reader_Dot at hm
 refine Sim.of Try.func27 rfl rfl (Nat.le_of_ble_eq_true rfl) (fun e0 w0 => ?_)
 refine JC.at ⟨[(0, ov (PTR gb_5 0))], [cvar gb_5 (rP (rW (HDX go_7 (o_1 * 1) n_2)) (rP rB (rP rB r0))) ((), (is_3, (made_4, ()))), cown go_7 (rU UInt8) x_6 0 gc_8], []⟩ ?_
 refine JC.seq ?_
 refine JC.region ?_
 refine jx (op_alloc lb tZ48 zr48) (fun q => ?_)
 obtain ⟨gb_9, hqq⟩ : ∃ z, z = q := ⟨_, rfl⟩
 subst hqq
 refine JL.nil ?_
 refine JQ.then ?_
 refine JC.seq ?_
 refine JC.region ?_
 refine jc (op_move lb (.tmp rfl)) ?_
 replace hm := bnd_inv hm
 obtain ⟨⟨v_10, v_11, x_12, x_13, x_14, x_15, x_16⟩, hv_v_10, hm⟩ := hm
 refine jx (op_call (js := [0, 0]) ld cl47 (sim_wire_Reader_take k (9 : Int) o_1 n_2 is_3 made_4 x_6 gb_5 go_7 gc_8 (v_10, v_11, x_12, x_13, x_14, x_15, x_16) hv_v_10) .func (.cons (.tmp rfl) (.cons .cI .nil)) rfl) (fun _ => ?_)
 refine jc (op_move lb (.tmp rfl)) ?_
 refine jc (op_extract (i := 0) lb (.tmp rfl) rfl) ?_
 refine jc (op_extract (i := 1) lb (.tmp rfl) rfl) ?_
 refine jc (op_assign lb (.tmp rfl)) ?_
 refine jc (op_assign lb (.tmp rfl)) ?_
 refine JL.sub ⟨[(2, ov (PTR gb_9 0)), (3, ov (HDX go_7 (v_10 * 1) v_11))], [cown go_7 (rU UInt8) x_6 0 gc_8, cvar gb_5 (rP (rW (HDX go_7 (x_13 * 1) x_14)) (rP rB (rP rB r0))) ((), (x_15, (x_16, ()))), cvar gb_9 r_api_Dot (api_Dot.mk (0 : Int) (0 : UInt64))], []⟩ (.cons rfl (.cons rfl .nil)) rfl rfl ?_
 refine JL.nil ?_
 refine JQ.then ?_
 refine JC.seq ?_
 refine JC.region ?_
 refine jc (op_move lb (.tmp rfl)) ?_
 replace hm := bnd_inv hm
 obtain ⟨⟨v_17, x_18⟩, hv_v_17, hm⟩ := hm
 refine jx (op_call (js := [0]) ld cl16 (sim_wire_Read'2 k v_10 v_11 x_6 go_7 gc_8 (v_17, x_18) hv_v_17) .func (.cons (.tmp rfl) .nil) rfl) (fun q => ?_)
 obtain ⟨gb_19, go_20, gc_21⟩ := q
 refine jc (op_assign lb (.tmp rfl)) ?_
 refine JL.nil ?_
 refine JQ.then ?_
 refine JC.seq ?_
 refine JC.region ?_
 refine jc (op_move lb (.tmp rfl)) ?_
 replace hm := bnd_inv hm
 obtain ⟨⟨v_22, x_23, x_24, x_25, x_26⟩, hv_v_22, hm⟩ := hm
 refine jx (op_call (js := [0, 0]) ld cl39 (sim_wire_Reader_Number k (1 : Int) (0) x_18 true true v_17 gb_19 go_20 gc_21 (v_22, x_23, x_24, x_25, x_26) hv_v_22) .func (.cons (.tmp rfl) (.cons .cI .nil)) rfl) (fun _ => ?_)
 replace hm := lt1_inv hm
 obtain ⟨v_27, hv_v_27, hm⟩ := hm
 refine jc (op_convUI lb tu22 tu3 (.tmp rfl) hv_v_27) ?_
 refine jc (op_move lb (.tmp rfl)) ?_
 replace hm := bnd_inv hm
 obtain ⟨⟨v_28, x_29, x_30, x_31, x_32⟩, hv_v_28, hm⟩ := hm
 refine jx (op_call (js := [0, 0]) ld cl39 (sim_wire_Reader_Number k (8 : Int) x_23 x_24 x_25 x_26 v_17 gb_19 go_20 gc_21 (v_28, x_29, x_30, x_31, x_32) hv_v_28) .func (.cons (.tmp rfl) (.cons .cI .nil)) rfl) (fun _ => ?_)
 refine JL.nrm ⟨[(2, ov (PTR gb_9 0)), (15, ov (S (rI .i64) v_27)), (17, ov (S (rU UInt64) v_28))], [cown go_7 (rU UInt8) x_6 0 gc_8, cvar gb_5 (rP (rW (HDX go_7 (x_13 * 1) x_14)) (rP rB (rP rB r0))) ((), (x_15, (x_16, ()))), cvar gb_9 r_api_Dot (api_Dot.mk (0 : Int) (0 : UInt64))], []⟩ [2, 2, 2] rfl (.cons rfl (.cons rfl (.cons rfl .nil))) rfl ?_
 refine jc (op_build lb tZ48 zs48 tp48 (.S (off := 0) rfl (.tmp rfl) rfl ((UpdR.fst (UpdR.self (by rfl))).at (by rfl)) (.S (off := 1) rfl (.tmp rfl) rfl ((UpdR.snd (UpdR.fst (UpdR.self (by rfl)))).at (by rfl)) .nil)) rfl) ?_
 refine jc (op_storeA (j := 2) tA48 (.tmp rfl) (.tmp rfl) rfl (UpdR.self (by rfl)) rfl) ?_
 refine JL.nil ?_
 refine JQ.then ?_
 refine JC.ret ?_
 replace hm := Option.some.inj hm
 subst hm
 refine JQ.pre (Imp.var (j := 2) (q := r_api_Dot) (y := (api_Dot.mk v_27 v_28)) rfl (Wk.st Wk.refl)) ?_
 exact JQ.done (js := [1, 0]) (ss := [.val (A r_api_Dot (api_Dot.mk v_27 v_28))]) () (.inl rfl) (.nil rfl) rfl (.cons (.cellA (j := 2) tA48 rfl rfl) .nil) rfl rfl rfl

theorem sim_ref01_Reader_Dot (k : Nat) (r_1 : ref01_Reader) (gb_2 : Nat) (r : api_Dot × ref01_Reader) (hm : ref01_Reader_Dot k r_1 = some r) : Sim Try.prog 44 [PTR gb_2 0] [cvar gb_2 r_ref01_Reader r_1] (γ := Unit) (fun q => [cvar gb_2 r_ref01_Reader r.2]) (fun q => .one (.val (A r_api_Dot r.1))) := by
 unfold ref01_Reader_Dot at hm
 refine Sim.of Try.func44 rfl rfl (Nat.le_of_ble_eq_true rfl) (fun e0 w0 => ?_)
 refine JC.at ⟨[(0, ov (PTR gb_2 0))], [cvar gb_2 r_ref01_Reader r_1], []⟩ ?_
 refine JC.seq ?_
 refine JC.region ?_
 refine jx (op_alloc lb tZ48 zr48) (fun q => ?_)
 obtain ⟨gb_3, hqq⟩ : ∃ z, z = q := ⟨_, rfl⟩
 subst hqq
 refine JL.nil ?_
 refine JQ.then ?_
 refine JC.seq ?_
 refine JC.region ?_
 refine jc (op_move lb (.tmp rfl)) ?_
 replace hm := bnd_inv hm
 obtain ⟨⟨v_4, x_5⟩, hv_v_4, hm⟩ := hm
 refine jx (op_call (js := [0]) ld cl46 (sim_ref01_Reader_Bytes k (9 : Int) r_1 gb_2 (v_4, x_5) hv_v_4) .func (.cons (.tmp rfl) (.cons .cI .nil)) rfl) (fun _ => ?_)
 refine jc (op_assign lb (.tmp rfl)) ?_
 refine JL.nil ?_
 refine JQ.then ?_
 refine JC.seq ?_
 refine JC.seq ?_
 refine JC.region ?_
 refine jc (op_move lb (.tmp rfl)) ?_
 refine jc (op_lenL lb tu23 (.tmp rfl)) ?_
 replace hm := lt1_inv hm
 obtain ⟨v_6, hv_v_6, hm⟩ := hm
 refine jc (op_cmpI lb (.tmp rfl) .cI (congrArg some hv_v_6)) ?_
 refine JL.nil ?_
 refine JQ.then ?_
 replace hm := iteB_inv hm
 rcases hm with ⟨hc1, hm⟩ | ⟨hc1, hm⟩
 · refine JC.condT (.tmp rfl) hc1 ?_
   refine JC.seq ?_
   refine JC.region ?_
   refine jc (op_build lb tZ48 zv48 tp48 .nil rfl) ?_
   refine JL.sub ⟨[(2, ov (PTR gb_3 0)), (9, ov (A r_api_Dot (api_Dot.mk (0 : Int) (0 : UInt64))))], [cvar gb_2 r_ref01_Reader x_5, cvar gb_3 r_api_Dot (api_Dot.mk (0 : Int) (0 : UInt64))], []⟩ (.cons rfl (.cons rfl .nil)) rfl rfl ?_
   refine jc (op_storeA (j := 1) tA48 (.tmp rfl) (.tmp rfl) rfl (UpdR.self (by rfl)) rfl) ?_
   refine JL.nil ?_
   refine JQ.then ?_
   refine JC.ret ?_
   refine JQ.outR ?_
   replace hm := Option.some.inj hm
   subst hm
   exact JQ.done (js := [0]) (ss := [.val (A r_api_Dot (api_Dot.mk (0 : Int) (0 : UInt64)))]) () (.inl rfl) (.nil rfl) rfl (.cons (.cellA (j := 1) tA48 rfl rfl) .nil) rfl rfl rfl
 · refine JC.condF (.tmp rfl) hc1 ?_
   refine JC.skip ?_
   refine JQ.then ?_
   refine JC.seq ?_
   replace hm := bnd_inv hm
   obtain ⟨v_7, hv_v_7, hm⟩ := hm
   replace hm := lt1_inv hm
   obtain ⟨v_8, hv_v_8, hm⟩ := hm
   replace hm := bnd_inv hm
   obtain ⟨v_9, hv_v_9, hm⟩ := hm
   replace hm := bnd_inv hm
   obtain ⟨v_10, hv_v_10, hm⟩ := hm
   refine JC.anyE (kl := []) (kk := 0) (base := [(2, ov (PTR gb_3 0)), (3, ov (S (rL (rU UInt8)) v_4))])
       (fs := fun γ => [⟨some 10, ov (S (rL (rU UInt8)) v_4)⟩, ⟨some 11, ov (PT (rU UInt8) v_7)⟩, ⟨some 12, ov (S (rU UInt8) v_7)⟩, ⟨some 13, ov (S (rI .i64) v_8)⟩, ⟨some 14, ov (S (rL (rU UInt8)) v_4)⟩, ⟨some 15, ov (S (rL (rU UInt8)) v_9)⟩, ⟨some 16, ov (S (rU UInt64) v_10)⟩, ⟨some 17, ov (A (rP (rI .i64) (rP (rU UInt64) r0)) (v_8, (v_10, ())))⟩, ⟨none, .one .any⟩])
       (rs := fun γ => [⟨cvar gb_2 r_ref01_Reader x_5, none, none, []⟩, ⟨cvar gb_3 r_api_Dot (api_Dot.mk (0 : Int) (0 : UInt64)), none, (some 8), []⟩, ⟨cvar gb_3 (rP (rI .i64) (rP (rU UInt64) r0)) (v_8, (v_10, ())), (some 8), none, []⟩])
       (ds := [10, 11, 12, 13, 14, 15, 16, 17]) (bs := [2, 3]) (afts := [[], [], [], [], [], [], [], [], []]) (js := [0, 0]) mixed (.cons rfl (.cons rfl .nil)) (fun _ => rfl)
       (by
      refine dS 1 (fun γ ρ B hb hd => op_move lb (.tmp (hb 3 _ rfl))) ?_
      refine dS 2 (fun γ ρ B hb hd => op_indexAddrLg lb tu23 tz5 (.tmp (hl hd 0 10 rfl)) .cI hv_v_7) ?_
      refine dS 3 (fun γ ρ B hb hd => op_loadPSg lb tS5 rfl (.tmp (hl hd 1 11 rfl)) rfl) ?_
      refine dS 4 (fun γ ρ B hb hd => op_convUI lb tu5 tu3 (.tmp (hl hd 2 12 rfl)) hv_v_8) ?_
      refine dS 5 (fun γ ρ B hb hd => op_move lb (.tmp (hb 3 _ rfl))) ?_
      refine dS 6 (fun γ ρ B hb hd => op_sliceLg lb tu23 tz5 (.tmp (hl hd 4 14 rfl)) (.some .cI) .none hv_v_9) ?_
      refine dS 7 (fun γ ρ B hb hd => (op_call (js := []) ld cl15 (sim_ref01_Get k v_9 v_10 hv_v_10) .func (.cons (.tmp (hl hd 5 15 rfl)) .nil) rfl).post (fun _ => Imp.refl)) ?_
      refine dS 8 (fun γ ρ B hb hd => op_build lb tZ48 zs48 tp48 (.S (off := 0) rfl (.tmp (hl hd 3 13 rfl)) rfl ((UpdR.fst (UpdR.self (by rfl))).at (by rfl)) (.S (off := 1) rfl (.tmp (hl hd 6 16 rfl)) rfl ((UpdR.snd (UpdR.fst (UpdR.self (by rfl)))).at (by rfl)) .nil)) rfl) ?_
      refine DSteps.cons (j := 9) rfl (fun _ => rfl) (.run (fun γ ρ B hb hd => ⟨.none, OpStep.at ⟨ρ, (cvar gb_3 r_api_Dot (api_Dot.mk (0 : Int) (0 : UInt64))) :: B, _⟩ (setO ⟨ρ, (cvar gb_3 (rP (rI .i64) (rP (rU UInt64) r0)) (v_8, (v_10, ()))) :: B, _⟩ _ _) (op_storeA (j := 0) tA48 (.tmp (hb 2 _ rfl)) (.tmp (hl hd 7 17 rfl)) rfl (UpdR.self (by rfl)) rfl)⟩)) ?_
      exact DSteps.nil)
       (by decide +kernel) (fun _ => rfl) rfl (fun _ => rfl) (fun _ => rfl) rfl (by decide) (by decide) (by decide +kernel) (fun _ d h => by cases h)
       (ρ' := fun γ => [(2, ov (PTR gb_3 0))])
       (X' := fun γ => [cvar gb_2 r_ref01_Reader x_5, cvar gb_3 (rP (rI .i64) (rP (rU UInt64) r0)) (v_8, (v_10, ()))])
       (fun γ ρ hb hd => (.cons (hb 2 _ rfl (by decide)) .nil)) (fun _ => rfl) (fun γ => ?_)
   refine JQ.at ⟨[(2, ov (PTR gb_3 0))], [cvar gb_2 r_ref01_Reader x_5, cvar gb_3 (rP (rI .i64) (rP (rU UInt64) r0)) (v_8, (v_10, ()))], []⟩ ?_
   refine JQ.then ?_
   refine JC.ret ?_
   replace hm := Option.some.inj hm
   subst hm
   refine JQ.pre (Imp.var (j := 1) (q := r_api_Dot) (y := (api_Dot.mk v_8 v_10)) rfl (Wk.st Wk.refl)) ?_
   exact JQ.done (js := [0]) (ss := [.val (A r_api_Dot (api_Dot.mk v_8 v_10))]) () (.inl rfl) (.nil rfl) rfl (.cons (.cellA (j := 1) tA48 rfl rfl) .nil) rfl rfl rfl

theorem sim_wire_Reader_Vector_1 (k : Nat) (o_2 : Nat) (n_3 : Nat) (is_4 : Bool) (made_5 : Bool) (x_7 : (List UInt8)) (gb_1 : Nat) (gb_6 : Nat) (go_8 : Option Nat) (gc_9 : Nat) (r : UInt64 × Nat × Nat × Bool × Bool) (hm : wire_Reader_Vector_1 k o_2 n_3 is_4 made_5 x_7 = some r) : Sim Try.prog 48 [PTR gb_1 0] [cvar gb_1 (rW (PTR gb_6 0)) (), cvar gb_6 (rP (rW (HDX go_8 (o_2 * 1) n_3)) (rP rB (rP rB r0))) ((), (is_4, (made_5, ()))), cown go_8 (rU UInt8) x_7 0 gc_9] (γ := Unit) (fun q => [cvar gb_1 (rW (PTR gb_6 0)) (), cvar gb_6 (rP (rW (HDX go_8 (r.2.1 * 1) r.2.2.1)) (rP rB (rP rB r0))) ((), (r.2.2.2.1, (r.2.2.2.2, ()))), cown go_8 (rU UInt8) x_7 0 gc_9]) (fun q => .one (.val (S (rU UInt64) r.1))) := by
 unfold wire_Reader_Vector_1 at hm
 refine Sim.of Try.func48 rfl rfl (Nat.le_of_ble_eq_true rfl) (fun e0 w0 => ?_)
 refine JC.at ⟨[(0, ov (PTR gb_1 0))], [cvar gb_1 (rW (PTR gb_6 0)) (), cvar gb_6 (rP (rW (HDX go_8 (o_2 * 1) n_3)) (rP rB (rP rB r0))) ((), (is_4, (made_5, ()))), cown go_8 (rU UInt8) x_7 0 gc_9], []⟩ ?_
 refine JC.seq ?_
 refine JC.region ?_
 refine jc (op_assign lb (HasO.cU (x := (0 : UInt64)) rfl (by decide))) ?_
 refine JL.nil ?_
 refine JQ.then ?_
 refine JC.seq ?_
 refine JC.region ?_
 refine jc (op_loadW (j := 0) lb tS36 (.tmp rfl) rfl (Comp.self (rW (PTR gb_6 0)) ())) ?_
 replace hm := bnd_inv hm
 obtain ⟨⟨v_10, x_11, x_12, x_13, x_14⟩, hv_v_10, hm⟩ := hm
 refine jx (op_call (js := [1, 1]) ld cl39 (sim_wire_Reader_Number k (8 : Int) o_2 n_3 is_4 made_5 x_7 gb_6 go_8 gc_9 (v_10, x_11, x_12, x_13, x_14) hv_v_10) .func (.cons (.tmp rfl) (.cons .cI .nil)) rfl) (fun _ => ?_)
 refine jc (op_assign lb (.tmp rfl)) ?_
 refine JL.nil ?_
 refine JQ.then ?_
 refine JC.ret ?_
 replace hm := Option.some.inj hm
 subst hm
 exact JQ.done (js := [2, 0, 0]) (ss := [.val (S (rU UInt64) v_10)]) () (.inl rfl) (.nil rfl) rfl (.cons (.tmp rfl) .nil) rfl rfl rfl

theorem sim_wire_Reader_Vector (k : Nat) (o_1 : Nat) (n_2 : Nat) (is_3 : Bool) (made_4 : Bool) (x_6 : (List UInt8)) (gb_5 : Nat) (go_7 : Option Nat) (gc_8 : Nat) (r : (Vector UInt64 16) × Nat × Nat × Bool × Bool) (hm : wire_Reader_Vector k o_1 n_2 is_3 made_4 x_6 = some r) : Sim Try.prog 28 [PTR gb_5 0] [cvar gb_5 (rP (rW (HDX go_7 (o_1 * 1) n_2)) (rP rB (rP rB r0))) ((), (is_3, (made_4, ()))), cown go_7 (rU UInt8) x_6 0 gc_8] (γ := Unit) (fun q => [cvar gb_5 (rP (rW (HDX go_7 (r.2.1 * 1) r.2.2.1)) (rP rB (rP rB r0))) ((), (r.2.2.2.1, (r.2.2.2.2, ()))), cown go_7 (rU UInt8) x_6 0 gc_8]) (fun q => .one (.val (A (rV 16 (rU UInt64)) r.1))) := by
 unfold wire_Reader_Vector at hm
 refine Sim.of Try.func28 rfl rfl (Nat.le_of_ble_eq_true rfl) (fun e0 w0 => ?_)
 refine JC.at ⟨[(0, ov (PTR gb_5 0))], [cvar gb_5 (rP (rW (HDX go_7 (o_1 * 1) n_2)) (rP rB (rP rB r0))) ((), (is_3, (made_4, ()))), cown go_7 (rU UInt8) x_6 0 gc_8], []⟩ ?_
 refine JC.seq ?_
 refine JC.region ?_
 refine jx (op_alloc lb tZ50 zr50) (fun q => ?_)
 obtain ⟨gb_9, hqq⟩ : ∃ z, z = q := ⟨_, rfl⟩
 subst hqq
 refine JL.nil ?_
 refine JQ.then ?_
 refine JC.seq ?_
 refine JC.region ?_
 refine jc (op_move lb (.tmp rfl)) ?_
 replace hm := bnd_inv hm
 obtain ⟨⟨v_10, v_11, x_12, x_13, x_14, x_15, x_16⟩, hv_v_10, hm⟩ := hm
 refine jx (op_call (js := [0, 0]) ld cl47 (sim_wire_Reader_take k (128 : Int) o_1 n_2 is_3 made_4 x_6 gb_5 go_7 gc_8 (v_10, v_11, x_12, x_13, x_14, x_15, x_16) hv_v_10) .func (.cons (.tmp rfl) (.cons .cI .nil)) rfl) (fun _ => ?_)
 refine jc (op_move lb (.tmp rfl)) ?_
 refine jc (op_extract (i := 0) lb (.tmp rfl) rfl) ?_
 refine jc (op_extract (i := 1) lb (.tmp rfl) rfl) ?_
 refine jc (op_assign lb (.tmp rfl)) ?_
 refine jc (op_assign lb (.tmp rfl)) ?_
 refine JL.sub ⟨[(2, ov (PTR gb_9 0)), (3, ov (HDX go_7 (v_10 * 1) v_11))], [cown go_7 (rU UInt8) x_6 0 gc_8, cvar gb_5 (rP (rW (HDX go_7 (x_13 * 1) x_14)) (rP rB (rP rB r0))) ((), (x_15, (x_16, ()))), cvar gb_9 (rV 16 (rU UInt64)) (Vector.replicate 16 (0 : UInt64))], []⟩ (.cons rfl (.cons rfl .nil)) rfl rfl ?_
 refine JL.nil ?_
 refine JQ.then ?_
 refine JC.seq ?_
 refine JC.region ?_
 refine jc (op_move lb (.tmp rfl)) ?_
 replace hm := bnd_inv hm
 obtain ⟨⟨v_17, x_18⟩, hv_v_17, hm⟩ := hm
 refine jx (op_call (js := [0]) ld cl16 (sim_wire_Read'2 k v_10 v_11 x_6 go_7 gc_8 (v_17, x_18) hv_v_17) .func (.cons (.tmp rfl) .nil) rfl) (fun q => ?_)
 obtain ⟨gb_19, go_20, gc_21⟩ := q
 refine jx (op_alloc lb tZ36 zr36) (fun q => ?_)
 obtain ⟨gb_22, hqq⟩ : ∃ z, z = q := ⟨_, rfl⟩
 subst hqq
 refine jc (op_storeW (j := 5) tS36 (.tmp rfl) (.tmp rfl) rfl (UpdR.self (by rfl)) rfl) ?_
 refine JL.nil ?_
 refine JQ.then ?_
 refine JC.seq ?_
 refine JC.region ?_
 refine jc (op_makeFunc lb (.cons (.tmp rfl) .nil)) ?_
 refine jc (op_assign lb (.tmp rfl)) ?_
 refine JL.sub ⟨[(2, ov (PTR gb_9 0)), (6, ov (CLO 48 [PTR gb_22 0]))], [cvar gb_19 (rP (rW (HDX go_20 ((0) * 1) x_18)) (rP rB (rP rB r0))) ((), (true, (true, ()))), cown go_20 (rU UInt8) v_17 0 gc_21, cown go_7 (rU UInt8) x_6 0 gc_8, cvar gb_5 (rP (rW (HDX go_7 (x_13 * 1) x_14)) (rP rB (rP rB r0))) ((), (x_15, (x_16, ()))), cvar gb_9 (rV 16 (rU UInt64)) (Vector.replicate 16 (0 : UInt64)), cvar gb_22 (rW (PTR gb_19 0)) ()], []⟩ (.cons rfl (.cons rfl .nil)) rfl rfl ?_
 refine JL.nil ?_
 refine JQ.then ?_
 replace hm := bnd_inv hm
 obtain ⟨v_38, hx1, hq1⟩ := hm
 refine JC.seqJ (γ := Unit) (stj := fun q => ⟨[(2, ov (PTR gb_9 0))], [cvar gb_9 (rV 16 (rU UInt64)) v_38, cvar gb_5 (rP (rW (HDX go_7 (x_13 * 1) x_14)) (rP rB (rP rB r0))) ((), (x_15, (x_16, ()))), cown go_7 (rU UInt8) x_6 0 gc_8], []⟩) (fun q => ?_) ?_
 · obtain _ := q
   refine JC.at ⟨[(2, ov (PTR gb_9 0))], [cvar gb_9 (rV 16 (rU UInt64)) v_38, cvar gb_5 (rP (rW (HDX go_7 (x_13 * 1) x_14)) (rP rB (rP rB r0))) ((), (x_15, (x_16, ()))), cown go_7 (rU UInt8) x_6 0 gc_8], []⟩ ?_
   refine JC.seq ?_
   refine JC.region ?_
   refine jc (op_loadA (j := 0) lb tA50 (.tmp rfl) rfl (Comp.self (rV 16 (rU UInt64)) v_38) rfl) ?_
   refine jc (op_storeA (j := 0) tA50 (.tmp rfl) (.tmp rfl) rfl (UpdR.self (by rfl)) rfl) ?_
   refine JL.nil ?_
   refine JQ.then ?_
   refine JC.ret ?_
   replace hq1 := Option.some.inj hq1
   subst hq1
   exact JQ.done (js := [1, 1]) (ss := [.val (A (rV 16 (rU UInt64)) v_38)]) () (.inl rfl) (.nil rfl) rfl (.cons (.cellA (j := 0) tA50 rfl rfl) .nil) rfl rfl rfl
 · refine JC.seq ?_
   refine JC.region ?_
   refine jc (op_move lb .cI) ?_
   refine JL.nil ?_
   refine JQ.then ?_
   refine JC.block ?_
   refine JC.pre ?_ (JC.loop (γ := Unit) (stf := fun s q => ⟨[(2, ov (PTR gb_9 0)), (6, ov (CLO 48 [PTR gb_22 0])), (16, ov (S (rI .i64) s.2.2.2.2.2))], [cvar gb_9 (rV 16 (rU UInt64)) s.1, cvar gb_22 (rW (PTR gb_19 0)) (), cvar gb_19 (rP (rW (HDX go_20 (s.2.1 * 1) s.2.2.1)) (rP rB (rP rB r0))) ((), (s.2.2.2.1, (s.2.2.2.2.1, ()))), cown go_20 (rU UInt8) v_17 0 gc_21, cvar gb_5 (rP (rW (HDX go_7 (x_13 * 1) x_14)) (rP rB (rP rB r0))) ((), (x_15, (x_16, ()))), cown go_7 (rU UInt8) x_6 0 gc_8], []⟩) (q := ()) hx1 ?_)
   · exact (Imp.norm (js := [4, 4, 0, 0, 1, 0]) rfl (.cons rfl (.cons rfl (.cons rfl .nil))))
   · intro s q x hx hr
     obtain ⟨v_23, x_24, x_25, x_26, x_27, x_28⟩ := s
     obtain _ := q
     change wire_Reader_Vector.b1 k v_17 v_23 x_24 x_25 x_26 x_27 x_28 = some x at hx
     unfold wire_Reader_Vector.b1 at hx
     refine JC.at ⟨[(2, ov (PTR gb_9 0)), (6, ov (CLO 48 [PTR gb_22 0])), (16, ov (S (rI .i64) x_28))], [cvar gb_9 (rV 16 (rU UInt64)) v_23, cvar gb_22 (rW (PTR gb_19 0)) (), cvar gb_19 (rP (rW (HDX go_20 (x_24 * 1) x_25)) (rP rB (rP rB r0))) ((), (x_26, (x_27, ()))), cown go_20 (rU UInt8) v_17 0 gc_21, cvar gb_5 (rP (rW (HDX go_7 (x_13 * 1) x_14)) (rP rB (rP rB r0))) ((), (x_15, (x_16, ()))), cown go_7 (rU UInt8) x_6 0 gc_8], []⟩ ?_
     refine JC.seq ?_
     refine JC.region ?_
     replace hx := lt1_inv hx
     obtain ⟨v_29, hv_v_29, hx⟩ := hx
     refine jc (op_cmpI lb (.tmp rfl) .cI (congrArg some hv_v_29)) ?_
     refine JL.nil ?_
     refine JQ.then ?_
     refine JC.seq ?_
     replace hx := iteB_inv hx
     rcases hx with ⟨hc3, hx⟩ | ⟨hc3, hx⟩
     · refine JC.condT (.tmp rfl) hc3 ?_
       refine JC.skip ?_
       refine JQ.then ?_
       refine JC.seq ?_
       refine JC.block ?_
       refine JC.seq ?_
       refine JC.region ?_
       refine jc (op_move lb (.tmp rfl)) ?_
       refine jc (op_assign lb (.tmp rfl)) ?_
       refine JL.nil ?_
       refine JQ.then ?_
       refine JC.region ?_
       refine jc (op_move lb (.tmp rfl)) ?_
       refine jc (op_move lb (.tmp rfl)) ?_
       replace hx := bnd_inv hx
       obtain ⟨⟨v_30, x_31, x_32, x_33, x_34⟩, hv_v_30, hx⟩ := hx
       refine jx (op_call (js := [1, 1, 1]) ld cl48 (sim_wire_Reader_Vector_1 k x_24 x_25 x_26 x_27 v_17 gb_22 gb_19 go_20 gc_21 (v_30, x_31, x_32, x_33, x_34) hv_v_30) (.tmp rfl) .nil rfl) (fun _ => ?_)
       replace hx := bnd_inv hx
       obtain ⟨i_35, hv_i_35, hx⟩ := hx
       refine jc (op_indexAddrIF lb tr50 (.tmp rfl) (.tmp rfl) hv_i_35) ?_
       replace hx := lt1_inv hx
       obtain ⟨v_36, hv_v_36, hx⟩ := hx
       refine jc (op_storeS (j := 3) tS22 (.tmp rfl) (.tmp rfl) rfl rfl (Upd.at (Comp.self (rV 16 (rU UInt64)) v_23) i_35.2 rfl (Upd.self (rV 16 (rU UInt64)) v_23 _)).R hv_v_36) ?_
       refine JL.sub ⟨[(2, ov (PTR gb_9 0)), (6, ov (CLO 48 [PTR gb_22 0])), (16, ov (S (rI .i64) x_28))], [cvar gb_22 (rW (PTR gb_19 0)) (), cvar gb_19 (rP (rW (HDX go_20 (x_31 * 1) x_32)) (rP rB (rP rB r0))) ((), (x_33, (x_34, ()))), cown go_20 (rU UInt8) v_17 0 gc_21, cvar gb_9 (rV 16 (rU UInt64)) v_36, cvar gb_5 (rP (rW (HDX go_7 (x_13 * 1) x_14)) (rP rB (rP rB r0))) ((), (x_15, (x_16, ()))), cown go_7 (rU UInt8) x_6 0 gc_8], []⟩ (.cons rfl (.cons rfl (.cons rfl .nil))) rfl rfl ?_
       refine JL.nil ?_
       refine JQ.outNB ?_
       refine JQ.then ?_
       refine JC.region ?_
       replace hx := lt1_inv hx
       obtain ⟨v_37, hv_v_37, hx⟩ := hx
       refine jc (op_arI lb (.tmp rfl) .cI (congrArg some hv_v_37)) ?_
       refine jc (op_move lb (.tmp rfl)) ?_
       refine JL.nil ?_
       replace hx := Option.some.inj hx
       first | subst hx | clear hx
       exact JQ.next () rfl (Imp.norm (js := [3, 0, 0, 0, 0, 0]) rfl (.cons rfl (.cons rfl (.cons rfl .nil))))
     · refine JC.condF (.tmp rfl) hc3 ?_
       refine JC.exit ?_
       refine JQ.outX ?_
       replace hx := Option.some.inj hx
       first | subst hx | clear hx
       have ht := hr _ rfl
       have hq2 := congrArg some ht
       clear hr ht
       refine JQ.outX ?_
       refine JQ.here ?_
       replace hq2 := Option.some.inj hq2
       first | subst hq2 | clear hq2
       exact JQ.join () (Imp.norm (js := [0, 3, 3]) rfl (.cons rfl .nil))

theorem sim_ref01_Reader_Vector (k : Nat) (r_1 : ref01_Reader) (gb_2 : Nat) (r : (Vector UInt64 16) × ref01_Reader) (hm : ref01_Reader_Vector k r_1 = some r) : Sim Try.prog 45 [PTR gb_2 0] [cvar gb_2 r_ref01_Reader r_1] (γ := Unit) (fun q => [cvar gb_2 r_ref01_Reader r.2]) (fun q => .one (.val (A (rV 16 (rU UInt64)) r.1))) := by
 unfold ref01_Reader_Vector at hm
 refine Sim.of Try.func45 rfl rfl (Nat.le_of_ble_eq_true rfl) (fun e0 w0 => ?_)
 refine JC.at ⟨[(0, ov (PTR gb_2 0))], [cvar gb_2 r_ref01_Reader r_1], []⟩ ?_
 refine JC.seq ?_
 refine JC.region ?_
 refine jx (op_alloc lb tZ50 zr50) (fun q => ?_)
 obtain ⟨gb_3, hqq⟩ : ∃ z, z = q := ⟨_, rfl⟩
 subst hqq
 refine JL.nil ?_
 refine JQ.then ?_
 refine JC.seq ?_
 refine JC.region ?_
 refine jx (op_alloc lb tZ50 zr50) (fun q => ?_)
 obtain ⟨gb_4, hqq⟩ : ∃ z, z = q := ⟨_, rfl⟩
 subst hqq
 refine JL.nil ?_
 refine JQ.then ?_
 refine JC.seq ?_
 refine JC.region ?_
 refine jc (op_move lb (.tmp rfl)) ?_
 replace hm := bnd_inv hm
 obtain ⟨⟨v_5, x_6⟩, hv_v_5, hm⟩ := hm
 refine jx (op_call (js := [0]) ld cl46 (sim_ref01_Reader_Bytes k (128 : Int) r_1 gb_2 (v_5, x_6) hv_v_5) .func (.cons (.tmp rfl) (.cons .cI .nil)) rfl) (fun _ => ?_)
 refine jc (op_assign lb (.tmp rfl)) ?_
 refine JL.nil ?_
 refine JQ.then ?_
 replace hm := bnd_inv hm
 obtain ⟨v_19, hx1, hq1⟩ := hm
 refine JC.seqJ (γ := Unit) (stj := fun q => ⟨[(2, ov (PTR gb_3 0)), (3, ov (PTR gb_4 0))], [cvar gb_3 (rV 16 (rU UInt64)) (Vector.replicate 16 (0 : UInt64)), cvar gb_4 (rV 16 (rU UInt64)) v_19, cvar gb_2 r_ref01_Reader x_6], []⟩) (fun q => ?_) ?_
 · obtain _ := q
   refine JC.at ⟨[(2, ov (PTR gb_3 0)), (3, ov (PTR gb_4 0))], [cvar gb_3 (rV 16 (rU UInt64)) (Vector.replicate 16 (0 : UInt64)), cvar gb_4 (rV 16 (rU UInt64)) v_19, cvar gb_2 r_ref01_Reader x_6], []⟩ ?_
   refine JC.seq ?_
   refine JC.region ?_
   refine jc (op_loadA (j := 1) lb tA50 (.tmp rfl) rfl (Comp.self (rV 16 (rU UInt64)) v_19) rfl) ?_
   refine jc (op_storeA (j := 0) tA50 (.tmp rfl) (.tmp rfl) rfl (UpdR.self (by rfl)) rfl) ?_
   refine JL.nil ?_
   refine JQ.then ?_
   refine JC.ret ?_
   replace hq1 := Option.some.inj hq1
   subst hq1
   exact JQ.done (js := [2]) (ss := [.val (A (rV 16 (rU UInt64)) v_19)]) () (.inl rfl) (.nil rfl) rfl (.cons (.cellA (j := 0) tA50 rfl rfl) .nil) rfl rfl rfl
 · refine JC.seq ?_
   refine JC.region ?_
   refine jc (op_assign lb .cI) ?_
   refine JL.sub ⟨[(2, ov (PTR gb_3 0)), (3, ov (PTR gb_4 0)), (4, ov (S (rL (rU UInt8)) v_5)), (5, ov (S (rI .i64) (0 : Int)))], [cvar gb_2 r_ref01_Reader x_6, cvar gb_3 (rV 16 (rU UInt64)) (Vector.replicate 16 (0 : UInt64)), cvar gb_4 (rV 16 (rU UInt64)) (Vector.replicate 16 (0 : UInt64))], []⟩ (.cons rfl (.cons rfl (.cons rfl (.cons rfl .nil)))) rfl rfl ?_
   refine JL.nil ?_
   refine JQ.then ?_
   refine JC.block ?_
   refine JC.pre ?_ (JC.loop (γ := Unit) (stf := fun s q => ⟨[(2, ov (PTR gb_3 0)), (3, ov (PTR gb_4 0)), (4, ov (S (rL (rU UInt8)) v_5)), (5, ov (S (rI .i64) s.2))], [cvar gb_3 (rV 16 (rU UInt64)) (Vector.replicate 16 (0 : UInt64)), cvar gb_4 (rV 16 (rU UInt64)) s.1, cvar gb_2 r_ref01_Reader x_6], []⟩) (q := ()) hx1 ?_)
   · exact (Imp.norm (js := [1, 1, 0]) rfl (.cons rfl (.cons rfl (.cons rfl (.cons rfl .nil)))))
   · intro s q x hx hr
     obtain ⟨v_7, i_8⟩ := s
     obtain _ := q
     change ref01_Reader_Vector.b1 k v_5 v_7 i_8 = some x at hx
     unfold ref01_Reader_Vector.b1 at hx
     refine JC.at ⟨[(2, ov (PTR gb_3 0)), (3, ov (PTR gb_4 0)), (4, ov (S (rL (rU UInt8)) v_5)), (5, ov (S (rI .i64) i_8))], [cvar gb_3 (rV 16 (rU UInt64)) (Vector.replicate 16 (0 : UInt64)), cvar gb_4 (rV 16 (rU UInt64)) v_7, cvar gb_2 r_ref01_Reader x_6], []⟩ ?_
     refine JC.seq ?_
     refine JC.seq ?_
     refine JC.region ?_
     refine jc (op_move lb (.tmp rfl)) ?_
     refine jc (op_move lb (.tmp rfl)) ?_
     refine jc (op_lenL lb tu23 (.tmp rfl)) ?_
     replace hx := bnd_inv hx
     obtain ⟨v_9, hv_v_9, hx⟩ := hx
     refine jc (op_arI lb (.tmp rfl) .cI hv_v_9) ?_
     replace hx := lt1_inv hx
     obtain ⟨v_10, hv_v_10, hx⟩ := hx
     refine jc (op_cmpI lb (.tmp rfl) (.tmp rfl) (congrArg some hv_v_10)) ?_
     refine JL.nil ?_
     refine JQ.then ?_
     replace hx := iteB_inv hx
     rcases hx with ⟨hc3, hx⟩ | ⟨hc3, hx⟩
     · refine JC.condT (.tmp rfl) hc3 ?_
       refine JC.skip ?_
       refine JQ.then ?_
       refine JC.seq ?_
       refine JC.block ?_
       refine JC.region ?_
       refine jc (op_move lb (.tmp rfl)) ?_
       refine jc (op_move lb (.tmp rfl)) ?_
       refine jc (op_move lb (.tmp rfl)) ?_
       replace hx := lt1_inv hx
       obtain ⟨v_11, hv_v_11, hx⟩ := hx
       refine jc (op_arI lb .cI (.tmp rfl) (congrArg some hv_v_11)) ?_
       refine jc (op_move lb (.tmp rfl)) ?_
       replace hx := lt1_inv hx
       obtain ⟨v_12, hv_v_12, hx⟩ := hx
       refine jc (op_arI lb .cI (.tmp rfl) (congrArg some hv_v_12)) ?_
       replace hx := lt1_inv hx
       obtain ⟨v_13, hv_v_13, hx⟩ := hx
       refine jc (op_arI lb (.tmp rfl) .cI (congrArg some hv_v_13)) ?_
       refine JL.sub ⟨[(2, ov (PTR gb_3 0)), (3, ov (PTR gb_4 0)), (4, ov (S (rL (rU UInt8)) v_5)), (5, ov (S (rI .i64) i_8)), (15, ov (S (rI .i64) i_8)), (16, ov (S (rL (rU UInt8)) v_5)), (18, ov (S (rI .i64) v_11)), (21, ov (S (rI .i64) v_13))], [cvar gb_3 (rV 16 (rU UInt64)) (Vector.replicate 16 (0 : UInt64)), cvar gb_4 (rV 16 (rU UInt64)) v_7, cvar gb_2 r_ref01_Reader x_6], []⟩ (.cons rfl (.cons rfl (.cons rfl (.cons rfl (.cons rfl (.cons rfl (.cons rfl (.cons rfl .nil)))))))) rfl rfl ?_
       replace hx := bnd_inv hx
       obtain ⟨v_14, hv_v_14, hx⟩ := hx
       refine jc (op_sliceLg lb tu23 tz5 (.tmp rfl) (.some (.tmp rfl)) (.some (.tmp rfl)) hv_v_14) ?_
       replace hx := bnd_inv hx
       obtain ⟨v_15, hv_v_15, hx⟩ := hx
       refine jx (op_call (js := []) ld cl15 (sim_ref01_Get k v_14 v_15 hv_v_15) .func (.cons (.tmp rfl) .nil) rfl) (fun _ => ?_)
       replace hx := bnd_inv hx
       obtain ⟨i_16, hv_i_16, hx⟩ := hx
       refine jc (op_indexAddrIF lb tr50 (.tmp rfl) (.tmp rfl) hv_i_16) ?_
       replace hx := lt1_inv hx
       obtain ⟨v_17, hv_v_17, hx⟩ := hx
       refine jc (op_storeS (j := 1) tS22 (.tmp rfl) (.tmp rfl) rfl rfl (Upd.at (Comp.self (rV 16 (rU UInt64)) v_7) i_16.2 rfl (Upd.self (rV 16 (rU UInt64)) v_7 _)).R hv_v_17) ?_
       refine JL.nil ?_
       refine JQ.outNB ?_
       refine JQ.then ?_
       refine JC.region ?_
       refine jc (op_move lb (.tmp rfl)) ?_
       replace hx := lt1_inv hx
       obtain ⟨v_18, hv_v_18, hx⟩ := hx
       refine jc (op_arI lb (.tmp rfl) .cI (congrArg some hv_v_18)) ?_
       refine jc (op_assign lb (.tmp rfl)) ?_
       refine JL.nil ?_
       replace hx := Option.some.inj hx
       first | subst hx | clear hx
       exact JQ.next () rfl (Imp.norm (js := [0, 0, 0]) rfl (.cons rfl (.cons rfl (.cons rfl (.cons rfl .nil)))))
     · refine JC.condF (.tmp rfl) hc3 ?_
       refine JC.exit ?_
       refine JQ.outX ?_
       replace hx := Option.some.inj hx
       first | subst hx | clear hx
       have ht := hr _ rfl
       have hq2 := congrArg some ht
       clear hr ht
       refine JQ.outX ?_
       refine JQ.here ?_
       replace hq2 := Option.some.inj hq2
       first | subst hq2 | clear hq2
       exact JQ.join () (Imp.norm (js := [0, 0, 0]) rfl (.cons rfl (.cons rfl .nil)))

end Go.Proofs.Ytkbkdfcakpbojaa
