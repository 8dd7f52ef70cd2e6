/- Walks. -/
import Derived.Test.YthoggbomakolkaaT
import Derived.Test.YthoggbomakolkaaW15
import Derived.Test.YthoggbomakolkaaW16
import Derived.Test.YthoggbomakolkaaW7
namespace Go.Proofs.Ythoggbomakolkaa
open Go Fw
set_option linter.unusedVariables false
set_option maxRecDepth 100000
set_option maxHeartbeats 4000000

theorem sim_ref09_Of (k : Nat) (b_1 : (List UInt8)) (r : api_Event × Bool) (hm : ref09_Of k b_1 = some r) : Sim Try.prog 22 [S (rL (rU UInt8)) b_1] [] (γ := Unit) (fun q => []) (fun q => .tup [.val (A r_api_Event r.1), .val (S rB r.2)]) := by
 unfold ref09_Of at hm
 refine Sim.of Try.func22 rfl rfl (Nat.le_of_ble_eq_true rfl) (fun e0 w0 => ?_)
 refine JC.at ⟨[(0, ov (S (rL (rU UInt8)) b_1))], [], []⟩ ?_
 refine JC.seq ?_
 refine JC.region ?_
 refine jx (op_alloc lb tZ38 zr38) (fun q => ?_)
 obtain ⟨gb_2, hqq⟩ : ∃ z, z = q := ⟨_, rfl⟩
 subst hqq
 refine jc (op_assign lb .cB) ?_
 refine JL.nil ?_
 refine JQ.then ?_
 refine JC.seq ?_
 refine JC.region ?_
 refine jc (op_move lb (.tmp rfl)) ?_
 refine jc (op_build lb tZ77 zr77 tp77 (.S (off := 0) rfl (.tmp rfl) rfl ((UpdR.fst (UpdR.self (by rfl))).at (by rfl)) .nil) rfl) ?_
 refine jx (op_boxA lb (.tmp rfl)) (fun q => ?_)
 obtain ⟨gb_3, hqq⟩ : ∃ z, z = q := ⟨_, rfl⟩
 subst hqq
 refine jc (op_assign lb (.tmp rfl)) ?_
 refine JL.nil ?_
 refine JQ.then ?_
 refine JC.seq ?_
 refine JC.region ?_
 refine jx (op_alloc lb tZ38 zr38) (fun q => ?_)
 obtain ⟨gb_4, hqq⟩ : ∃ z, z = q := ⟨_, rfl⟩
 subst hqq
 refine JL.sub ⟨[(2, ov (PTR gb_2 0)), (4, ov (PTR gb_3 0)), (5, ov (PTR gb_4 0))], [cvar gb_2 (rP r_api_Dot (rP rS (rP (rW (HDR none 0 0 0)) (rP (rV 16 (rU UInt64)) (rP (rW (HDR none 0 0 0)) r0))))) ((api_Dot.mk (0 : Int) (0 : UInt64)), (([] : (List UInt8)), ((), ((Vector.replicate 16 (0 : UInt64)), ((), ()))))), cvar gb_3 (rP (rL (rU UInt8)) (rP (rI .i64) (rP rB r0))) (b_1, ((0 : Int), (false, ()))), cvar gb_4 (rP r_api_Dot (rP rS (rP (rW (HDR none 0 0 0)) (rP (rV 16 (rU UInt64)) (rP (rW (HDR none 0 0 0)) r0))))) ((api_Dot.mk (0 : Int) (0 : UInt64)), (([] : (List UInt8)), ((), ((Vector.replicate 16 (0 : UInt64)), ((), ())))))], []⟩ (.cons rfl (.cons rfl (.cons rfl .nil))) rfl rfl ?_
 refine JL.nil ?_
 refine JQ.then ?_
 refine JC.seq ?_
 refine JC.region ?_
 refine jc (op_move lb (.tmp rfl)) ?_
 replace hm := bnd_inv hm
 obtain ⟨⟨v_5, x_6⟩, hv_v_5, hm⟩ := hm
 refine JL.pre (Imp.var (j := 1) (q := r_ref01_Reader) (y := (ref01_Reader.mk b_1 (0 : Int) false)) rfl (Wk.st Wk.refl)) ?_
 refine jx (op_call (js := [1]) ld cl46 (sim_ref01_Reader_Dot k (ref01_Reader.mk b_1 (0 : Int) false) gb_3 (v_5, x_6) hv_v_5) .func (.cons (.tmp rfl) .nil) rfl) (fun _ => ?_)
 refine jc (op_fieldAddr (off := 0) lb tf38_0 (.tmp rfl)) ?_
 refine jc (op_storeA (j := 2) tA24 (.tmp rfl) (.tmp rfl) rfl ((UpdR.fst (UpdR.self (by rfl))).at (by change 0 = (0 + 0); omega)) rfl) ?_
 refine JL.nil ?_
 refine JQ.then ?_
 refine JC.seq ?_
 refine JC.region ?_
 refine jc (op_move lb (.tmp rfl)) ?_
 replace hm := bnd_inv hm
 obtain ⟨⟨v_7, x_8⟩, hv_v_7, hm⟩ := hm
 refine jx (op_call (js := [0]) ld cl47 (sim_ref01_Reader_Blob k x_6 gb_3 (v_7, x_8) hv_v_7) .func (.cons (.tmp rfl) .nil) rfl) (fun _ => ?_)
 refine JL.sub ⟨[(2, ov (PTR gb_2 0)), (4, ov (PTR gb_3 0)), (5, ov (PTR gb_4 0)), (16, ov (S (rL (rU UInt8)) v_7))], [cvar gb_3 r_ref01_Reader x_8, cvar gb_2 (rP r_api_Dot (rP rS (rP (rW (HDR none 0 0 0)) (rP (rV 16 (rU UInt64)) (rP (rW (HDR none 0 0 0)) r0))))) ((api_Dot.mk (0 : Int) (0 : UInt64)), (([] : (List UInt8)), ((), ((Vector.replicate 16 (0 : UInt64)), ((), ()))))), cvar gb_4 (rP r_api_Dot (rP rS (rP (rW (HDR none 0 0 0)) (rP (rV 16 (rU UInt64)) (rP (rW (HDR none 0 0 0)) r0))))) (v_5, (([] : (List UInt8)), ((), ((Vector.replicate 16 (0 : UInt64)), ((), ())))))], []⟩ (.cons rfl (.cons rfl (.cons rfl (.cons rfl .nil)))) rfl rfl ?_
 refine jc (op_convBS lb tu35 tu5 tu9 (.tmp rfl)) ?_
 refine jc (op_fieldAddr (off := 2) lb tf38_1 (.tmp rfl)) ?_
 refine jc (op_storeS (j := 2) tS9 (.tmp rfl) (.tmp rfl) rfl rfl ((UpdR.snd (UpdR.fst (UpdR.self (by rfl)))).at (by change (2 + 0) = (0 + 2); omega)) rfl) ?_
 refine JL.nil ?_
 refine JQ.then ?_
 refine JC.seq ?_
 refine JC.region ?_
 refine jc (op_move lb (.tmp rfl)) ?_
 replace hm := bnd_inv hm
 obtain ⟨⟨v_9, x_10⟩, hv_v_9, hm⟩ := hm
 refine jx (op_call (js := [0]) ld cl47 (sim_ref01_Reader_Blob k x_8 gb_3 (v_9, x_10) hv_v_9) .func (.cons (.tmp rfl) .nil) rfl) (fun _ => ?_)
 refine jc (op_fieldAddr (off := 3) lb tf38_2 (.tmp rfl)) ?_
 refine jc (op_storeS (j := 2) tS35 (.tmp rfl) (.tmp rfl) rfl rfl ((UpdR.snd (UpdR.snd (UpdR.fst (UpdR.self (by rfl))))).at (by change (2 + (1 + 0)) = (0 + 3); omega)) rfl) ?_
 refine JL.sub ⟨[(2, ov (PTR gb_2 0)), (4, ov (PTR gb_3 0)), (5, ov (PTR gb_4 0))], [cvar gb_3 r_ref01_Reader x_10, cvar gb_2 (rP r_api_Dot (rP rS (rP (rW (HDR none 0 0 0)) (rP (rV 16 (rU UInt64)) (rP (rW (HDR none 0 0 0)) r0))))) ((api_Dot.mk (0 : Int) (0 : UInt64)), (([] : (List UInt8)), ((), ((Vector.replicate 16 (0 : UInt64)), ((), ()))))), cvar gb_4 (rP r_api_Dot (rP rS (rP (rL (rU UInt8)) (rP (rV 16 (rU UInt64)) (rP (rW (HDR none 0 0 0)) r0))))) (v_5, (v_7, (v_9, ((Vector.replicate 16 (0 : UInt64)), ((), ())))))], []⟩ (.cons rfl (.cons rfl (.cons rfl .nil))) rfl rfl ?_
 refine JL.nil ?_
 refine JQ.then ?_
 refine JC.seq ?_
 refine JC.region ?_
 refine jc (op_move lb (.tmp rfl)) ?_
 replace hm := bnd_inv hm
 obtain ⟨⟨v_11, x_12⟩, hv_v_11, hm⟩ := hm
 refine jx (op_call (js := [0]) ld cl48 (sim_ref01_Reader_Vector k x_10 gb_3 (v_11, x_12) hv_v_11) .func (.cons (.tmp rfl) .nil) rfl) (fun _ => ?_)
 refine jc (op_fieldAddr (off := 4) lb tf38_3 (.tmp rfl)) ?_
 refine jc (op_storeA (j := 2) tA26 (.tmp rfl) (.tmp rfl) rfl ((UpdR.snd (UpdR.snd (UpdR.snd (UpdR.fst (UpdR.self (by rfl)))))).at (by change (2 + (1 + (1 + 0))) = (0 + 4); omega)) rfl) ?_
 refine JL.nil ?_
 refine JQ.then ?_
 refine JC.seq ?_
 refine JC.region ?_
 refine jc (op_move lb (.tmp rfl)) ?_
 replace hm := bnd_inv hm
 obtain ⟨⟨v_13, x_14⟩, hv_v_13, hm⟩ := hm
 refine jx (op_call (js := [0]) ld cl49 (sim_ref01_Reader_Number k (2 : Int) x_12 gb_3 (v_13, x_14) hv_v_13) .func (.cons (.tmp rfl) (.cons .cI .nil)) rfl) (fun _ => ?_)
 refine JL.sub ⟨[(2, ov (PTR gb_2 0)), (4, ov (PTR gb_3 0)), (5, ov (PTR gb_4 0)), (26, ov (S (rU UInt64) v_13))], [cvar gb_3 r_ref01_Reader x_14, cvar gb_2 (rP r_api_Dot (rP rS (rP (rW (HDR none 0 0 0)) (rP (rV 16 (rU UInt64)) (rP (rW (HDR none 0 0 0)) r0))))) ((api_Dot.mk (0 : Int) (0 : UInt64)), (([] : (List UInt8)), ((), ((Vector.replicate 16 (0 : UInt64)), ((), ()))))), cvar gb_4 (rP r_api_Dot (rP rS (rP (rL (rU UInt8)) (rP (rV 16 (rU UInt64)) (rP (rW (HDR none 0 0 0)) r0))))) (v_5, (v_7, (v_9, (v_11, ((), ())))))], []⟩ (.cons rfl (.cons rfl (.cons rfl (.cons rfl .nil)))) rfl rfl ?_
 replace hm := lt1_inv hm
 obtain ⟨v_15, hv_v_15, hm⟩ := hm
 refine jc (op_convUI lb tu22 tu3 (.tmp rfl) hv_v_15) ?_
 refine jc (op_assign lb (.tmp rfl)) ?_
 refine JL.nil ?_
 refine JQ.then ?_
 replace hm := bnd_inv hm
 obtain ⟨⟨r_35, To_36⟩, hx1, hq1⟩ := hm
 refine JC.seqJ (γ := Option Nat × Nat) (stj := fun q => ⟨[(2, ov (PTR gb_2 0)), (4, ov (PTR gb_3 0)), (5, ov (PTR gb_4 0))], [cvar gb_2 (rP r_api_Dot (rP rS (rP (rW (HDR none 0 0 0)) (rP (rV 16 (rU UInt64)) (rP (rW (HDR none 0 0 0)) r0))))) ((api_Dot.mk (0 : Int) (0 : UInt64)), (([] : (List UInt8)), ((), ((Vector.replicate 16 (0 : UInt64)), ((), ()))))), cvar gb_3 r_ref01_Reader r_35, cvar gb_4 (rP r_api_Dot (rP rS (rP (rL (rU UInt8)) (rP (rV 16 (rU UInt64)) (rP (rW (HDR q.1 0 (List.length To_36) q.2)) r0))))) (v_5, (v_7, (v_9, (v_11, ((), ()))))), cown q.1 r_api_Dest To_36 0 q.2], []⟩) (fun q => ?_) ?_
 · obtain ⟨go_37, gc_38⟩ := q
   refine JC.at ⟨[(2, ov (PTR gb_2 0)), (4, ov (PTR gb_3 0)), (5, ov (PTR gb_4 0))], [cvar gb_2 (rP r_api_Dot (rP rS (rP (rW (HDR none 0 0 0)) (rP (rV 16 (rU UInt64)) (rP (rW (HDR none 0 0 0)) r0))))) ((api_Dot.mk (0 : Int) (0 : UInt64)), (([] : (List UInt8)), ((), ((Vector.replicate 16 (0 : UInt64)), ((), ()))))), cvar gb_3 r_ref01_Reader r_35, cvar gb_4 (rP r_api_Dot (rP rS (rP (rL (rU UInt8)) (rP (rV 16 (rU UInt64)) (rP (rW (HDR go_37 0 (List.length To_36) gc_38)) r0))))) (v_5, (v_7, (v_9, (v_11, ((), ()))))), cown go_37 r_api_Dest To_36 0 gc_38], []⟩ ?_
   refine JC.seq ?_
   replace hq1 := bnd_inv hq1
   obtain ⟨x_43, hx7, hq7⟩ := hq1
   refine JC.seqJ (γ := Unit) (stj := fun q => ⟨[(2, ov (PTR gb_2 0)), (5, ov (PTR gb_4 0)), (60, ov (S rB x_43))], [cvar gb_2 (rP r_api_Dot (rP rS (rP (rW (HDR none 0 0 0)) (rP (rV 16 (rU UInt64)) (rP (rW (HDR none 0 0 0)) r0))))) ((api_Dot.mk (0 : Int) (0 : UInt64)), (([] : (List UInt8)), ((), ((Vector.replicate 16 (0 : UInt64)), ((), ()))))), cvar gb_4 (rP r_api_Dot (rP rS (rP (rL (rU UInt8)) (rP (rV 16 (rU UInt64)) (rP (rW (HDR go_37 0 (List.length To_36) gc_38)) r0))))) (v_5, (v_7, (v_9, (v_11, ((), ()))))), cown go_37 r_api_Dest To_36 (List.length To_36) gc_38], []⟩) (fun q => ?_) ?_
   · obtain _ := q
     refine JC.at ⟨[(2, ov (PTR gb_2 0)), (5, ov (PTR gb_4 0)), (60, ov (S rB x_43))], [cvar gb_2 (rP r_api_Dot (rP rS (rP (rW (HDR none 0 0 0)) (rP (rV 16 (rU UInt64)) (rP (rW (HDR none 0 0 0)) r0))))) ((api_Dot.mk (0 : Int) (0 : UInt64)), (([] : (List UInt8)), ((), ((Vector.replicate 16 (0 : UInt64)), ((), ()))))), cvar gb_4 (rP r_api_Dot (rP rS (rP (rL (rU UInt8)) (rP (rV 16 (rU UInt64)) (rP (rW (HDR go_37 0 (List.length To_36) gc_38)) r0))))) (v_5, (v_7, (v_9, (v_11, ((), ()))))), cown go_37 r_api_Dest To_36 (List.length To_36) gc_38], []⟩ ?_
     replace hq7 := iteB_inv hq7
     rcases hq7 with ⟨hc10, hq7⟩ | ⟨hc10, hq7⟩
     · refine JC.condT (.tmp rfl) hc10 ?_
       refine JC.seq ?_
       refine JC.region ?_
       refine jc (op_build lb tZ38 zr38 tp38 .nil rfl) ?_
       refine jc (op_storeA (j := 0) tA38 (.tmp rfl) (.tmp rfl) rfl (UpdR.self (by rfl)) rfl) ?_
       refine jc (op_assign lb .cB) ?_
       refine JL.nil ?_
       refine JQ.then ?_
       refine JC.ret ?_
       refine JQ.outR ?_
       replace hq7 := Option.some.inj hq7
       subst hq7
       refine JQ.pre (Imp.var (j := 0) (q := r_api_Event) (y := (api_Event.mk (api_Dot.mk (0 : Int) (0 : UInt64)) ([] : (List UInt8)) ([] : (List UInt8)) (Vector.replicate 16 (0 : UInt64)) ([] : (List api_Dest)))) rfl (Wk.st (Wk.pair Wk.refl (Wk.pair Wk.refl (Wk.pair Wk.nil (Wk.pair Wk.refl (Wk.pair Wk.nil Wk.refl))))))) ?_
       exact JQ.done (js := []) (ss := [.val (A r_api_Event (api_Event.mk (api_Dot.mk (0 : Int) (0 : UInt64)) ([] : (List UInt8)) ([] : (List UInt8)) (Vector.replicate 16 (0 : UInt64)) ([] : (List api_Dest)))), .val (S rB false)]) () (.inl rfl) (.nil rfl) rfl (.cons (.cellA (j := 0) tA38 rfl rfl) (.cons (.tmp rfl) .nil)) rfl rfl rfl
     · refine JC.condF (.tmp rfl) hc10 ?_
       refine JC.skip ?_
       refine JQ.then ?_
       refine JC.seq ?_
       refine JC.region ?_
       refine jc (op_loadA (j := 1) lb tA38 (.tmp rfl) rfl (Comp.self (rP r_api_Dot (rP rS (rP (rL (rU UInt8)) (rP (rV 16 (rU UInt64)) (rP (rW (HDR go_37 0 (List.length To_36) gc_38)) r0))))) (v_5, (v_7, (v_9, (v_11, ((), ())))))) rfl) ?_
       refine jc (op_storeA (j := 0) tA38 (.tmp rfl) (.tmp rfl) rfl (UpdR.self (by rfl)) rfl) ?_
       refine jc (op_assign lb .cB) ?_
       refine JL.nil ?_
       refine JQ.then ?_
       refine JC.ret ?_
       replace hq7 := Option.some.inj hq7
       subst hq7
       refine JQ.pre (Imp.frz (j := 2) rfl (ImpK.slotA (s := 62) (q := (rP r_api_Dot (rP rS (rP (rL (rU UInt8)) (rP (rV 16 (rU UInt64)) (rP (rW (HL go_37 r_api_Dest To_36 gc_38)) r0)))))) (y := (v_5, (v_7, (v_9, (v_11, ((), ())))))) rfl (Wk.pair Wk.refl (Wk.pair Wk.refl (Wk.pair Wk.refl (Wk.pair Wk.refl (Wk.pair Wk.own Wk.refl))))) (ImpK.var (j := 0) (q := (rP r_api_Dot (rP rS (rP (rL (rU UInt8)) (rP (rV 16 (rU UInt64)) (rP (rW (HL go_37 r_api_Dest To_36 gc_38)) r0)))))) (y := (v_5, (v_7, (v_9, (v_11, ((), ())))))) rfl (Wk.pair Wk.refl (Wk.pair Wk.refl (Wk.pair Wk.refl (Wk.pair Wk.refl (Wk.pair Wk.own Wk.refl))))) (ImpK.var (j := 1) (q := (rP r_api_Dot (rP rS (rP (rL (rU UInt8)) (rP (rV 16 (rU UInt64)) (rP (rW (HL go_37 r_api_Dest To_36 gc_38)) r0)))))) (y := (v_5, (v_7, (v_9, (v_11, ((), ())))))) rfl (Wk.pair Wk.refl (Wk.pair Wk.refl (Wk.pair Wk.refl (Wk.pair Wk.refl (Wk.pair Wk.own Wk.refl))))) ImpK.refl)))) ?_
       refine JQ.pre (Imp.var (j := 0) (q := r_api_Event) (y := (api_Event.mk v_5 v_7 v_9 v_11 To_36)) rfl (Wk.st (Wk.pair Wk.refl (Wk.pair Wk.refl (Wk.pair Wk.refl (Wk.pair Wk.refl (Wk.pair Wk.hl Wk.refl))))))) ?_
       exact JQ.done (js := []) (ss := [.val (A r_api_Event (api_Event.mk v_5 v_7 v_9 v_11 To_36)), .val (S rB true)]) () (.inl rfl) (.nil rfl) rfl (.cons (.cellA (j := 0) tA38 rfl rfl) (.cons (.tmp rfl) .nil)) rfl rfl rfl
   · refine JC.region ?_
     refine jc (op_move lb (.tmp rfl)) ?_
     replace hx7 := bnd_inv hx7
     obtain ⟨v_39, hv_v_39, hx7⟩ := hx7
     refine jx (op_call (js := [1]) ld cl50 (sim_ref01_Reader_End k r_35 gb_3 v_39 hv_v_39) .func (.cons (.tmp rfl) .nil) rfl) (fun _ => ?_)
     replace hx7 := lt1_inv hx7
     obtain ⟨v_40, hv_v_40, hx7⟩ := hx7
     refine jc (op_cmpI lb (.tmp rfl) .cI (congrArg some hv_v_40)) ?_
     refine jc (op_move lb (.tmp rfl)) ?_
     replace hx7 := iteB_inv hx7
     rcases hx7 with ⟨hc9, hx7⟩ | ⟨hc9, hx7⟩
     · refine JL.skip (.no rfl (ltB rfl) rfl hc9) (fun d h => by cases h; exact ltB rfl) ?_
       refine JL.skip (.no rfl (ltB rfl) rfl hc9) (fun d h => by cases h; exact ltB rfl) ?_
       refine JL.skip (.no rfl (ltB rfl) rfl hc9) (fun d h => by cases h; exact ltB rfl) ?_
       refine jc (op_pickT lb (.tmp rfl) hc9 .cB) ?_
       refine JL.nil ?_
       replace hx7 := Option.some.inj hx7
       first | subst hx7 | clear hx7
       refine JQ.pre (Imp.frz (j := 3) rfl ImpK.refl) ?_
       exact JQ.join () (Imp.norm (js := [1, 1, 1]) rfl (.cons rfl (.cons rfl (.cons rfl .nil))))
     · refine JL.run (.yes rfl (ltB rfl) rfl hc9) (op_loadA (j := 2) lb tA38 (.tmp rfl) rfl (Comp.self (rP r_api_Dot (rP rS (rP (rL (rU UInt8)) (rP (rV 16 (rU UInt64)) (rP (rW (HDR go_37 0 (List.length To_36) gc_38)) r0))))) (v_5, (v_7, (v_9, (v_11, ((), ())))))) rfl) ?_
       replace hx7 := bnd_inv hx7
       obtain ⟨v_41, hv_v_41, hx7⟩ := hx7
       refine JL.pre (Imp.frz (j := 3) rfl (ImpK.slotA (s := 57) (q := (rP r_api_Dot (rP rS (rP (rL (rU UInt8)) (rP (rV 16 (rU UInt64)) (rP (rW (HL go_37 r_api_Dest To_36 gc_38)) r0)))))) (y := (v_5, (v_7, (v_9, (v_11, ((), ())))))) rfl (Wk.pair Wk.refl (Wk.pair Wk.refl (Wk.pair Wk.refl (Wk.pair Wk.refl (Wk.pair Wk.own Wk.refl))))) (ImpK.var (j := 2) (q := (rP r_api_Dot (rP rS (rP (rL (rU UInt8)) (rP (rV 16 (rU UInt64)) (rP (rW (HL go_37 r_api_Dest To_36 gc_38)) r0)))))) (y := (v_5, (v_7, (v_9, (v_11, ((), ())))))) rfl (Wk.pair Wk.refl (Wk.pair Wk.refl (Wk.pair Wk.refl (Wk.pair Wk.refl (Wk.pair Wk.own Wk.refl))))) ImpK.refl))) ?_
       refine JL.pre (Imp.slotA (s := 57) rfl (Wk.st (Wk.pair Wk.refl (Wk.pair Wk.refl (Wk.pair Wk.refl (Wk.pair Wk.refl (Wk.pair Wk.hl Wk.refl))))))) ?_
       refine JL.runX (.yes rfl (ltB rfl) rfl hc9) (op_call (js := []) ld cl18 (sim_ref09_May k (api_Event.mk v_5 v_7 v_9 v_11 To_36) v_41 hv_v_41) .func (.cons (.tmp rfl) .nil) rfl) (fun _ => ?_)
       replace hx7 := lt1_inv hx7
       obtain ⟨v_42, hv_v_42, hx7⟩ := hx7
       refine JL.run (.yes rfl (ltB rfl) rfl hc9) (op_not lb (.tmp rfl) hv_v_42) ?_
       refine jc (op_pickF lb (.tmp rfl) hc9 (.tmp rfl)) ?_
       refine JL.nrm ⟨[(2, ov (PTR gb_2 0)), (5, ov (PTR gb_4 0)), (60, ov (S rB v_42))], [cvar gb_2 (rP r_api_Dot (rP rS (rP (rW (HDR none 0 0 0)) (rP (rV 16 (rU UInt64)) (rP (rW (HDR none 0 0 0)) r0))))) ((api_Dot.mk (0 : Int) (0 : UInt64)), (([] : (List UInt8)), ((), ((Vector.replicate 16 (0 : UInt64)), ((), ()))))), cvar gb_4 (rP r_api_Dot (rP rS (rP (rL (rU UInt8)) (rP (rV 16 (rU UInt64)) (rP (rW (HL go_37 r_api_Dest To_36 gc_38)) r0))))) (v_5, (v_7, (v_9, (v_11, ((), ()))))), cown go_37 r_api_Dest To_36 (List.length To_36) gc_38], []⟩ [1, 1, 1] rfl (.cons rfl (.cons rfl (.cons rfl .nil))) rfl ?_
       refine JL.nil ?_
       replace hx7 := Option.some.inj hx7
       first | subst hx7 | clear hx7
       refine JQ.pre (Imp.var (j := 1) (q := (rP r_api_Dot (rP rS (rP (rL (rU UInt8)) (rP (rV 16 (rU UInt64)) (rP (rW (HDR go_37 0 (List.length To_36) gc_38)) r0)))))) (y := (v_5, (v_7, (v_9, (v_11, ((), ())))))) rfl (Wk.pair Wk.refl (Wk.pair Wk.refl (Wk.pair Wk.refl (Wk.pair Wk.refl (Wk.pair Wk.hh Wk.refl)))))) ?_
       exact JQ.join () (Imp.norm (js := [0, 0, 0]) rfl (.cons rfl (.cons rfl (.cons rfl .nil))))
 · refine JC.seq ?_
   refine JC.region ?_
   refine jc (op_assign lb .cI) ?_
   refine JL.nil ?_
   refine JQ.then ?_
   refine JC.block ?_
   refine JC.pre (Imp.nilown r_api_Dest) ?_
   refine JC.pre ?_ (JC.loop (γ := Option Nat × Nat) (stf := fun s q => ⟨[(2, ov (PTR gb_2 0)), (4, ov (PTR gb_3 0)), (5, ov (PTR gb_4 0)), (6, ov (S (rI .i64) v_15)), (7, ov (S (rI .i64) s.2.2))], [cvar gb_2 (rP r_api_Dot (rP rS (rP (rW (HDR none 0 0 0)) (rP (rV 16 (rU UInt64)) (rP (rW (HDR none 0 0 0)) r0))))) ((api_Dot.mk (0 : Int) (0 : UInt64)), (([] : (List UInt8)), ((), ((Vector.replicate 16 (0 : UInt64)), ((), ()))))), cvar gb_3 r_ref01_Reader s.1, cvar gb_4 (rP r_api_Dot (rP rS (rP (rL (rU UInt8)) (rP (rV 16 (rU UInt64)) (rP (rW (HDR q.1 0 (List.length s.2.1) q.2)) r0))))) (v_5, (v_7, (v_9, (v_11, ((), ()))))), cown q.1 r_api_Dest s.2.1 0 q.2], []⟩) (q := (none, 0)) hx1 ?_)
   · exact (Imp.norm (js := [1, 0, 0, 0]) rfl (.cons rfl (.cons rfl (.cons rfl (.cons rfl (.cons rfl .nil))))))
   · intro s q x hx hr
     obtain ⟨r_16, To_17, i_18⟩ := s
     obtain ⟨go_19, gc_20⟩ := q
     change ref09_Of.b1 k v_15 r_16 To_17 i_18 = some x at hx
     unfold ref09_Of.b1 at hx
     refine JC.at ⟨[(2, ov (PTR gb_2 0)), (4, ov (PTR gb_3 0)), (5, ov (PTR gb_4 0)), (6, ov (S (rI .i64) v_15)), (7, ov (S (rI .i64) i_18))], [cvar gb_2 (rP r_api_Dot (rP rS (rP (rW (HDR none 0 0 0)) (rP (rV 16 (rU UInt64)) (rP (rW (HDR none 0 0 0)) r0))))) ((api_Dot.mk (0 : Int) (0 : UInt64)), (([] : (List UInt8)), ((), ((Vector.replicate 16 (0 : UInt64)), ((), ()))))), cvar gb_3 r_ref01_Reader r_16, cvar gb_4 (rP r_api_Dot (rP rS (rP (rL (rU UInt8)) (rP (rV 16 (rU UInt64)) (rP (rW (HDR go_19 0 (List.length To_17) gc_20)) r0))))) (v_5, (v_7, (v_9, (v_11, ((), ()))))), cown go_19 r_api_Dest To_17 0 gc_20], []⟩ ?_
     refine JC.seq ?_
     replace hx := bnd_inv hx
     obtain ⟨x_23, hx3, hq3⟩ := hx
     refine JC.seqJ (γ := Unit) (stj := fun q => ⟨[(2, ov (PTR gb_2 0)), (4, ov (PTR gb_3 0)), (5, ov (PTR gb_4 0)), (6, ov (S (rI .i64) v_15)), (7, ov (S (rI .i64) i_18)), (37, ov (S rB x_23))], [cvar gb_2 (rP r_api_Dot (rP rS (rP (rW (HDR none 0 0 0)) (rP (rV 16 (rU UInt64)) (rP (rW (HDR none 0 0 0)) r0))))) ((api_Dot.mk (0 : Int) (0 : UInt64)), (([] : (List UInt8)), ((), ((Vector.replicate 16 (0 : UInt64)), ((), ()))))), cvar gb_3 r_ref01_Reader r_16, cvar gb_4 (rP r_api_Dot (rP rS (rP (rL (rU UInt8)) (rP (rV 16 (rU UInt64)) (rP (rW (HDR go_19 0 (List.length To_17) gc_20)) r0))))) (v_5, (v_7, (v_9, (v_11, ((), ()))))), cown go_19 r_api_Dest To_17 0 gc_20], []⟩) (fun q => ?_) ?_
     · obtain _ := q
       refine JC.at ⟨[(2, ov (PTR gb_2 0)), (4, ov (PTR gb_3 0)), (5, ov (PTR gb_4 0)), (6, ov (S (rI .i64) v_15)), (7, ov (S (rI .i64) i_18)), (37, ov (S rB x_23))], [cvar gb_2 (rP r_api_Dot (rP rS (rP (rW (HDR none 0 0 0)) (rP (rV 16 (rU UInt64)) (rP (rW (HDR none 0 0 0)) r0))))) ((api_Dot.mk (0 : Int) (0 : UInt64)), (([] : (List UInt8)), ((), ((Vector.replicate 16 (0 : UInt64)), ((), ()))))), cvar gb_3 r_ref01_Reader r_16, cvar gb_4 (rP r_api_Dot (rP rS (rP (rL (rU UInt8)) (rP (rV 16 (rU UInt64)) (rP (rW (HDR go_19 0 (List.length To_17) gc_20)) r0))))) (v_5, (v_7, (v_9, (v_11, ((), ()))))), cown go_19 r_api_Dest To_17 0 gc_20], []⟩ ?_
       replace hq3 := iteB_inv hq3
       rcases hq3 with ⟨hc6, hq3⟩ | ⟨hc6, hq3⟩
       · refine JC.condT (.tmp rfl) hc6 ?_
         refine JC.skip ?_
         refine JQ.then ?_
         refine JC.seq ?_
         refine JC.block ?_
         refine JC.seq ?_
         refine JC.region ?_
         refine jx (op_alloc lb tZ59 zr59) (fun q => ?_)
         obtain ⟨gb_24, hqq⟩ : ∃ z, z = q := ⟨_, rfl⟩
         subst hqq
         refine JL.nil ?_
         refine JQ.then ?_
         refine JC.seq ?_
         refine JC.region ?_
         refine jc (op_move lb (.tmp rfl)) ?_
         replace hq3 := bnd_inv hq3
         obtain ⟨⟨v_25, x_26⟩, hv_v_25, hq3⟩ := hq3
         refine jx (op_call (js := [1]) ld cl46 (sim_ref01_Reader_Dot k r_16 gb_3 (v_25, x_26) hv_v_25) .func (.cons (.tmp rfl) .nil) rfl) (fun _ => ?_)
         refine jc (op_fieldAddr (off := 0) lb tf59_0 (.tmp rfl)) ?_
         replace hq3 := lt1_inv hq3
         obtain ⟨t_27, hv_t_27, hq3⟩ := hq3
         refine jc (op_storeA (j := 4) tA24 (.tmp rfl) (.tmp rfl) rfl (Upd.trans (Comp.self r_api_Dest (api_Dest.mk (api_Dot.mk (0 : Int) (0 : UInt64)) ([] : (List UInt8)))) (Upd.self r_api_Dest (api_Dest.mk (api_Dot.mk (0 : Int) (0 : UInt64)) ([] : (List UInt8))) _) (upd_api_Dest_Dot (api_Dest.mk (api_Dot.mk (0 : Int) (0 : UInt64)) ([] : (List UInt8))) v_25)).R hv_t_27) ?_
         refine JL.nil ?_
         refine JQ.then ?_
         refine JC.seq ?_
         refine JC.region ?_
         refine jc (op_move lb (.tmp rfl)) ?_
         refine JL.sub ⟨[(2, ov (PTR gb_2 0)), (4, ov (PTR gb_3 0)), (5, ov (PTR gb_4 0)), (6, ov (S (rI .i64) v_15)), (7, ov (S (rI .i64) i_18)), (8, ov (PTR gb_24 0)), (43, ov (PTR gb_3 0))], [cvar gb_3 r_ref01_Reader x_26, cvar gb_2 (rP r_api_Dot (rP rS (rP (rW (HDR none 0 0 0)) (rP (rV 16 (rU UInt64)) (rP (rW (HDR none 0 0 0)) r0))))) ((api_Dot.mk (0 : Int) (0 : UInt64)), (([] : (List UInt8)), ((), ((Vector.replicate 16 (0 : UInt64)), ((), ()))))), cvar gb_4 (rP r_api_Dot (rP rS (rP (rL (rU UInt8)) (rP (rV 16 (rU UInt64)) (rP (rW (HDR go_19 0 (List.length To_17) gc_20)) r0))))) (v_5, (v_7, (v_9, (v_11, ((), ()))))), cown go_19 r_api_Dest To_17 0 gc_20, cvar gb_24 r_api_Dest t_27], []⟩ (.cons rfl (.cons rfl (.cons rfl (.cons rfl (.cons rfl (.cons rfl (.cons rfl .nil))))))) rfl rfl ?_
         replace hq3 := bnd_inv hq3
         obtain ⟨⟨v_28, x_29⟩, hv_v_28, hq3⟩ := hq3
         refine jx (op_call (js := [0]) ld cl47 (sim_ref01_Reader_Blob k x_26 gb_3 (v_28, x_29) hv_v_28) .func (.cons (.tmp rfl) .nil) rfl) (fun _ => ?_)
         refine jc (op_convBS lb tu35 tu5 tu9 (.tmp rfl)) ?_
         refine jc (op_fieldAddr (off := 2) lb tf59_1 (.tmp rfl)) ?_
         replace hq3 := lt1_inv hq3
         obtain ⟨t_30, hv_t_30, hq3⟩ := hq3
         refine jc (op_storeS (j := 4) tS9 (.tmp rfl) (.tmp rfl) rfl rfl (Upd.trans (Comp.self r_api_Dest t_27) (Upd.self r_api_Dest t_27 _) (upd_api_Dest_Device t_27 v_28)).R hv_t_30) ?_
         refine JL.nil ?_
         refine JQ.then ?_
         refine JC.region ?_
         refine jc (op_fieldAddr (off := 20) lb tf38_4 (.tmp rfl)) ?_
         refine jc (op_loadW (j := 2) lb tS36 (.tmp rfl) rfl (Comp.trans (Comp.self (rP r_api_Dot (rP rS (rP (rL (rU UInt8)) (rP (rV 16 (rU UInt64)) (rP (rW (HDR go_19 0 (List.length To_17) gc_20)) r0))))) (v_5, (v_7, (v_9, (v_11, ((), ())))))) (Comp.at' (Comp.inS (Comp.inS (Comp.inS (Comp.inS (Comp.inF (Comp.self (rW (HDR go_19 0 (List.length To_17) gc_20)) ()) (Nat.le_of_ble_eq_true rfl)))))) (by rfl : _ = 20)) (Nat.le_of_ble_eq_true rfl))) ?_
         refine jc (op_loadA (j := 4) lb tA59 (.tmp rfl) rfl (Comp.self r_api_Dest t_30) rfl) ?_
         refine jc (op_buildF (r := r_api_Dest) lb tu36 tz59 tZ59 rfl (Nat.le_of_ble_eq_true rfl) (.A (.tmp rfl) .nil) rfl) ?_
         refine JL.nrm ⟨[(2, ov (PTR gb_2 0)), (4, ov (PTR gb_3 0)), (5, ov (PTR gb_4 0)), (6, ov (S (rI .i64) v_15)), (7, ov (S (rI .i64) i_18)), (48, ov (HDR go_19 0 (List.length To_17) gc_20)), (50, ov (S (rL r_api_Dest) ([t_30] : (List api_Dest))))], [cvar gb_3 r_ref01_Reader x_29, cvar gb_2 (rP r_api_Dot (rP rS (rP (rW (HDR none 0 0 0)) (rP (rV 16 (rU UInt64)) (rP (rW (HDR none 0 0 0)) r0))))) ((api_Dot.mk (0 : Int) (0 : UInt64)), (([] : (List UInt8)), ((), ((Vector.replicate 16 (0 : UInt64)), ((), ()))))), cvar gb_4 (rP r_api_Dot (rP rS (rP (rL (rU UInt8)) (rP (rV 16 (rU UInt64)) (rP (rW (HDR go_19 0 (List.length To_17) gc_20)) r0))))) (v_5, (v_7, (v_9, (v_11, ((), ()))))), cown go_19 r_api_Dest To_17 0 gc_20], []⟩ [0, 0, 0, 0] rfl (.cons rfl (.cons rfl (.cons rfl (.cons rfl (.cons rfl (.cons rfl (.cons rfl .nil))))))) rfl ?_
         replace hq3 := bnd_inv hq3
         obtain ⟨x_31, hv_x_31, hq3⟩ := hq3
         refine jx (op_appendL (j := 3) lb tu36 tu36 rfl tB59 rfl (Nat.lt_of_lt_of_le Nat.zero_lt_one (Nat.le_of_ble_eq_true rfl)) (Nat.lt_of_lt_of_le Nat.zero_lt_one (Nat.le_of_ble_eq_true rfl))  rfl (.tmp rfl) (.tmp rfl) hv_x_31) (fun q => ?_)
         obtain ⟨go_32, gc_33⟩ := q
         refine jc (op_fieldAddr (off := 20) lb tf38_4 (.tmp rfl)) ?_
         refine jc (op_storeW (j := 2) tS36 (.tmp rfl) (.tmp rfl) rfl ((UpdR.snd (UpdR.snd (UpdR.snd (UpdR.snd (UpdR.fst (UpdR.self (by rfl))))))).at (by change (2 + (1 + (1 + (16 + 0)))) = (0 + 20); omega)) rfl) ?_
         refine JL.nil ?_
         refine JQ.outNB ?_
         refine JQ.then ?_
         refine JC.region ?_
         refine jc (op_move lb (.tmp rfl)) ?_
         replace hq3 := lt1_inv hq3
         obtain ⟨v_34, hv_v_34, hq3⟩ := hq3
         refine jc (op_arI lb (.tmp rfl) .cI (congrArg some hv_v_34)) ?_
         refine jc (op_assign lb (.tmp rfl)) ?_
         refine JL.nil ?_
         replace hq3 := Option.some.inj hq3
         first | subst hq3 | clear hq3
         exact JQ.next (go_32, gc_33) rfl (Imp.norm (js := [1, 0, 0, 0]) rfl (.cons rfl (.cons rfl (.cons rfl (.cons rfl (.cons rfl .nil))))))
       · refine JC.condF (.tmp rfl) hc6 ?_
         refine JC.exit ?_
         refine JQ.outX ?_
         replace hq3 := Option.some.inj hq3
         first | subst hq3 | clear hq3
         have ht := hr _ rfl
         have hq2 := congrArg some ht
         clear hr ht
         refine JQ.outX ?_
         refine JQ.here ?_
         replace hq2 := Option.some.inj hq2
         replace hq2 := Prod.mk.inj hq2
         obtain ⟨hq2_a, hq2⟩ := hq2
         first | subst hq2_a | clear hq2_a
         first | subst hq2 | clear hq2
         exact JQ.join (go_19, gc_20) (Imp.norm (js := [0, 0, 0, 0]) rfl (.cons rfl (.cons rfl (.cons rfl .nil))))
     · refine JC.region ?_
       refine jc (op_move lb (.tmp rfl)) ?_
       refine jc (op_move lb (.tmp rfl)) ?_
       replace hx3 := lt1_inv hx3
       obtain ⟨v_21, hv_v_21, hx3⟩ := hx3
       refine jc (op_cmpI lb (.tmp rfl) (.tmp rfl) (congrArg some hv_v_21)) ?_
       refine jc (op_move lb (.tmp rfl)) ?_
       replace hx3 := iteB_inv hx3
       rcases hx3 with ⟨hc5, hx3⟩ | ⟨hc5, hx3⟩
       · refine JL.run (.yes rfl (ltB rfl) rfl hc5) (op_move lb (.tmp rfl)) ?_
         refine JL.run (.yes rfl (ltB rfl) rfl hc5) (op_nilCheck lb (.tmp rfl) (fun e v h => by subst h; rfl)) ?_
         refine JL.run (.yes rfl (ltB rfl) rfl hc5) (op_fieldAddr (off := 2) lb tf77_2 (.tmp rfl)) ?_
         refine JL.run (.yes rfl (ltB rfl) rfl hc5) (op_loadS (j := 1) lb tS4 (.tmp rfl) rfl (Comp.trans (Comp.self r_ref01_Reader r_16) (comp_ref01_Reader_Failed r_16) (Nat.le_of_ble_eq_true rfl)) rfl rfl) ?_
         replace hx3 := lt1_inv hx3
         obtain ⟨v_22, hv_v_22, hx3⟩ := hx3
         refine JL.run (.yes rfl (ltB rfl) rfl hc5) (op_not lb (.tmp rfl) hv_v_22) ?_
         refine jc (op_pickT lb (.tmp rfl) hc5 (.tmp rfl)) ?_
         refine JL.nil ?_
         replace hx3 := Option.some.inj hx3
         first | subst hx3 | clear hx3
         exact JQ.join () (Imp.norm (js := [0, 0, 0, 0]) rfl (.cons rfl (.cons rfl (.cons rfl (.cons rfl (.cons rfl (.cons rfl .nil)))))))
       · refine JL.skip (.no rfl (ltB rfl) rfl hc5) (fun d h => by cases h; exact ltB rfl) ?_
         refine JL.skip (.no rfl (ltB rfl) rfl hc5) (fun d h => by cases h; exact ltB rfl) ?_
         refine JL.skip (.no rfl (ltB rfl) rfl hc5) (fun d h => by cases h; exact ltB rfl) ?_
         refine JL.skip (.no rfl (ltB rfl) rfl hc5) (fun d h => by cases h; exact ltB rfl) ?_
         refine JL.skip (.no rfl (ltB rfl) rfl hc5) (fun d h => by cases h; exact ltB rfl) ?_
         refine jc (op_pickF lb (.tmp rfl) hc5 .cB) ?_
         refine JL.nil ?_
         replace hx3 := Option.some.inj hx3
         first | subst hx3 | clear hx3
         exact JQ.join () (Imp.norm (js := [0, 0, 0, 0]) rfl (.cons rfl (.cons rfl (.cons rfl (.cons rfl (.cons rfl (.cons rfl .nil)))))))

end Go.Proofs.Ythoggbomakolkaa
