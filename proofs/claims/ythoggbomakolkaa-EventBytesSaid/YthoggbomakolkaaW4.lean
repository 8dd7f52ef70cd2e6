/- Walks. -/
import Derived.Test.YthoggbomakolkaaT
import Derived.Test.YthoggbomakolkaaW2
import Derived.Test.YthoggbomakolkaaW3
namespace Go.Proofs.Ythoggbomakolkaa
open Go Fw
set_option linter.unusedVariables false
set_option maxRecDepth 100000
set_option maxHeartbeats 4000000

theorem sim_law09_known (k : Nat) (r : Bool) (hm : law09_known k = some r) : Sim Try.prog 10 [] [] (γ := Unit) (fun q => []) (fun q => .one (.val (S rB r))) := by
 unfold law09_known at hm
 refine Sim.of Try.func10 rfl rfl (Nat.le_of_ble_eq_true rfl) (fun e0 w0 => ?_)
 refine JC.at ⟨[], [], []⟩ ?_
 refine JC.seq ?_
 refine JC.region ?_
 refine jc (op_assign lb .cB) ?_
 refine JL.nil ?_
 refine JQ.then ?_
 refine JC.seq ?_
 refine JC.region ?_
 refine jc (op_build lb tZ24 zs24 tp24 (.S (off := 0) rfl .cI rfl ((UpdR.fst (UpdR.self (by rfl))).at (by rfl)) (.S (off := 1) rfl (HasO.cU (x := (5 : UInt64)) rfl (by decide)) rfl ((UpdR.snd (UpdR.fst (UpdR.self (by rfl)))).at (by rfl)) .nil)) rfl) ?_
 refine jc (op_build lb tZ26 zv26 tp26 (.S (off := 0) rfl (HasO.cU (x := (7 : UInt64)) rfl (by decide)) rfl ((Upd.at (off := 0) (i := 0) (Comp.self (rV 16 (rU UInt64)) (Vector.replicate 16 (0 : UInt64))) (by decide) rfl (Upd.self (rV 16 (rU UInt64)) (Vector.replicate 16 (0 : UInt64)) _)).R.at rfl) (.S (off := 1) rfl (HasO.cU (x := (4 : UInt64)) rfl (by decide)) rfl ((Upd.at (off := 0) (i := 1) (Comp.self (rV 16 (rU UInt64)) (Vector.set (Vector.replicate 16 (0 : UInt64)) 0 (7 : UInt64) (by decide))) (by decide) rfl (Upd.self (rV 16 (rU UInt64)) (Vector.set (Vector.replicate 16 (0 : UInt64)) 0 (7 : UInt64) (by decide)) _)).R.at rfl) .nil)) rfl) ?_
 refine jc (op_build lb tZ38 zr38 tp38 (.A (off := 0) rfl (HasO.wk (q := A r_api_Dot (api_Dot.mk (2 : Int) (5 : UInt64))) (.tmp rfl) (wkAK (Wk.st Wk.refl))) ((UpdR.fst (UpdR.self (by rfl))).at (by rfl)) (.S (off := 2) rfl (HasO.cS (l := [116]) rfl) rfl ((UpdR.snd (UpdR.fst (UpdR.self (by rfl)))).at (by rfl)) (.A (off := 4) rfl (.tmp rfl) ((UpdR.snd (UpdR.snd (UpdR.snd (UpdR.fst (UpdR.self (by rfl)))))).at (by rfl)) .nil))) rfl) ?_
 refine jx (op_alloc lb tZ38 zr38) (fun q => ?_)
 obtain ⟨gb_1, hqq⟩ : ∃ z, z = q := ⟨_, rfl⟩
 subst hqq
 refine jc (op_storeA (j := 0) tA38 (.tmp rfl) (.tmp rfl) rfl (UpdR.self (by rfl)) rfl) ?_
 refine JL.nil ?_
 refine JQ.then ?_
 refine JC.seq ?_
 refine JC.region ?_
 refine jc (op_build lb tZ24 zs24 tp24 (.S (off := 0) rfl .cI rfl ((UpdR.fst (UpdR.self (by rfl))).at (by rfl)) (.S (off := 1) rfl (HasO.cU (x := (4 : UInt64)) rfl (by decide)) rfl ((UpdR.snd (UpdR.fst (UpdR.self (by rfl)))).at (by rfl)) .nil)) rfl) ?_
 refine jc (op_build lb tZ24 zs24 tp24 (.S (off := 0) rfl .cI rfl ((UpdR.fst (UpdR.self (by rfl))).at (by rfl)) (.S (off := 1) rfl (HasO.cU (x := (5 : UInt64)) rfl (by decide)) rfl ((UpdR.snd (UpdR.fst (UpdR.self (by rfl)))).at (by rfl)) .nil)) rfl) ?_
 refine JL.sub ⟨[(1, ov (PTR gb_1 0)), (7, ov (A (rP (rI .i64) (rP (rU UInt64) r0)) ((2 : Int), ((4 : UInt64), ())))), (8, ov (A (rP (rI .i64) (rP (rU UInt64) r0)) ((2 : Int), ((5 : UInt64), ()))))], [cvar gb_1 (rP r_api_Dot (rP rS (rP (rW (HDR none 0 0 0)) (rP (rV 16 (rU UInt64)) (rP (rW (HDR none 0 0 0)) r0))))) ((api_Dot.mk (2 : Int) (5 : UInt64)), (([116] : List UInt8), ((), ((Vector.set (Vector.set (Vector.replicate 16 (0 : UInt64)) 0 (7 : UInt64) (by decide)) 1 (4 : UInt64) (by decide)), ((), ())))))], []⟩ (.cons rfl (.cons rfl (.cons rfl .nil))) rfl rfl ?_
 refine jx (op_alloc lb tZ24 zr24) (fun q => ?_)
 obtain ⟨gb_2, hqq⟩ : ∃ z, z = q := ⟨_, rfl⟩
 subst hqq
 refine jx (op_alloc lb tZ24 zr24) (fun q => ?_)
 obtain ⟨gb_3, hqq⟩ : ∃ z, z = q := ⟨_, rfl⟩
 subst hqq
 refine jc (op_storeA (j := 1) tA24 (.tmp rfl) (.tmp rfl) rfl (UpdR.self (by rfl)) rfl) ?_
 refine jc (op_storeA (j := 2) tA24 (.tmp rfl) (.tmp rfl) rfl (UpdR.self (by rfl)) rfl) ?_
 refine JL.sub ⟨[(1, ov (PTR gb_1 0)), (2, ov (PTR gb_2 0)), (3, ov (PTR gb_3 0))], [cvar gb_1 (rP r_api_Dot (rP rS (rP (rW (HDR none 0 0 0)) (rP (rV 16 (rU UInt64)) (rP (rW (HDR none 0 0 0)) r0))))) ((api_Dot.mk (2 : Int) (5 : UInt64)), (([116] : List UInt8), ((), ((Vector.set (Vector.set (Vector.replicate 16 (0 : UInt64)) 0 (7 : UInt64) (by decide)) 1 (4 : UInt64) (by decide)), ((), ()))))), cvar gb_2 (rP (rI .i64) (rP (rU UInt64) r0)) ((2 : Int), ((4 : UInt64), ())), cvar gb_3 (rP (rI .i64) (rP (rU UInt64) r0)) ((2 : Int), ((5 : UInt64), ()))], []⟩ (.cons rfl (.cons rfl (.cons rfl .nil))) rfl rfl ?_
 refine JL.nil ?_
 refine JQ.then ?_
 replace hm := bnd_inv hm
 obtain ⟨x_19, hx1, hq1⟩ := hm
 refine JC.seqJ (γ := Unit) (stj := fun q => ⟨[(0, ov (S rB x_19))], [], []⟩) (fun q => ?_) ?_
 · obtain _ := q
   refine JC.at ⟨[(0, ov (S rB x_19))], [], []⟩ ?_
   refine JC.ret ?_
   replace hq1 := Option.some.inj hq1
   subst hq1
   exact JQ.done (js := []) (ss := [.val (S rB x_19)]) () (.inl rfl) (.nil rfl) rfl (.cons (.tmp rfl) .nil) rfl rfl rfl
 · refine JC.region ?_
   refine jc (op_loadA (j := 0) lb tA38 (.tmp rfl) rfl (Comp.self (rP r_api_Dot (rP rS (rP (rW (HDR none 0 0 0)) (rP (rV 16 (rU UInt64)) (rP (rW (HDR none 0 0 0)) r0))))) ((api_Dot.mk (2 : Int) (5 : UInt64)), (([116] : List UInt8), ((), ((Vector.set (Vector.set (Vector.replicate 16 (0 : UInt64)) 0 (7 : UInt64) (by decide)) 1 (4 : UInt64) (by decide)), ((), ())))))) rfl) ?_
   refine jc (op_build lb tZ26 zv26 tp26 (.S (off := 0) rfl (HasO.cU (x := (7 : UInt64)) rfl (by decide)) rfl ((Upd.at (off := 0) (i := 0) (Comp.self (rV 16 (rU UInt64)) (Vector.replicate 16 (0 : UInt64))) (by decide) rfl (Upd.self (rV 16 (rU UInt64)) (Vector.replicate 16 (0 : UInt64)) _)).R.at rfl) (.S (off := 1) rfl (HasO.cU (x := (4 : UInt64)) rfl (by decide)) rfl ((Upd.at (off := 0) (i := 1) (Comp.self (rV 16 (rU UInt64)) (Vector.set (Vector.replicate 16 (0 : UInt64)) 0 (7 : UInt64) (by decide))) (by decide) rfl (Upd.self (rV 16 (rU UInt64)) (Vector.set (Vector.replicate 16 (0 : UInt64)) 0 (7 : UInt64) (by decide)) _)).R.at rfl) .nil)) rfl) ?_
   replace hx1 := bnd_inv hx1
   obtain ⟨v_4, hv_v_4, hx1⟩ := hx1
   refine jx (op_call (js := []) ld cl13 (sim_event_Ready k (api_Event.mk (api_Dot.mk (2 : Int) (5 : UInt64)) ([116] : List UInt8) ([] : (List UInt8)) (Vector.set (Vector.set (Vector.replicate 16 (0 : UInt64)) 0 (7 : UInt64) (by decide)) 1 (4 : UInt64) (by decide)) ([] : (List api_Dest))) (Vector.set (Vector.set (Vector.replicate 16 (0 : UInt64)) 0 (7 : UInt64) (by decide)) 1 (4 : UInt64) (by decide)) v_4 hv_v_4) .func (.cons (HasO.wk (q := A r_api_Event (api_Event.mk (api_Dot.mk (2 : Int) (5 : UInt64)) ([116] : List UInt8) ([] : (List UInt8)) (Vector.set (Vector.set (Vector.replicate 16 (0 : UInt64)) 0 (7 : UInt64) (by decide)) 1 (4 : UInt64) (by decide)) ([] : (List api_Dest)))) (.tmp rfl) (wkAK (Wk.st (Wk.pair Wk.refl (Wk.pair Wk.refl (Wk.pair Wk.nil (Wk.pair Wk.refl (Wk.pair Wk.nil Wk.refl)))))))) (.cons (.tmp rfl) .nil)) rfl) (fun _ => ?_)
   refine jc (op_move lb (.tmp rfl)) ?_
   refine JL.cnd (sv := ov (A (rP r_api_Dot (rP rS (rP (rW (HDR none 0 0 0)) (rP (rV 16 (rU UInt64)) (rP (rW (HDR none 0 0 0)) r0))))) ((api_Dot.mk (2 : Int) (5 : UInt64)), (([116] : List UInt8), ((), ((Vector.set (Vector.set (Vector.replicate 16 (0 : UInt64)) 0 (7 : UInt64) (by decide)) 1 (4 : UInt64) (by decide)), ((), ()))))))) (Guard.isT (ltB rfl) rfl rfl) rfl (ltB rfl) (fun hq_2 => op_loadA (j := 0) lb tA38 (.tmp rfl) rfl (Comp.self (rP r_api_Dot (rP rS (rP (rW (HDR none 0 0 0)) (rP (rV 16 (rU UInt64)) (rP (rW (HDR none 0 0 0)) r0))))) ((api_Dot.mk (2 : Int) (5 : UInt64)), (([116] : List UInt8), ((), ((Vector.set (Vector.set (Vector.replicate 16 (0 : UInt64)) 0 (7 : UInt64) (by decide)) 1 (4 : UInt64) (by decide)), ((), ())))))) rfl) ?_
   refine JL.cnd (sv := ov (A (rV 16 (rU UInt64)) (Vector.set (Vector.set (Vector.replicate 16 (0 : UInt64)) 0 (6 : UInt64) (by decide)) 1 (4 : UInt64) (by decide)))) (Guard.isT (ltB rfl) rfl rfl) rfl (ltB rfl) (fun hq_3 => op_build lb tZ26 zv26 tp26 (.S (off := 0) rfl (HasO.cU (x := (6 : UInt64)) rfl (by decide)) rfl ((Upd.at (off := 0) (i := 0) (Comp.self (rV 16 (rU UInt64)) (Vector.replicate 16 (0 : UInt64))) (by decide) rfl (Upd.self (rV 16 (rU UInt64)) (Vector.replicate 16 (0 : UInt64)) _)).R.at rfl) (.S (off := 1) rfl (HasO.cU (x := (4 : UInt64)) rfl (by decide)) rfl ((Upd.at (off := 0) (i := 1) (Comp.self (rV 16 (rU UInt64)) (Vector.set (Vector.replicate 16 (0 : UInt64)) 0 (6 : UInt64) (by decide))) (by decide) rfl (Upd.self (rV 16 (rU UInt64)) (Vector.set (Vector.replicate 16 (0 : UInt64)) 0 (6 : UInt64) (by decide)) _)).R.at rfl) .nil)) rfl) ?_
   replace hx1 := bnd_inv hx1
   obtain ⟨v_5, hv_v_5, hx1⟩ := hx1
   refine JL.cnd (sv := ov (S rB v_5)) (Guard.isT (ltB rfl) rfl rfl) rfl (ltB rfl) (fun hq_4 => (op_call (js := []) ld cl13 (sim_event_Ready k (api_Event.mk (api_Dot.mk (2 : Int) (5 : UInt64)) ([116] : List UInt8) ([] : (List UInt8)) (Vector.set (Vector.set (Vector.replicate 16 (0 : UInt64)) 0 (7 : UInt64) (by decide)) 1 (4 : UInt64) (by decide)) ([] : (List api_Dest))) (Vector.set (Vector.set (Vector.replicate 16 (0 : UInt64)) 0 (6 : UInt64) (by decide)) 1 (4 : UInt64) (by decide)) v_5 (ifT hv_v_5 hq_4)) .func (.cons (HasO.wk (q := A r_api_Event (api_Event.mk (api_Dot.mk (2 : Int) (5 : UInt64)) ([116] : List UInt8) ([] : (List UInt8)) (Vector.set (Vector.set (Vector.replicate 16 (0 : UInt64)) 0 (7 : UInt64) (by decide)) 1 (4 : UInt64) (by decide)) ([] : (List api_Dest)))) (HasO.cnd (.tmp rfl) hq_4) (wkAK (Wk.st (Wk.pair Wk.refl (Wk.pair Wk.refl (Wk.pair Wk.nil (Wk.pair Wk.refl (Wk.pair Wk.nil Wk.refl)))))))) (.cons (HasO.cnd (.tmp rfl) hq_4) .nil)) rfl).post (fun _ => Imp.refl)) ?_
   replace hx1 := lt1_inv hx1
   obtain ⟨v_6, hv_v_6, hx1⟩ := hx1
   refine JL.cnd (sv := ov (S rB v_6)) (Guard.isT (ltB rfl) rfl rfl) rfl (ltB rfl) (fun hq_5 => op_not lb (HasO.cnd (.tmp rfl) hq_5) hv_v_6) ?_
   replace hx1 := lt1_inv hx1
   obtain ⟨v_7, hv_v_7, hx1⟩ := hx1
   refine jc (op_pickCS lb (.tmp rfl) (fun hb6 => (HasO.cnd (.tmp rfl) hb6)) (fun hb6 => .cB) hv_v_7) ?_
   refine jc (op_move lb (.tmp rfl)) ?_
   refine JL.cnd (sv := ov (A (rP r_api_Dot (rP rS (rP (rW (HDR none 0 0 0)) (rP (rV 16 (rU UInt64)) (rP (rW (HDR none 0 0 0)) r0))))) ((api_Dot.mk (2 : Int) (5 : UInt64)), (([116] : List UInt8), ((), ((Vector.set (Vector.set (Vector.replicate 16 (0 : UInt64)) 0 (7 : UInt64) (by decide)) 1 (4 : UInt64) (by decide)), ((), ()))))))) (Guard.isT (ltB rfl) rfl rfl) rfl (ltB rfl) (fun hq_7 => op_loadA (j := 0) lb tA38 (.tmp rfl) rfl (Comp.self (rP r_api_Dot (rP rS (rP (rW (HDR none 0 0 0)) (rP (rV 16 (rU UInt64)) (rP (rW (HDR none 0 0 0)) r0))))) ((api_Dot.mk (2 : Int) (5 : UInt64)), (([116] : List UInt8), ((), ((Vector.set (Vector.set (Vector.replicate 16 (0 : UInt64)) 0 (7 : UInt64) (by decide)) 1 (4 : UInt64) (by decide)), ((), ())))))) rfl) ?_
   refine JL.cnd (sv := ov (A (rV 16 (rU UInt64)) (Vector.set (Vector.set (Vector.replicate 16 (0 : UInt64)) 0 (7 : UInt64) (by decide)) 1 (5 : UInt64) (by decide)))) (Guard.isT (ltB rfl) rfl rfl) rfl (ltB rfl) (fun hq_8 => op_build lb tZ26 zv26 tp26 (.S (off := 0) rfl (HasO.cU (x := (7 : UInt64)) rfl (by decide)) rfl ((Upd.at (off := 0) (i := 0) (Comp.self (rV 16 (rU UInt64)) (Vector.replicate 16 (0 : UInt64))) (by decide) rfl (Upd.self (rV 16 (rU UInt64)) (Vector.replicate 16 (0 : UInt64)) _)).R.at rfl) (.S (off := 1) rfl (HasO.cU (x := (5 : UInt64)) rfl (by decide)) rfl ((Upd.at (off := 0) (i := 1) (Comp.self (rV 16 (rU UInt64)) (Vector.set (Vector.replicate 16 (0 : UInt64)) 0 (7 : UInt64) (by decide))) (by decide) rfl (Upd.self (rV 16 (rU UInt64)) (Vector.set (Vector.replicate 16 (0 : UInt64)) 0 (7 : UInt64) (by decide)) _)).R.at rfl) .nil)) rfl) ?_
   refine JL.nrm ⟨[(2, ov (PTR gb_2 0)), (3, ov (PTR gb_3 0)), (18, ov (S rB v_7)), (19, bif v_7 then ov (A (rP r_api_Dot (rP rS (rP (rW (HDR none 0 0 0)) (rP (rV 16 (rU UInt64)) (rP (rW (HDR none 0 0 0)) r0))))) ((api_Dot.mk (2 : Int) (5 : UInt64)), (([116] : List UInt8), ((), ((Vector.set (Vector.set (Vector.replicate 16 (0 : UInt64)) 0 (7 : UInt64) (by decide)) 1 (4 : UInt64) (by decide)), ((), ())))))) else .one .und), (20, bif v_7 then ov (A (rV 16 (rU UInt64)) (Vector.set (Vector.set (Vector.replicate 16 (0 : UInt64)) 0 (7 : UInt64) (by decide)) 1 (5 : UInt64) (by decide))) else .one .und)], [cvar gb_2 (rP (rI .i64) (rP (rU UInt64) r0)) ((2 : Int), ((4 : UInt64), ())), cvar gb_3 (rP (rI .i64) (rP (rU UInt64) r0)) ((2 : Int), ((5 : UInt64), ()))], []⟩ [1, 1] rfl (.cons rfl (.cons rfl (.cons rfl (.cons rfl (.cons rfl .nil))))) rfl ?_
   replace hx1 := bnd_inv hx1
   obtain ⟨v_8, hv_v_8, hx1⟩ := hx1
   refine JL.cnd (sv := ov (S rB v_8)) (Guard.isT (ltB rfl) rfl rfl) rfl (ltB rfl) (fun hq_9 => (op_call (js := []) ld cl13 (sim_event_Ready k (api_Event.mk (api_Dot.mk (2 : Int) (5 : UInt64)) ([116] : List UInt8) ([] : (List UInt8)) (Vector.set (Vector.set (Vector.replicate 16 (0 : UInt64)) 0 (7 : UInt64) (by decide)) 1 (4 : UInt64) (by decide)) ([] : (List api_Dest))) (Vector.set (Vector.set (Vector.replicate 16 (0 : UInt64)) 0 (7 : UInt64) (by decide)) 1 (5 : UInt64) (by decide)) v_8 (ifT hv_v_8 hq_9)) .func (.cons (HasO.wk (q := A r_api_Event (api_Event.mk (api_Dot.mk (2 : Int) (5 : UInt64)) ([116] : List UInt8) ([] : (List UInt8)) (Vector.set (Vector.set (Vector.replicate 16 (0 : UInt64)) 0 (7 : UInt64) (by decide)) 1 (4 : UInt64) (by decide)) ([] : (List api_Dest)))) (HasO.cnd (.tmp rfl) hq_9) (wkAK (Wk.st (Wk.pair Wk.refl (Wk.pair Wk.refl (Wk.pair Wk.nil (Wk.pair Wk.refl (Wk.pair Wk.nil Wk.refl)))))))) (.cons (HasO.cnd (.tmp rfl) hq_9) .nil)) rfl).post (fun _ => Imp.refl)) ?_
   replace hx1 := lt1_inv hx1
   obtain ⟨v_9, hv_v_9, hx1⟩ := hx1
   refine JL.cnd (sv := ov (S rB v_9)) (Guard.isT (ltB rfl) rfl rfl) rfl (ltB rfl) (fun hq_10 => op_not lb (HasO.cnd (.tmp rfl) hq_10) hv_v_9) ?_
   replace hx1 := lt1_inv hx1
   obtain ⟨v_10, hv_v_10, hx1⟩ := hx1
   refine jc (op_pickCS lb (.tmp rfl) (fun hb11 => (HasO.cnd (.tmp rfl) hb11)) (fun hb11 => .cB) hv_v_10) ?_
   refine jc (op_move lb (.tmp rfl)) ?_
   refine JL.cnd (sv := ov (A (rV 16 (rU UInt64)) (Vector.set (Vector.set (Vector.replicate 16 (0 : UInt64)) 0 (3 : UInt64) (by decide)) 1 (4 : UInt64) (by decide)))) (Guard.isT (ltB rfl) rfl rfl) rfl (ltB rfl) (fun hq_12 => op_build lb tZ26 zv26 tp26 (.S (off := 0) rfl (HasO.cU (x := (3 : UInt64)) rfl (by decide)) rfl ((Upd.at (off := 0) (i := 0) (Comp.self (rV 16 (rU UInt64)) (Vector.replicate 16 (0 : UInt64))) (by decide) rfl (Upd.self (rV 16 (rU UInt64)) (Vector.replicate 16 (0 : UInt64)) _)).R.at rfl) (.S (off := 1) rfl (HasO.cU (x := (4 : UInt64)) rfl (by decide)) rfl ((Upd.at (off := 0) (i := 1) (Comp.self (rV 16 (rU UInt64)) (Vector.set (Vector.replicate 16 (0 : UInt64)) 0 (3 : UInt64) (by decide))) (by decide) rfl (Upd.self (rV 16 (rU UInt64)) (Vector.set (Vector.replicate 16 (0 : UInt64)) 0 (3 : UInt64) (by decide)) _)).R.at rfl) .nil)) rfl) ?_
   refine JL.cnd (sv := ov (A (rP (rI .i64) (rP (rU UInt64) r0)) ((2 : Int), ((4 : UInt64), ())))) (Guard.isT (ltB rfl) rfl rfl) rfl (ltB rfl) (fun hq_13 => op_loadA (j := 0) lb tA24 (.tmp rfl) rfl (Comp.self (rP (rI .i64) (rP (rU UInt64) r0)) ((2 : Int), ((4 : UInt64), ()))) rfl) ?_
   replace hx1 := bnd_inv hx1
   obtain ⟨v_11, hv_v_11, hx1⟩ := hx1
   refine JL.cnd (sv := ov (S rB v_11)) (Guard.isT (ltB rfl) rfl rfl) rfl (ltB rfl) (fun hq_14 => (op_call (js := []) ld cl9 (sim_event_Under k (Vector.set (Vector.set (Vector.replicate 16 (0 : UInt64)) 0 (3 : UInt64) (by decide)) 1 (4 : UInt64) (by decide)) (api_Dot.mk (2 : Int) (4 : UInt64)) v_11 (ifT hv_v_11 hq_14)) .func (.cons (HasO.cnd (.tmp rfl) hq_14) (.cons (HasO.wk (q := A r_api_Dot (api_Dot.mk (2 : Int) (4 : UInt64))) (HasO.cnd (.tmp rfl) hq_14) (wkAK (Wk.st Wk.refl))) .nil)) rfl).post (fun _ => Imp.refl)) ?_
   replace hx1 := lt1_inv hx1
   obtain ⟨v_12, hv_v_12, hx1⟩ := hx1
   refine jc (op_pickCS lb (.tmp rfl) (fun hb15 => (HasO.cnd (.tmp rfl) hb15)) (fun hb15 => .cB) hv_v_12) ?_
   refine jc (op_move lb (.tmp rfl)) ?_
   refine JL.cnd (sv := ov (A (rV 16 (rU UInt64)) (Vector.set (Vector.set (Vector.replicate 16 (0 : UInt64)) 0 (3 : UInt64) (by decide)) 1 (4 : UInt64) (by decide)))) (Guard.isT (ltB rfl) rfl rfl) rfl (ltB rfl) (fun hq_16 => op_build lb tZ26 zv26 tp26 (.S (off := 0) rfl (HasO.cU (x := (3 : UInt64)) rfl (by decide)) rfl ((Upd.at (off := 0) (i := 0) (Comp.self (rV 16 (rU UInt64)) (Vector.replicate 16 (0 : UInt64))) (by decide) rfl (Upd.self (rV 16 (rU UInt64)) (Vector.replicate 16 (0 : UInt64)) _)).R.at rfl) (.S (off := 1) rfl (HasO.cU (x := (4 : UInt64)) rfl (by decide)) rfl ((Upd.at (off := 0) (i := 1) (Comp.self (rV 16 (rU UInt64)) (Vector.set (Vector.replicate 16 (0 : UInt64)) 0 (3 : UInt64) (by decide))) (by decide) rfl (Upd.self (rV 16 (rU UInt64)) (Vector.set (Vector.replicate 16 (0 : UInt64)) 0 (3 : UInt64) (by decide)) _)).R.at rfl) .nil)) rfl) ?_
   refine JL.cnd (sv := ov (A (rP (rI .i64) (rP (rU UInt64) r0)) ((2 : Int), ((5 : UInt64), ())))) (Guard.isT (ltB rfl) rfl rfl) rfl (ltB rfl) (fun hq_17 => op_loadA (j := 1) lb tA24 (.tmp rfl) rfl (Comp.self (rP (rI .i64) (rP (rU UInt64) r0)) ((2 : Int), ((5 : UInt64), ()))) rfl) ?_
   replace hx1 := bnd_inv hx1
   obtain ⟨v_13, hv_v_13, hx1⟩ := hx1
   refine JL.cnd (sv := ov (S rB v_13)) (Guard.isT (ltB rfl) rfl rfl) rfl (ltB rfl) (fun hq_18 => (op_call (js := []) ld cl9 (sim_event_Under k (Vector.set (Vector.set (Vector.replicate 16 (0 : UInt64)) 0 (3 : UInt64) (by decide)) 1 (4 : UInt64) (by decide)) (api_Dot.mk (2 : Int) (5 : UInt64)) v_13 (ifT hv_v_13 hq_18)) .func (.cons (HasO.cnd (.tmp rfl) hq_18) (.cons (HasO.wk (q := A r_api_Dot (api_Dot.mk (2 : Int) (5 : UInt64))) (HasO.cnd (.tmp rfl) hq_18) (wkAK (Wk.st Wk.refl))) .nil)) rfl).post (fun _ => Imp.refl)) ?_
   refine JL.nrm ⟨[(29, ov (S rB v_12)), (32, bif v_12 then ov (S rB v_13) else .one .und)], [], []⟩ [] rfl (.cons rfl (.cons rfl .nil)) rfl ?_
   replace hx1 := lt1_inv hx1
   obtain ⟨v_14, hv_v_14, hx1⟩ := hx1
   refine JL.cnd (sv := ov (S rB v_14)) (Guard.isT (ltB rfl) rfl rfl) rfl (ltB rfl) (fun hq_19 => op_not lb (HasO.cnd (.tmp rfl) hq_19) hv_v_14) ?_
   replace hx1 := lt1_inv hx1
   obtain ⟨v_15, hv_v_15, hx1⟩ := hx1
   refine jc (op_pickCS lb (.tmp rfl) (fun hb20 => (HasO.cnd (.tmp rfl) hb20)) (fun hb20 => .cB) hv_v_15) ?_
   refine jc (op_move lb (.tmp rfl)) ?_
   refine JL.cnd (sv := ov (A (rP r_api_Dot (rP rS (rP (rW (HDR none 0 0 0)) (rP (rV 16 (rU UInt64)) (rP (rW (HDR none 0 0 0)) r0))))) ((api_Dot.mk (0 : Int) (0 : UInt64)), (([] : (List UInt8)), ((), ((Vector.replicate 16 (0 : UInt64)), ((), ()))))))) (Guard.isT (ltB rfl) rfl rfl) rfl (ltB rfl) (fun hq_21 => op_build lb tZ38 zr38 tp38 .nil rfl) ?_
   replace hx1 := bnd_inv hx1
   obtain ⟨v_16, hv_v_16, hx1⟩ := hx1
   refine JL.cnd (sv := ov (S rB v_16)) (Guard.isT (ltB rfl) rfl rfl) rfl (ltB rfl) (fun hq_22 => (op_call (js := []) ld cl17 (sim_event_May k (api_Event.mk (api_Dot.mk (0 : Int) (0 : UInt64)) ([] : (List UInt8)) ([] : (List UInt8)) (Vector.replicate 16 (0 : UInt64)) ([] : (List api_Dest))) v_16 (ifT hv_v_16 hq_22)) .func (.cons (HasO.wk (q := A r_api_Event (api_Event.mk (api_Dot.mk (0 : Int) (0 : UInt64)) ([] : (List UInt8)) ([] : (List UInt8)) (Vector.replicate 16 (0 : UInt64)) ([] : (List api_Dest)))) (HasO.cnd (.tmp rfl) hq_22) (wkAK (Wk.st (Wk.pair Wk.refl (Wk.pair Wk.refl (Wk.pair Wk.nil (Wk.pair Wk.refl (Wk.pair Wk.nil Wk.refl)))))))) .nil) rfl).post (fun _ => Imp.refl)) ?_
   replace hx1 := lt1_inv hx1
   obtain ⟨v_17, hv_v_17, hx1⟩ := hx1
   refine JL.cnd (sv := ov (S rB v_17)) (Guard.isT (ltB rfl) rfl rfl) rfl (ltB rfl) (fun hq_23 => op_not lb (HasO.cnd (.tmp rfl) hq_23) hv_v_17) ?_
   replace hx1 := lt1_inv hx1
   obtain ⟨v_18, hv_v_18, hx1⟩ := hx1
   refine jc (op_pickCS lb (.tmp rfl) (fun hb24 => (HasO.cnd (.tmp rfl) hb24)) (fun hb24 => .cB) hv_v_18) ?_
   refine jc (op_assign lb (.tmp rfl)) ?_
   refine JL.nil ?_
   replace hx1 := Option.some.inj hx1
   first | subst hx1 | clear hx1
   exact JQ.join () (Imp.norm (js := []) rfl (.cons rfl .nil))

theorem sim_wire_Put (k : Nat) (n_1 : UInt64) (size_2 : Int) (r : (List UInt8) × Int) (hm : wire_Put k n_1 size_2 = some r) : Sim Try.prog 57 [S (rU UInt64) n_1, S (rI .i64) size_2] [] (γ := Option Nat × Nat) (fun q => [cown q.1 (rU UInt8) r.1 0 q.2]) (fun q => .tup [.val (HDR q.1 0 (List.length r.1) q.2), .val (S (rI .i64) r.2)]) := by
 unfold wire_Put at hm
 refine Sim.of Try.func57 rfl rfl (Nat.le_of_ble_eq_true rfl) (fun e0 w0 => ?_)
 refine JC.at ⟨[(0, ov (S (rU UInt64) n_1)), (1, ov (S (rI .i64) size_2))], [], []⟩ ?_
 refine JC.seq ?_
 refine JC.region ?_
 refine jc (op_assign lb HasO.nilH) ?_
 refine jc (op_assign lb .cI) ?_
 refine JL.nil ?_
 refine JQ.then ?_
 refine JC.seq ?_
 replace hm := bnd_inv hm
 obtain ⟨x_12, hx1, hq1⟩ := hm
 refine JC.seqJ (γ := Unit) (stj := fun q => ⟨[(0, ov (S (rU UInt64) n_1)), (1, ov (S (rI .i64) size_2)), (24, ov (S rB x_12))], [], []⟩) (fun q => ?_) ?_
 · obtain _ := q
   refine JC.at ⟨[(0, ov (S (rU UInt64) n_1)), (1, ov (S (rI .i64) size_2)), (24, ov (S rB x_12))], [], []⟩ ?_
   replace hq1 := iteB_inv hq1
   rcases hq1 with ⟨hc16, hq1⟩ | ⟨hc16, hq1⟩
   · refine JC.condT (.tmp rfl) hc16 ?_
     refine JC.seq ?_
     refine JC.region ?_
     refine jc (op_assign lb HasO.nilH) ?_
     refine jc (op_assign lb .cI) ?_
     refine JL.nil ?_
     refine JQ.then ?_
     refine JC.ret ?_
     refine JQ.outR ?_
     replace hq1 := Option.some.inj hq1
     subst hq1
     refine JQ.pre (Imp.nilown (rU UInt8)) ?_
     exact JQ.done (js := [0]) (ss := [.val (HDR none 0 (List.length ([] : (List UInt8))) (0)), .val (S (rI .i64) (2 : Int))]) (none, 0) (.inl rfl) (.nil rfl) rfl (.cons (.tmp rfl) (.cons (.tmp rfl) .nil)) rfl rfl rfl
   · refine JC.condF (.tmp rfl) hc16 ?_
     refine JC.skip ?_
     refine JQ.then ?_
     refine JC.seq ?_
     refine JC.region ?_
     refine jc (op_assign lb HasO.nilH) ?_
     refine JL.nil ?_
     refine JQ.then ?_
     replace hq1 := bnd_inv hq1
     obtain ⟨b_27, hx17, hq17⟩ := hq1
     refine JC.seqJ (γ := Option Nat × Nat) (stj := fun q => ⟨[(6, ov (HDR q.1 0 (List.length b_27) q.2))], [cown q.1 (rU UInt8) b_27 0 q.2], []⟩) (fun q => ?_) ?_
     · obtain ⟨go_28, gc_29⟩ := q
       refine JC.at ⟨[(6, ov (HDR go_28 0 (List.length b_27) gc_29))], [cown go_28 (rU UInt8) b_27 0 gc_29], []⟩ ?_
       refine JC.seq ?_
       refine JC.region ?_
       refine jc (op_move lb (.tmp rfl)) ?_
       refine jc (op_assign lb (.tmp rfl)) ?_
       refine jc (op_assign lb .cI) ?_
       refine JL.nil ?_
       refine JQ.then ?_
       refine JC.ret ?_
       replace hq17 := Option.some.inj hq17
       subst hq17
       exact JQ.done (js := [0]) (ss := [.val (HDR go_28 0 (List.length b_27) gc_29), .val (S (rI .i64) (0 : Int))]) (go_28, gc_29) (.inl rfl) (.nil rfl) rfl (.cons (.tmp rfl) (.cons (.tmp rfl) .nil)) rfl rfl rfl
     · refine JC.seq ?_
       refine JC.region ?_
       refine jc (op_move lb (.tmp rfl)) ?_
       refine jc (op_move lb .cI) ?_
       refine JL.nil ?_
       refine JQ.then ?_
       refine JC.block ?_
       refine JC.pre (Imp.nilown (rU UInt8)) ?_
       refine JC.pre ?_ (JC.loop (γ := Option Nat × Nat) (stf := fun s q => ⟨[(0, ov (S (rU UInt64) n_1)), (1, ov (S (rI .i64) size_2)), (6, ov (HDR q.1 0 (List.length s.1) q.2)), (25, ov (S (rI .i64) size_2)), (26, ov (S (rI .i64) s.2))], [cown q.1 (rU UInt8) s.1 0 q.2], []⟩) (q := (none, 0)) hx17 ?_)
       · exact (Imp.norm (js := [0]) rfl (.cons rfl (.cons rfl (.cons rfl (.cons rfl (.cons rfl .nil))))))
       · intro s q x hx hr
         obtain ⟨b_13, x_14⟩ := s
         obtain ⟨go_15, gc_16⟩ := q
         change wire_Put.b1 k size_2 n_1 b_13 x_14 = some x at hx
         unfold wire_Put.b1 at hx
         refine JC.at ⟨[(0, ov (S (rU UInt64) n_1)), (1, ov (S (rI .i64) size_2)), (6, ov (HDR go_15 0 (List.length b_13) gc_16)), (25, ov (S (rI .i64) size_2)), (26, ov (S (rI .i64) x_14))], [cown go_15 (rU UInt8) b_13 0 gc_16], []⟩ ?_
         refine JC.seq ?_
         refine JC.region ?_
         replace hx := lt1_inv hx
         obtain ⟨v_17, hv_v_17, hx⟩ := hx
         refine jc (op_cmpI lb (.tmp rfl) (.tmp rfl) (congrArg some hv_v_17)) ?_
         refine JL.nil ?_
         refine JQ.then ?_
         refine JC.seq ?_
         replace hx := iteB_inv hx
         rcases hx with ⟨hc19, hx⟩ | ⟨hc19, hx⟩
         · refine JC.condT (.tmp rfl) hc19 ?_
           refine JC.skip ?_
           refine JQ.then ?_
           refine JC.seq ?_
           refine JC.block ?_
           refine JC.seq ?_
           refine JC.region ?_
           refine jc (op_move lb (.tmp rfl)) ?_
           refine jc (op_assign lb (.tmp rfl)) ?_
           refine JL.nil ?_
           refine JQ.then ?_
           refine JC.region ?_
           refine jc (op_move lb (.tmp rfl)) ?_
           refine jc (op_move lb (.tmp rfl)) ?_
           refine jc (op_move lb (.tmp rfl)) ?_
           replace hx := lt1_inv hx
           obtain ⟨v_18, hv_v_18, hx⟩ := hx
           refine jc (op_arI lb (.tmp rfl) .cI (congrArg some hv_v_18)) ?_
           refine jc (op_move lb (.tmp rfl)) ?_
           replace hx := lt1_inv hx
           obtain ⟨v_19, hv_v_19, hx⟩ := hx
           refine jc (op_arI lb (.tmp rfl) (.tmp rfl) (congrArg some hv_v_19)) ?_
           replace hx := lt1_inv hx
           obtain ⟨v_20, hv_v_20, hx⟩ := hx
           refine jc (op_arI lb .cI (.tmp rfl) (congrArg some hv_v_20)) ?_
           replace hx := bnd_inv hx
           obtain ⟨v_21, hv_v_21, hx⟩ := hx
           refine jc (op_shrUI lb (.tmp rfl) (.tmp rfl) hv_v_21) ?_
           replace hx := lt1_inv hx
           obtain ⟨v_22, hv_v_22, hx⟩ := hx
           refine jc (op_convUU lb tu22 tu5 (.tmp rfl) hv_v_22) ?_
           refine JL.sub ⟨[(0, ov (S (rU UInt64) n_1)), (1, ov (S (rI .i64) size_2)), (6, ov (HDR go_15 0 (List.length b_13) gc_16)), (25, ov (S (rI .i64) size_2)), (26, ov (S (rI .i64) x_14)), (29, ov (HDR go_15 0 (List.length b_13) gc_16)), (37, ov (S (rU UInt8) v_22))], [cown go_15 (rU UInt8) b_13 0 gc_16], []⟩ (.cons rfl (.cons rfl (.cons rfl (.cons rfl (.cons rfl (.cons rfl (.cons rfl .nil))))))) rfl rfl ?_
           refine jc (op_buildF (r := (rU UInt8)) lb tu35 tz5 tZ5 rfl (Nat.le_of_ble_eq_true rfl) (.S rfl (.tmp rfl) .nil) rfl) ?_
           replace hx := bnd_inv hx
           obtain ⟨b_23, hv_b_23, hx⟩ := hx
           refine jx (op_appendL (j := 0) lb tu35 tu35 rfl tB5 rfl (Nat.lt_of_lt_of_le Nat.zero_lt_one (Nat.le_of_ble_eq_true rfl)) (Nat.lt_of_lt_of_le Nat.zero_lt_one (Nat.le_of_ble_eq_true rfl))  rfl (.tmp rfl) (.tmp rfl) hv_b_23) (fun q => ?_)
           obtain ⟨go_24, gc_25⟩ := q
           refine jc (op_assign lb (.tmp rfl)) ?_
           refine JL.nil ?_
           refine JQ.outNB ?_
           refine JQ.then ?_
           refine JC.region ?_
           replace hx := lt1_inv hx
           obtain ⟨v_26, hv_v_26, hx⟩ := hx
           refine jc (op_arI lb (.tmp rfl) .cI (congrArg some hv_v_26)) ?_
           refine jc (op_move lb (.tmp rfl)) ?_
           refine JL.nil ?_
           replace hx := Option.some.inj hx
           first | subst hx | clear hx
           exact JQ.next (go_24, gc_25) rfl (Imp.norm (js := [0]) rfl (.cons rfl (.cons rfl (.cons rfl (.cons rfl (.cons rfl .nil))))))
         · refine JC.condF (.tmp rfl) hc19 ?_
           refine JC.exit ?_
           refine JQ.outX ?_
           replace hx := Option.some.inj hx
           first | subst hx | clear hx
           have ht := hr _ rfl
           have hq18 := congrArg some ht
           clear hr ht
           refine JQ.outX ?_
           refine JQ.here ?_
           replace hq18 := Option.some.inj hq18
           first | subst hq18 | clear hq18
           exact JQ.join (go_15, gc_16) (Imp.norm (js := [0]) rfl (.cons rfl .nil))
 · refine JC.region ?_
   refine jc (op_move lb (.tmp rfl)) ?_
   replace hx1 := lt1_inv hx1
   obtain ⟨v_3, hv_v_3, hx1⟩ := hx1
   refine jc (op_cmpI lb (.tmp rfl) .cI (congrArg some hv_v_3)) ?_
   refine jc (op_move lb (.tmp rfl)) ?_
   refine JL.cnd (sv := ov (S (rI .i64) size_2)) (Guard.isF (ltB rfl) rfl rfl) rfl (ltB rfl) (fun hq_2 => op_move lb (.tmp rfl)) ?_
   replace hx1 := lt1_inv hx1
   obtain ⟨v_4, hv_v_4, hx1⟩ := hx1
   refine JL.cnd (sv := ov (S rB v_4)) (Guard.isF (ltB rfl) rfl rfl) rfl (ltB rfl) (fun hq_3 => op_cmpI lb (HasO.cnd (.tmp rfl) (notT (notF hq_3))) .cI (congrArg some hv_v_4)) ?_
   replace hx1 := lt1_inv hx1
   obtain ⟨v_5, hv_v_5, hx1⟩ := hx1
   refine jc (op_pickCS lb (.tmp rfl) (fun hb4 => .cB) (fun hb4 => (HasO.cnd (.tmp rfl) (notT hb4))) hv_v_5) ?_
   refine jc (op_move lb (.tmp rfl)) ?_
   refine JL.cnd (sv := ov (S (rI .i64) size_2)) (Guard.isF (ltB rfl) rfl rfl) rfl (ltB rfl) (fun hq_5 => op_move lb (.tmp rfl)) ?_
   replace hx1 := lt1_inv hx1
   obtain ⟨v_6, hv_v_6, hx1⟩ := hx1
   refine JL.cnd (sv := ov (S rB v_6)) (Guard.isF (ltB rfl) rfl rfl) rfl (ltB rfl) (fun hq_6 => op_cmpI lb (HasO.cnd (.tmp rfl) (notT (notF hq_6))) .cI (congrArg some hv_v_6)) ?_
   refine JL.cnd (sv := ov (S rB v_6)) (Guard.isF (ltB rfl) rfl rfl) rfl (ltB rfl) (fun hq_7 => op_move lb (HasO.cnd (.tmp rfl) (notT (notF hq_7)))) ?_
   refine JL.sub ⟨[(0, ov (S (rU UInt64) n_1)), (1, ov (S (rI .i64) size_2)), (14, ov (S rB v_5)), (17, bif (!v_5) then ov (S rB v_6) else .one .und)], [], []⟩ (.cons rfl (.cons rfl (.cons rfl (.cons rfl .nil)))) rfl rfl ?_
   refine JL.cnd (sv := ov (S (rU UInt64) n_1)) (Guard.cT (q := (!v_5)) (ltB rfl) rfl rfl) rfl (ltB rfl) (fun hq_8 => op_move lb (.tmp rfl)) ?_
   refine JL.cnd (sv := ov (S (rI .i64) size_2)) (Guard.cT (q := (!v_5)) (ltB rfl) rfl rfl) rfl (ltB rfl) (fun hq_9 => op_move lb (.tmp rfl)) ?_
   replace hx1 := lt1_inv hx1
   obtain ⟨v_7, hv_v_7, hx1⟩ := hx1
   refine JL.cnd (sv := ov (S (rI .i64) v_7)) (Guard.cT (q := (!v_5)) (ltB rfl) rfl rfl) rfl (ltB rfl) (fun hq_10 => op_arI lb .cI (HasO.cnd (.tmp rfl) (andI (notT (notF (andL hq_10))) (andR hq_10))) (congrArg some hv_v_7)) ?_
   replace hx1 := bnd_inv hx1
   obtain ⟨v_8, hv_v_8, hx1⟩ := hx1
   refine JL.cnd (sv := ov (S (rU UInt64) v_8)) (Guard.cT (q := (!v_5)) (ltB rfl) rfl rfl) rfl (ltB rfl) (fun hq_11 => op_shrUI lb (HasO.cnd (.tmp rfl) (andI (notT (notF (andL hq_11))) (andR hq_11))) (HasO.cnd (.tmp rfl) (andI (notT (notF (andL hq_11))) (andR hq_11))) (ifT hv_v_8 hq_11)) ?_
   replace hx1 := lt1_inv hx1
   obtain ⟨v_9, hv_v_9, hx1⟩ := hx1
   refine JL.cnd (sv := ov (S rB v_9)) (Guard.cT (q := (!v_5)) (ltB rfl) rfl rfl) rfl (ltB rfl) (fun hq_12 => op_cmpU lb (HasO.cnd (.tmp rfl) (andI (notT (notF (andL hq_12))) (andR hq_12))) (HasO.cU (x := (0 : UInt64)) rfl (by decide)) (congrArg some hv_v_9)) ?_
   replace hx1 := lt1_inv hx1
   obtain ⟨v_10, hv_v_10, hx1⟩ := hx1
   refine JL.cnd (sv := ov (S rB v_10)) (Guard.isF (ltB rfl) rfl rfl) rfl (ltB rfl) (fun hq_13 => op_pickCS lb (HasO.cnd (.tmp rfl) (notT (notF hq_13))) (fun hb14 => (HasO.cnd (.tmp rfl) (andI (notT (notF hq_13)) hb14))) (fun hb14 => .cB) hv_v_10) ?_
   replace hx1 := lt1_inv hx1
   obtain ⟨v_11, hv_v_11, hx1⟩ := hx1
   refine jc (op_pickCS lb (.tmp rfl) (fun hb15 => .cB) (fun hb15 => (HasO.cnd (.tmp rfl) (notT hb15))) hv_v_11) ?_
   refine JL.nil ?_
   replace hx1 := Option.some.inj hx1
   first | subst hx1 | clear hx1
   exact JQ.join () (Imp.norm (js := []) rfl (.cons rfl (.cons rfl (.cons rfl .nil))))

theorem sim_wire_Dot (k : Nat) (d_1 : api_Dot) (r : (List UInt8) × Int) (hm : wire_Dot k d_1 = some r) : Sim Try.prog 54 [A r_api_Dot d_1] [] (γ := Option Nat × Nat) (fun q => [cown q.1 (rU UInt8) r.1 0 q.2]) (fun q => .tup [.val (HDR q.1 0 (List.length r.1) q.2), .val (S (rI .i64) r.2)]) := by
 unfold wire_Dot at hm
 refine Sim.of Try.func54 rfl rfl (Nat.le_of_ble_eq_true rfl) (fun e0 w0 => ?_)
 refine JC.at ⟨[(0, ov (A r_api_Dot d_1))], [], []⟩ ?_
 refine JC.seq ?_
 refine JC.region ?_
 refine jx (op_boxA lb (.tmp rfl)) (fun q => ?_)
 obtain ⟨gb_2, hqq⟩ : ∃ z, z = q := ⟨_, rfl⟩
 subst hqq
 refine jc (op_assign lb HasO.nilH) ?_
 refine jc (op_assign lb .cI) ?_
 refine JL.nil ?_
 refine JQ.then ?_
 refine JC.seq ?_
 replace hm := bnd_inv hm
 obtain ⟨x_5, hx1, hq1⟩ := hm
 refine JC.seqJ (γ := Unit) (stj := fun q => ⟨[(1, ov (PTR gb_2 0)), (13, ov (S rB x_5))], [cvar gb_2 r_api_Dot d_1], []⟩) (fun q => ?_) ?_
 · obtain _ := q
   refine JC.at ⟨[(1, ov (PTR gb_2 0)), (13, ov (S rB x_5))], [cvar gb_2 r_api_Dot d_1], []⟩ ?_
   replace hq1 := iteB_inv hq1
   rcases hq1 with ⟨hc4, hq1⟩ | ⟨hc4, hq1⟩
   · refine JC.condT (.tmp rfl) hc4 ?_
     refine JC.seq ?_
     refine JC.region ?_
     refine jc (op_assign lb HasO.nilH) ?_
     refine jc (op_assign lb .cI) ?_
     refine JL.nil ?_
     refine JQ.then ?_
     refine JC.ret ?_
     refine JQ.outR ?_
     replace hq1 := Option.some.inj hq1
     subst hq1
     refine JQ.pre (Imp.nilown (rU UInt8)) ?_
     exact JQ.done (js := [1]) (ss := [.val (HDR none 0 (List.length ([] : (List UInt8))) (0)), .val (S (rI .i64) (2 : Int))]) (none, 0) (.inl rfl) (.nil rfl) rfl (.cons (.tmp rfl) (.cons (.tmp rfl) .nil)) rfl rfl rfl
   · refine JC.condF (.tmp rfl) hc4 ?_
     refine JC.skip ?_
     refine JQ.then ?_
     refine JC.seq ?_
     refine JC.region ?_
     refine jc (op_fieldAddr (off := 1) lb tf24_1 (.tmp rfl)) ?_
     refine jc (op_loadS (j := 0) lb tS22 (.tmp rfl) rfl (Comp.trans (Comp.self r_api_Dot d_1) (comp_api_Dot_Count d_1) (Nat.le_of_ble_eq_true rfl)) rfl rfl) ?_
     replace hq1 := bnd_inv hq1
     obtain ⟨⟨v_6, v_7⟩, hv_v_6, hq1⟩ := hq1
     refine jx (op_call (js := []) ld cl57 (sim_wire_Put k d_1.Count (8 : Int) (v_6, v_7) hv_v_6) .func (.cons (.tmp rfl) (.cons .cI .nil)) rfl) (fun q => ?_)
     obtain ⟨go_8, gc_9⟩ := q
     refine jc (op_move lb (.tmp rfl)) ?_
     refine jc (op_extract (i := 0) lb (.tmp rfl) rfl) ?_
     refine jc (op_extract (i := 1) lb (.tmp rfl) rfl) ?_
     refine jc (op_assign lb (.tmp rfl)) ?_
     refine jc (op_assign lb (.tmp rfl)) ?_
     refine JL.nil ?_
     refine JQ.then ?_
     refine JC.seq ?_
     refine JC.region ?_
     refine jc (op_fieldAddr (off := 0) lb tf24_0 (.tmp rfl)) ?_
     refine jc (op_loadS (j := 1) lb tS3 (.tmp rfl) rfl (Comp.trans (Comp.self r_api_Dot d_1) (comp_api_Dot_Region d_1) (Nat.le_of_ble_eq_true rfl)) rfl rfl) ?_
     refine JL.nrm ⟨[(4, ov (HDR go_8 0 (List.length v_6) gc_9)), (21, ov (S (rI .i64) d_1.Region))], [cown go_8 (rU UInt8) v_6 0 gc_9], []⟩ [0] rfl (.cons rfl (.cons rfl .nil)) rfl ?_
     replace hq1 := lt1_inv hq1
     obtain ⟨v_10, hv_v_10, hq1⟩ := hq1
     refine jc (op_convIU lb tu3 tu5 (.tmp rfl) hv_v_10) ?_
     refine jx (op_buildO (r := (rU UInt8)) lb tu35 tz5 tZ5 rfl (Nat.le_of_ble_eq_true rfl) (.S rfl (.tmp rfl) .nil) rfl) (fun q => ?_)
     obtain ⟨gb_11, hqq⟩ : ∃ z, z = q := ⟨_, rfl⟩
     subst hqq
     refine jc (op_move lb (.tmp rfl)) ?_
     replace hq1 := bnd_inv hq1
     obtain ⟨x_12, hv_x_12, hq1⟩ := hq1
     refine jx (op_appendO (j := 1) (j' := 0) lb tu35 tu35 rfl tB5 rfl (Nat.lt_of_lt_of_le Nat.zero_lt_one (Nat.le_of_ble_eq_true rfl)) (Nat.lt_of_lt_of_le Nat.zero_lt_one (Nat.le_of_ble_eq_true rfl))  rfl (.tmp rfl) rfl (.tmp rfl) hv_x_12) (fun q => ?_)
     obtain ⟨go_13, gc_14⟩ := q
     refine jc (op_assign lb (.tmp rfl)) ?_
     refine jc (op_assign lb .cI) ?_
     refine JL.nil ?_
     refine JQ.then ?_
     refine JC.ret ?_
     replace hq1 := Option.some.inj hq1
     subst hq1
     exact JQ.done (js := [1]) (ss := [.val (HDR go_13 0 (List.length x_12) gc_14), .val (S (rI .i64) (0 : Int))]) (go_13, gc_14) (.inl rfl) (.nil rfl) rfl (.cons (.tmp rfl) (.cons (.tmp rfl) .nil)) rfl rfl rfl
 · refine JC.region ?_
   refine jc (op_fieldAddr (off := 0) lb tf24_0 (.tmp rfl)) ?_
   refine jc (op_loadS (j := 0) lb tS3 (.tmp rfl) rfl (Comp.trans (Comp.self r_api_Dot d_1) (comp_api_Dot_Region d_1) (Nat.le_of_ble_eq_true rfl)) rfl rfl) ?_
   replace hx1 := lt1_inv hx1
   obtain ⟨v_3, hv_v_3, hx1⟩ := hx1
   refine jc (op_cmpI lb (.tmp rfl) .cI (congrArg some hv_v_3)) ?_
   refine jc (op_move lb (.tmp rfl)) ?_
   replace hx1 := iteB_inv hx1
   rcases hx1 with ⟨hc3, hx1⟩ | ⟨hc3, hx1⟩
   · refine JL.skip (.no rfl (ltB rfl) rfl hc3) (fun d h => by cases h; exact ltB rfl) ?_
     refine JL.skip (.no rfl (ltB rfl) rfl hc3) (fun d h => by cases h; exact ltB rfl) ?_
     refine JL.skip (.no rfl (ltB rfl) rfl hc3) (fun d h => by cases h; exact ltB rfl) ?_
     refine jc (op_pickT lb (.tmp rfl) hc3 .cB) ?_
     refine JL.nil ?_
     replace hx1 := Option.some.inj hx1
     first | subst hx1 | clear hx1
     exact JQ.join () (Imp.norm (js := [0]) rfl (.cons rfl (.cons rfl .nil)))
   · refine JL.run (.yes rfl (ltB rfl) rfl hc3) (op_fieldAddr (off := 0) lb tf24_0 (.tmp rfl)) ?_
     refine JL.run (.yes rfl (ltB rfl) rfl hc3) (op_loadS (j := 0) lb tS3 (.tmp rfl) rfl (Comp.trans (Comp.self r_api_Dot d_1) (comp_api_Dot_Region d_1) (Nat.le_of_ble_eq_true rfl)) rfl rfl) ?_
     replace hx1 := lt1_inv hx1
     obtain ⟨v_4, hv_v_4, hx1⟩ := hx1
     refine JL.run (.yes rfl (ltB rfl) rfl hc3) (op_cmpI lb (.tmp rfl) .cI (congrArg some hv_v_4)) ?_
     refine JL.sub ⟨[(1, ov (PTR gb_2 0)), (9, ov (S rB v_3)), (12, ov (S rB v_4))], [cvar gb_2 r_api_Dot d_1], []⟩ (.cons rfl (.cons rfl (.cons rfl .nil))) rfl rfl ?_
     refine jc (op_pickF lb (.tmp rfl) hc3 (.tmp rfl)) ?_
     refine JL.nil ?_
     replace hx1 := Option.some.inj hx1
     first | subst hx1 | clear hx1
     exact JQ.join () (Imp.norm (js := [0]) rfl (.cons rfl (.cons rfl .nil)))

theorem sim_event_bytes_1 (k : Nat) (x_1 : (List UInt8)) (v_2 : Int) (gb_3 : Nat) (r : (List UInt8)) (hm : event_bytes_1 k x_1 v_2 = some r) : Sim Try.prog 53 [S (rL (rU UInt8)) x_1, S (rI .i64) v_2, PTR gb_3 0] [cvar gb_3 (rW (HDR none 0 0 0)) ()] (γ := Option Nat × Nat) (fun q => [cvar gb_3 (rW (HDR q.1 0 (List.length r) q.2)) (), cown q.1 (rU UInt8) r 0 q.2]) (fun q => .tup []) := by
 unfold event_bytes_1 at hm
 refine Sim.of Try.func53 rfl rfl (Nat.le_of_ble_eq_true rfl) (fun e0 w0 => ?_)
 refine JC.at ⟨[(0, ov (S (rL (rU UInt8)) x_1)), (1, ov (S (rI .i64) v_2)), (2, ov (PTR gb_3 0))], [cvar gb_3 (rW (HDR none 0 0 0)) ()], []⟩ ?_
 refine JC.region ?_
 refine jc (op_loadW (j := 0) lb tS35 (.tmp rfl) rfl (Comp.self (rW (HDR none 0 0 0)) ())) ?_
 refine jc (op_move lb (.tmp rfl)) ?_
 replace hm := bnd_inv hm
 obtain ⟨v_4, hv_v_4, hm⟩ := hm
 refine JL.pre (Imp.nilown (rU UInt8)) ?_
 refine jx (op_appendL (j := 1) lb tu35 tu35 rfl tB5 rfl (Nat.lt_of_lt_of_le Nat.zero_lt_one (Nat.le_of_ble_eq_true rfl)) (Nat.lt_of_lt_of_le Nat.zero_lt_one (Nat.le_of_ble_eq_true rfl))  rfl (.tmp rfl) (.tmp rfl) hv_v_4) (fun q => ?_)
 obtain ⟨go_5, gc_6⟩ := q
 refine JL.sub ⟨[(2, ov (PTR gb_3 0)), (7, ov (HDR go_5 0 (List.length v_4) gc_6))], [cvar gb_3 (rW (HDR none 0 0 0)) (), cown go_5 (rU UInt8) v_4 0 gc_6], []⟩ (.cons rfl (.cons rfl .nil)) rfl rfl ?_
 refine jc (op_storeW (j := 0) tS35 (.tmp rfl) (.tmp rfl) rfl (UpdR.self (by rfl)) rfl) ?_
 refine JL.nil ?_
 replace hm := Option.some.inj hm
 subst hm
 exact JQ.done (js := [0, 0]) (ss := []) (go_5, gc_6) (.inr rfl) (.nil rfl) rfl .nil rfl rfl rfl

end Go.Proofs.Ythoggbomakolkaa
