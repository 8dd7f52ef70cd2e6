/- Walks. -/
import Derived.Test.YthoggbomakolkaaT
import Derived.Test.YthoggbomakolkaaW1
import Derived.Test.YthoggbomakolkaaW2
import Derived.Test.YthoggbomakolkaaW3
namespace Go.Proofs.Ythoggbomakolkaa
open Go Fw
set_option linter.unusedVariables false
set_option maxRecDepth 100000
set_option maxHeartbeats 4000000

theorem sim_law09_known (k : Nat) (r : Bool) (hm : law09_known k = some r) : Sim Try.prog 10 [] [] (γ := Unit) (fun q => []) (fun q => .one (.val (S rB r))) := by
  unfold law09_known at hm
  refine Sim.of Try.func10 rfl rfl (Nat.le_of_ble_eq_true rfl) (fun e0 w0 => ?_)
  refine JC.at ⟨[], [], []⟩ ?_
  refine JC.seq ?_
  refine JC.region ?_
  refine JL.cons rfl (op_assign (ltB rfl) .cB) ?_
  refine JL.nil ?_
  refine JQ.then ?_
  refine JC.seq ?_
  refine JC.region ?_
  refine JL.cons rfl (op_build (ltB rfl) tZ24 zs24 tp24 (.S (off := 0) rfl .cI rfl ((UpdR.fst (UpdR.self rfl)).at rfl) (.S (off := 1) rfl (HasO.cU (x := (5 : UInt64)) rfl (by decide)) rfl ((UpdR.snd (UpdR.fst (UpdR.self rfl))).at rfl) .nil)) rfl) ?_
  refine JL.cons rfl (op_build (ltB rfl) tZ26 zv26 tp26 (.S (off := 0) rfl (HasO.cU (x := (7 : UInt64)) rfl (by decide)) rfl ((Upd.at (off := 0) (i := 0) (Comp.self (rV 16 (rU UInt64)) (Vector.replicate 16 (0 : UInt64))) (by decide) rfl (Upd.self (rV 16 (rU UInt64)) (Vector.replicate 16 (0 : UInt64)) _)).R.at rfl) (.S (off := 1) rfl (HasO.cU (x := (4 : UInt64)) rfl (by decide)) rfl ((Upd.at (off := 0) (i := 1) (Comp.self (rV 16 (rU UInt64)) (Vector.set (Vector.replicate 16 (0 : UInt64)) 0 (7 : UInt64) (by decide))) (by decide) rfl (Upd.self (rV 16 (rU UInt64)) (Vector.set (Vector.replicate 16 (0 : UInt64)) 0 (7 : UInt64) (by decide)) _)).R.at rfl) .nil)) rfl) ?_
  refine JL.cons rfl (op_build (ltB rfl) tZ38 zr38 tp38 (.A (off := 0) rfl (HasO.wk (q := A r_api_Dot (api_Dot.mk (2 : Int) (5 : UInt64))) (.tmp rfl) (wkAK (Wk.st Wk.refl))) ((UpdR.fst (UpdR.self rfl)).at rfl) (.S (off := 2) rfl (HasO.cS (l := [116]) rfl) rfl ((UpdR.snd (UpdR.fst (UpdR.self rfl))).at rfl) (.A (off := 4) rfl (.tmp rfl) ((UpdR.snd (UpdR.snd (UpdR.snd (UpdR.fst (UpdR.self rfl))))).at rfl) .nil))) rfl) ?_
  refine JL.consX rfl (op_alloc (ltB rfl) tZ38 zr38) (fun q => ?_)
  obtain ⟨gb_1, hqq⟩ : ∃ z, z = q := ⟨_, rfl⟩
  subst hqq
  refine JL.pre (Imp.sub (ρ' := [(1, .one (.val (PTR gb_1 0))), (6, .one (.val (A (rP r_api_Dot (rP rS (rP (rW (HDR none 0 0 0)) (rP (rV 16 (rU UInt64)) (rP (rW (HDR none 0 0 0)) r0))))) ((api_Dot.mk (2 : Int) (5 : UInt64)), (([116] : List UInt8), ((), ((Vector.set (Vector.set (Vector.replicate 16 (0 : UInt64)) 0 (7 : UInt64) (by decide)) 1 (4 : UInt64) (by decide)), ((), ()))))))))]) (.cons rfl (.cons rfl .nil))) ?_
  refine JL.at ⟨[(1, .one (.val (PTR gb_1 0))), (6, .one (.val (A (rP r_api_Dot (rP rS (rP (rW (HDR none 0 0 0)) (rP (rV 16 (rU UInt64)) (rP (rW (HDR none 0 0 0)) r0))))) ((api_Dot.mk (2 : Int) (5 : UInt64)), (([116] : List UInt8), ((), ((Vector.set (Vector.set (Vector.replicate 16 (0 : UInt64)) 0 (7 : UInt64) (by decide)) 1 (4 : UInt64) (by decide)), ((), ()))))))))], [cvar gb_1 (rP r_api_Dot (rP rS (rP (rW (HDR none 0 0 0)) (rP (rV 16 (rU UInt64)) (rP (rW (HDR none 0 0 0)) r0))))) ((api_Dot.mk (0 : Int) (0 : UInt64)), (([] : (List UInt8)), ((), ((Vector.replicate 16 (0 : UInt64)), ((), ())))))], []⟩ ?_
  refine JL.cons rfl (op_storeA (j := 0) tA38 (.tmp rfl) (.tmp rfl) rfl (UpdR.self rfl) rfl) ?_
  refine JL.pre (Imp.sub (ρ' := [(1, .one (.val (PTR gb_1 0)))]) (.cons rfl .nil)) ?_
  refine JL.at ⟨[(1, .one (.val (PTR gb_1 0)))], [cvar gb_1 (rP r_api_Dot (rP rS (rP (rW (HDR none 0 0 0)) (rP (rV 16 (rU UInt64)) (rP (rW (HDR none 0 0 0)) r0))))) ((api_Dot.mk (2 : Int) (5 : UInt64)), (([116] : List UInt8), ((), ((Vector.set (Vector.set (Vector.replicate 16 (0 : UInt64)) 0 (7 : UInt64) (by decide)) 1 (4 : UInt64) (by decide)), ((), ())))))], []⟩ ?_
  refine JL.nil ?_
  refine JQ.then ?_
  refine JC.seq ?_
  refine JC.region ?_
  refine JL.cons rfl (op_build (ltB rfl) tZ24 zs24 tp24 (.S (off := 0) rfl .cI rfl ((UpdR.fst (UpdR.self rfl)).at rfl) (.S (off := 1) rfl (HasO.cU (x := (4 : UInt64)) rfl (by decide)) rfl ((UpdR.snd (UpdR.fst (UpdR.self rfl))).at rfl) .nil)) rfl) ?_
  refine JL.cons rfl (op_build (ltB rfl) tZ24 zs24 tp24 (.S (off := 0) rfl .cI rfl ((UpdR.fst (UpdR.self rfl)).at rfl) (.S (off := 1) rfl (HasO.cU (x := (5 : UInt64)) rfl (by decide)) rfl ((UpdR.snd (UpdR.fst (UpdR.self rfl))).at rfl) .nil)) rfl) ?_
  refine JL.consX rfl (op_alloc (ltB rfl) tZ24 zr24) (fun q => ?_)
  obtain ⟨gb_2, hqq⟩ : ∃ z, z = q := ⟨_, rfl⟩
  subst hqq
  refine JL.pre (Imp.sub (ρ' := [(1, .one (.val (PTR gb_1 0))), (2, .one (.val (PTR gb_2 0))), (7, .one (.val (A (rP (rI .i64) (rP (rU UInt64) r0)) ((2 : Int), ((4 : UInt64), ()))))), (8, .one (.val (A (rP (rI .i64) (rP (rU UInt64) r0)) ((2 : Int), ((5 : UInt64), ())))))]) (.cons rfl (.cons rfl (.cons rfl (.cons rfl .nil))))) ?_
  refine JL.at ⟨[(1, .one (.val (PTR gb_1 0))), (2, .one (.val (PTR gb_2 0))), (7, .one (.val (A (rP (rI .i64) (rP (rU UInt64) r0)) ((2 : Int), ((4 : UInt64), ()))))), (8, .one (.val (A (rP (rI .i64) (rP (rU UInt64) r0)) ((2 : Int), ((5 : UInt64), ())))))], [cvar gb_1 (rP r_api_Dot (rP rS (rP (rW (HDR none 0 0 0)) (rP (rV 16 (rU UInt64)) (rP (rW (HDR none 0 0 0)) r0))))) ((api_Dot.mk (2 : Int) (5 : UInt64)), (([116] : List UInt8), ((), ((Vector.set (Vector.set (Vector.replicate 16 (0 : UInt64)) 0 (7 : UInt64) (by decide)) 1 (4 : UInt64) (by decide)), ((), ()))))), cvar gb_2 r_api_Dot (api_Dot.mk (0 : Int) (0 : UInt64))], []⟩ ?_
  refine JL.consX rfl (op_alloc (ltB rfl) tZ24 zr24) (fun q => ?_)
  obtain ⟨gb_3, hqq⟩ : ∃ z, z = q := ⟨_, rfl⟩
  subst hqq
  refine JL.pre (Imp.sub (ρ' := [(1, .one (.val (PTR gb_1 0))), (2, .one (.val (PTR gb_2 0))), (3, .one (.val (PTR gb_3 0))), (7, .one (.val (A (rP (rI .i64) (rP (rU UInt64) r0)) ((2 : Int), ((4 : UInt64), ()))))), (8, .one (.val (A (rP (rI .i64) (rP (rU UInt64) r0)) ((2 : Int), ((5 : UInt64), ())))))]) (.cons rfl (.cons rfl (.cons rfl (.cons rfl (.cons rfl .nil)))))) ?_
  refine JL.at ⟨[(1, .one (.val (PTR gb_1 0))), (2, .one (.val (PTR gb_2 0))), (3, .one (.val (PTR gb_3 0))), (7, .one (.val (A (rP (rI .i64) (rP (rU UInt64) r0)) ((2 : Int), ((4 : UInt64), ()))))), (8, .one (.val (A (rP (rI .i64) (rP (rU UInt64) r0)) ((2 : Int), ((5 : UInt64), ())))))], [cvar gb_1 (rP r_api_Dot (rP rS (rP (rW (HDR none 0 0 0)) (rP (rV 16 (rU UInt64)) (rP (rW (HDR none 0 0 0)) r0))))) ((api_Dot.mk (2 : Int) (5 : UInt64)), (([116] : List UInt8), ((), ((Vector.set (Vector.set (Vector.replicate 16 (0 : UInt64)) 0 (7 : UInt64) (by decide)) 1 (4 : UInt64) (by decide)), ((), ()))))), cvar gb_2 r_api_Dot (api_Dot.mk (0 : Int) (0 : UInt64)), cvar gb_3 r_api_Dot (api_Dot.mk (0 : Int) (0 : UInt64))], []⟩ ?_
  refine JL.cons rfl (op_storeA (j := 1) tA24 (.tmp rfl) (.tmp rfl) rfl (UpdR.self rfl) rfl) ?_
  refine JL.pre (Imp.sub (ρ' := [(1, .one (.val (PTR gb_1 0))), (2, .one (.val (PTR gb_2 0))), (3, .one (.val (PTR gb_3 0))), (8, .one (.val (A (rP (rI .i64) (rP (rU UInt64) r0)) ((2 : Int), ((5 : UInt64), ())))))]) (.cons rfl (.cons rfl (.cons rfl (.cons rfl .nil))))) ?_
  refine JL.at ⟨[(1, .one (.val (PTR gb_1 0))), (2, .one (.val (PTR gb_2 0))), (3, .one (.val (PTR gb_3 0))), (8, .one (.val (A (rP (rI .i64) (rP (rU UInt64) r0)) ((2 : Int), ((5 : UInt64), ())))))], [cvar gb_1 (rP r_api_Dot (rP rS (rP (rW (HDR none 0 0 0)) (rP (rV 16 (rU UInt64)) (rP (rW (HDR none 0 0 0)) r0))))) ((api_Dot.mk (2 : Int) (5 : UInt64)), (([116] : List UInt8), ((), ((Vector.set (Vector.set (Vector.replicate 16 (0 : UInt64)) 0 (7 : UInt64) (by decide)) 1 (4 : UInt64) (by decide)), ((), ()))))), cvar gb_2 (rP (rI .i64) (rP (rU UInt64) r0)) ((2 : Int), ((4 : UInt64), ())), cvar gb_3 r_api_Dot (api_Dot.mk (0 : Int) (0 : UInt64))], []⟩ ?_
  refine JL.cons rfl (op_storeA (j := 2) tA24 (.tmp rfl) (.tmp rfl) rfl (UpdR.self rfl) rfl) ?_
  refine JL.pre (Imp.sub (ρ' := [(1, .one (.val (PTR gb_1 0))), (2, .one (.val (PTR gb_2 0))), (3, .one (.val (PTR gb_3 0)))]) (.cons rfl (.cons rfl (.cons rfl .nil)))) ?_
  refine JL.at ⟨[(1, .one (.val (PTR gb_1 0))), (2, .one (.val (PTR gb_2 0))), (3, .one (.val (PTR gb_3 0)))], [cvar gb_1 (rP r_api_Dot (rP rS (rP (rW (HDR none 0 0 0)) (rP (rV 16 (rU UInt64)) (rP (rW (HDR none 0 0 0)) r0))))) ((api_Dot.mk (2 : Int) (5 : UInt64)), (([116] : List UInt8), ((), ((Vector.set (Vector.set (Vector.replicate 16 (0 : UInt64)) 0 (7 : UInt64) (by decide)) 1 (4 : UInt64) (by decide)), ((), ()))))), cvar gb_2 (rP (rI .i64) (rP (rU UInt64) r0)) ((2 : Int), ((4 : UInt64), ())), cvar gb_3 (rP (rI .i64) (rP (rU UInt64) r0)) ((2 : Int), ((5 : UInt64), ()))], []⟩ ?_
  refine JL.nil ?_
  refine JQ.then ?_
  obtain ⟨x_19, hx1, hq1⟩ := bnd_inv hm
  refine JC.seqJ (γ := Unit) (stj := fun q => ⟨[(0, .one (.val (S rB x_19)))], [], []⟩) (fun q => ?_) ?_
  · obtain _ := q
    refine JC.at ⟨[(0, .one (.val (S rB x_19)))], [], []⟩ ?_
    refine JC.ret ?_
    replace hq1 := Option.some.inj hq1
    subst hq1
    exact JQ.done (js := []) (ss := [.val (S rB x_19)]) () (.inl rfl) (.nil rfl) rfl (.cons (.tmp rfl) .nil) rfl rfl rfl
  · refine JC.region ?_
    refine JL.cons rfl (op_loadA (j := 0) (ltB rfl) tA38 (.tmp rfl) rfl (Comp.self (rP r_api_Dot (rP rS (rP (rW (HDR none 0 0 0)) (rP (rV 16 (rU UInt64)) (rP (rW (HDR none 0 0 0)) r0))))) ((api_Dot.mk (2 : Int) (5 : UInt64)), (([116] : List UInt8), ((), ((Vector.set (Vector.set (Vector.replicate 16 (0 : UInt64)) 0 (7 : UInt64) (by decide)) 1 (4 : UInt64) (by decide)), ((), ())))))) rfl) ?_
    refine JL.cons rfl (op_build (ltB rfl) tZ26 zv26 tp26 (.S (off := 0) rfl (HasO.cU (x := (7 : UInt64)) rfl (by decide)) rfl ((Upd.at (off := 0) (i := 0) (Comp.self (rV 16 (rU UInt64)) (Vector.replicate 16 (0 : UInt64))) (by decide) rfl (Upd.self (rV 16 (rU UInt64)) (Vector.replicate 16 (0 : UInt64)) _)).R.at rfl) (.S (off := 1) rfl (HasO.cU (x := (4 : UInt64)) rfl (by decide)) rfl ((Upd.at (off := 0) (i := 1) (Comp.self (rV 16 (rU UInt64)) (Vector.set (Vector.replicate 16 (0 : UInt64)) 0 (7 : UInt64) (by decide))) (by decide) rfl (Upd.self (rV 16 (rU UInt64)) (Vector.set (Vector.replicate 16 (0 : UInt64)) 0 (7 : UInt64) (by decide)) _)).R.at rfl) .nil)) rfl) ?_
    replace hx1 := bnd_inv hx1
    obtain ⟨v_4, hv_v_4, hx1⟩ := hx1
    refine JL.consX rfl (op_call (js := []) (ltD rfl) cl13 (sim_event_Ready k (api_Event.mk (api_Dot.mk (2 : Int) (5 : UInt64)) ([116] : List UInt8) ([] : (List UInt8)) (Vector.set (Vector.set (Vector.replicate 16 (0 : UInt64)) 0 (7 : UInt64) (by decide)) 1 (4 : UInt64) (by decide)) ([] : (List api_Dest))) (Vector.set (Vector.set (Vector.replicate 16 (0 : UInt64)) 0 (7 : UInt64) (by decide)) 1 (4 : UInt64) (by decide)) v_4 hv_v_4) .func (.cons (HasO.wk (q := A r_api_Event (api_Event.mk (api_Dot.mk (2 : Int) (5 : UInt64)) ([116] : List UInt8) ([] : (List UInt8)) (Vector.set (Vector.set (Vector.replicate 16 (0 : UInt64)) 0 (7 : UInt64) (by decide)) 1 (4 : UInt64) (by decide)) ([] : (List api_Dest)))) (.tmp rfl) (wkAK (Wk.st (Wk.pair Wk.refl (Wk.pair Wk.refl (Wk.pair Wk.nil (Wk.pair Wk.refl (Wk.pair Wk.nil Wk.refl)))))))) (.cons (.tmp rfl) .nil)) rfl) (fun _ => ?_)
    refine JL.cons rfl (op_move (ltB rfl) (.tmp rfl)) ?_
    refine JL.cnd (sv := .one (.val (A (rP r_api_Dot (rP rS (rP (rW (HDR none 0 0 0)) (rP (rV 16 (rU UInt64)) (rP (rW (HDR none 0 0 0)) r0))))) ((api_Dot.mk (2 : Int) (5 : UInt64)), (([116] : List UInt8), ((), ((Vector.set (Vector.set (Vector.replicate 16 (0 : UInt64)) 0 (7 : UInt64) (by decide)) 1 (4 : UInt64) (by decide)), ((), ())))))))) (Guard.isT (ltB rfl) rfl rfl) rfl (ltB rfl) (fun hq_2 => op_loadA (j := 0) (ltB rfl) tA38 (.tmp rfl) rfl (Comp.self (rP r_api_Dot (rP rS (rP (rW (HDR none 0 0 0)) (rP (rV 16 (rU UInt64)) (rP (rW (HDR none 0 0 0)) r0))))) ((api_Dot.mk (2 : Int) (5 : UInt64)), (([116] : List UInt8), ((), ((Vector.set (Vector.set (Vector.replicate 16 (0 : UInt64)) 0 (7 : UInt64) (by decide)) 1 (4 : UInt64) (by decide)), ((), ())))))) rfl) ?_
    refine JL.cnd (sv := .one (.val (A (rV 16 (rU UInt64)) (Vector.set (Vector.set (Vector.replicate 16 (0 : UInt64)) 0 (6 : UInt64) (by decide)) 1 (4 : UInt64) (by decide))))) (Guard.isT (ltB rfl) rfl rfl) rfl (ltB rfl) (fun hq_3 => op_build (ltB rfl) tZ26 zv26 tp26 (.S (off := 0) rfl (HasO.cU (x := (6 : UInt64)) rfl (by decide)) rfl ((Upd.at (off := 0) (i := 0) (Comp.self (rV 16 (rU UInt64)) (Vector.replicate 16 (0 : UInt64))) (by decide) rfl (Upd.self (rV 16 (rU UInt64)) (Vector.replicate 16 (0 : UInt64)) _)).R.at rfl) (.S (off := 1) rfl (HasO.cU (x := (4 : UInt64)) rfl (by decide)) rfl ((Upd.at (off := 0) (i := 1) (Comp.self (rV 16 (rU UInt64)) (Vector.set (Vector.replicate 16 (0 : UInt64)) 0 (6 : UInt64) (by decide))) (by decide) rfl (Upd.self (rV 16 (rU UInt64)) (Vector.set (Vector.replicate 16 (0 : UInt64)) 0 (6 : UInt64) (by decide)) _)).R.at rfl) .nil)) rfl) ?_
    refine JL.pre (Imp.sub (ρ' := [(1, .one (.val (PTR gb_1 0))), (2, .one (.val (PTR gb_2 0))), (3, .one (.val (PTR gb_3 0))), (12, .one (.val (S rB v_4))), (13, bif v_4 then .one (.val (A (rP r_api_Dot (rP rS (rP (rW (HDR none 0 0 0)) (rP (rV 16 (rU UInt64)) (rP (rW (HDR none 0 0 0)) r0))))) ((api_Dot.mk (2 : Int) (5 : UInt64)), (([116] : List UInt8), ((), ((Vector.set (Vector.set (Vector.replicate 16 (0 : UInt64)) 0 (7 : UInt64) (by decide)) 1 (4 : UInt64) (by decide)), ((), ()))))))) else .one .und), (14, bif v_4 then .one (.val (A (rV 16 (rU UInt64)) (Vector.set (Vector.set (Vector.replicate 16 (0 : UInt64)) 0 (6 : UInt64) (by decide)) 1 (4 : UInt64) (by decide)))) else .one .und)]) (.cons rfl (.cons rfl (.cons rfl (.cons rfl (.cons rfl (.cons rfl .nil))))))) ?_
    refine JL.at ⟨[(1, .one (.val (PTR gb_1 0))), (2, .one (.val (PTR gb_2 0))), (3, .one (.val (PTR gb_3 0))), (12, .one (.val (S rB v_4))), (13, bif v_4 then .one (.val (A (rP r_api_Dot (rP rS (rP (rW (HDR none 0 0 0)) (rP (rV 16 (rU UInt64)) (rP (rW (HDR none 0 0 0)) r0))))) ((api_Dot.mk (2 : Int) (5 : UInt64)), (([116] : List UInt8), ((), ((Vector.set (Vector.set (Vector.replicate 16 (0 : UInt64)) 0 (7 : UInt64) (by decide)) 1 (4 : UInt64) (by decide)), ((), ()))))))) else .one .und), (14, bif v_4 then .one (.val (A (rV 16 (rU UInt64)) (Vector.set (Vector.set (Vector.replicate 16 (0 : UInt64)) 0 (6 : UInt64) (by decide)) 1 (4 : UInt64) (by decide)))) else .one .und)], [cvar gb_1 (rP r_api_Dot (rP rS (rP (rW (HDR none 0 0 0)) (rP (rV 16 (rU UInt64)) (rP (rW (HDR none 0 0 0)) r0))))) ((api_Dot.mk (2 : Int) (5 : UInt64)), (([116] : List UInt8), ((), ((Vector.set (Vector.set (Vector.replicate 16 (0 : UInt64)) 0 (7 : UInt64) (by decide)) 1 (4 : UInt64) (by decide)), ((), ()))))), cvar gb_2 (rP (rI .i64) (rP (rU UInt64) r0)) ((2 : Int), ((4 : UInt64), ())), cvar gb_3 (rP (rI .i64) (rP (rU UInt64) r0)) ((2 : Int), ((5 : UInt64), ()))], []⟩ ?_
    replace hx1 := bnd_inv hx1
    obtain ⟨v_5, hv_v_5, hx1⟩ := hx1
    refine JL.cnd (sv := .one (.val (S rB v_5))) (Guard.isT (ltB rfl) rfl rfl) rfl (ltB rfl) (fun hq_4 => (op_call (js := []) (ltD rfl) cl13 (sim_event_Ready k (api_Event.mk (api_Dot.mk (2 : Int) (5 : UInt64)) ([116] : List UInt8) ([] : (List UInt8)) (Vector.set (Vector.set (Vector.replicate 16 (0 : UInt64)) 0 (7 : UInt64) (by decide)) 1 (4 : UInt64) (by decide)) ([] : (List api_Dest))) (Vector.set (Vector.set (Vector.replicate 16 (0 : UInt64)) 0 (6 : UInt64) (by decide)) 1 (4 : UInt64) (by decide)) v_5 (ifT hv_v_5 hq_4)) .func (.cons (HasO.wk (q := A r_api_Event (api_Event.mk (api_Dot.mk (2 : Int) (5 : UInt64)) ([116] : List UInt8) ([] : (List UInt8)) (Vector.set (Vector.set (Vector.replicate 16 (0 : UInt64)) 0 (7 : UInt64) (by decide)) 1 (4 : UInt64) (by decide)) ([] : (List api_Dest)))) (HasO.cnd (.tmp rfl) hq_4) (wkAK (Wk.st (Wk.pair Wk.refl (Wk.pair Wk.refl (Wk.pair Wk.nil (Wk.pair Wk.refl (Wk.pair Wk.nil Wk.refl)))))))) (.cons (HasO.cnd (.tmp rfl) hq_4) .nil)) rfl).post (fun _ => Imp.refl)) ?_
    replace hx1 := lt1_inv hx1
    obtain ⟨v_6, hv_v_6, hx1⟩ := hx1
    refine JL.cnd (sv := .one (.val (S rB v_6))) (Guard.isT (ltB rfl) rfl rfl) rfl (ltB rfl) (fun hq_5 => op_not (ltB rfl) (HasO.cnd (.tmp rfl) hq_5) hv_v_6) ?_
    replace hx1 := lt1_inv hx1
    obtain ⟨v_7, hv_v_7, hx1⟩ := hx1
    refine JL.cons rfl (op_pickCS (ltB rfl) (.tmp rfl) (fun hb6 => (HasO.cnd (.tmp rfl) hb6)) (fun hb6 => .cB) hv_v_7) ?_
    refine JL.cons rfl (op_move (ltB rfl) (.tmp rfl)) ?_
    refine JL.cnd (sv := .one (.val (A (rP r_api_Dot (rP rS (rP (rW (HDR none 0 0 0)) (rP (rV 16 (rU UInt64)) (rP (rW (HDR none 0 0 0)) r0))))) ((api_Dot.mk (2 : Int) (5 : UInt64)), (([116] : List UInt8), ((), ((Vector.set (Vector.set (Vector.replicate 16 (0 : UInt64)) 0 (7 : UInt64) (by decide)) 1 (4 : UInt64) (by decide)), ((), ())))))))) (Guard.isT (ltB rfl) rfl rfl) rfl (ltB rfl) (fun hq_7 => op_loadA (j := 0) (ltB rfl) tA38 (.tmp rfl) rfl (Comp.self (rP r_api_Dot (rP rS (rP (rW (HDR none 0 0 0)) (rP (rV 16 (rU UInt64)) (rP (rW (HDR none 0 0 0)) r0))))) ((api_Dot.mk (2 : Int) (5 : UInt64)), (([116] : List UInt8), ((), ((Vector.set (Vector.set (Vector.replicate 16 (0 : UInt64)) 0 (7 : UInt64) (by decide)) 1 (4 : UInt64) (by decide)), ((), ())))))) rfl) ?_
    refine JL.cnd (sv := .one (.val (A (rV 16 (rU UInt64)) (Vector.set (Vector.set (Vector.replicate 16 (0 : UInt64)) 0 (7 : UInt64) (by decide)) 1 (5 : UInt64) (by decide))))) (Guard.isT (ltB rfl) rfl rfl) rfl (ltB rfl) (fun hq_8 => op_build (ltB rfl) tZ26 zv26 tp26 (.S (off := 0) rfl (HasO.cU (x := (7 : UInt64)) rfl (by decide)) rfl ((Upd.at (off := 0) (i := 0) (Comp.self (rV 16 (rU UInt64)) (Vector.replicate 16 (0 : UInt64))) (by decide) rfl (Upd.self (rV 16 (rU UInt64)) (Vector.replicate 16 (0 : UInt64)) _)).R.at rfl) (.S (off := 1) rfl (HasO.cU (x := (5 : UInt64)) rfl (by decide)) rfl ((Upd.at (off := 0) (i := 1) (Comp.self (rV 16 (rU UInt64)) (Vector.set (Vector.replicate 16 (0 : UInt64)) 0 (7 : UInt64) (by decide))) (by decide) rfl (Upd.self (rV 16 (rU UInt64)) (Vector.set (Vector.replicate 16 (0 : UInt64)) 0 (7 : UInt64) (by decide)) _)).R.at rfl) .nil)) rfl) ?_
    refine JL.pre (Imp.norm (ρ' := [(2, .one (.val (PTR gb_2 0))), (3, .one (.val (PTR gb_3 0))), (18, .one (.val (S rB v_7))), (19, bif v_7 then .one (.val (A (rP r_api_Dot (rP rS (rP (rW (HDR none 0 0 0)) (rP (rV 16 (rU UInt64)) (rP (rW (HDR none 0 0 0)) r0))))) ((api_Dot.mk (2 : Int) (5 : UInt64)), (([116] : List UInt8), ((), ((Vector.set (Vector.set (Vector.replicate 16 (0 : UInt64)) 0 (7 : UInt64) (by decide)) 1 (4 : UInt64) (by decide)), ((), ()))))))) else .one .und), (20, bif v_7 then .one (.val (A (rV 16 (rU UInt64)) (Vector.set (Vector.set (Vector.replicate 16 (0 : UInt64)) 0 (7 : UInt64) (by decide)) 1 (5 : UInt64) (by decide)))) else .one .und)]) (js := [1, 1]) rfl (.cons rfl (.cons rfl (.cons rfl (.cons rfl (.cons rfl .nil)))))) ?_
    refine JL.at ⟨[(2, .one (.val (PTR gb_2 0))), (3, .one (.val (PTR gb_3 0))), (18, .one (.val (S rB v_7))), (19, bif v_7 then .one (.val (A (rP r_api_Dot (rP rS (rP (rW (HDR none 0 0 0)) (rP (rV 16 (rU UInt64)) (rP (rW (HDR none 0 0 0)) r0))))) ((api_Dot.mk (2 : Int) (5 : UInt64)), (([116] : List UInt8), ((), ((Vector.set (Vector.set (Vector.replicate 16 (0 : UInt64)) 0 (7 : UInt64) (by decide)) 1 (4 : UInt64) (by decide)), ((), ()))))))) else .one .und), (20, bif v_7 then .one (.val (A (rV 16 (rU UInt64)) (Vector.set (Vector.set (Vector.replicate 16 (0 : UInt64)) 0 (7 : UInt64) (by decide)) 1 (5 : UInt64) (by decide)))) else .one .und)], [cvar gb_2 (rP (rI .i64) (rP (rU UInt64) r0)) ((2 : Int), ((4 : UInt64), ())), cvar gb_3 (rP (rI .i64) (rP (rU UInt64) r0)) ((2 : Int), ((5 : UInt64), ()))], []⟩ ?_
    replace hx1 := bnd_inv hx1
    obtain ⟨v_8, hv_v_8, hx1⟩ := hx1
    refine JL.cnd (sv := .one (.val (S rB v_8))) (Guard.isT (ltB rfl) rfl rfl) rfl (ltB rfl) (fun hq_9 => (op_call (js := []) (ltD rfl) cl13 (sim_event_Ready k (api_Event.mk (api_Dot.mk (2 : Int) (5 : UInt64)) ([116] : List UInt8) ([] : (List UInt8)) (Vector.set (Vector.set (Vector.replicate 16 (0 : UInt64)) 0 (7 : UInt64) (by decide)) 1 (4 : UInt64) (by decide)) ([] : (List api_Dest))) (Vector.set (Vector.set (Vector.replicate 16 (0 : UInt64)) 0 (7 : UInt64) (by decide)) 1 (5 : UInt64) (by decide)) v_8 (ifT hv_v_8 hq_9)) .func (.cons (HasO.wk (q := A r_api_Event (api_Event.mk (api_Dot.mk (2 : Int) (5 : UInt64)) ([116] : List UInt8) ([] : (List UInt8)) (Vector.set (Vector.set (Vector.replicate 16 (0 : UInt64)) 0 (7 : UInt64) (by decide)) 1 (4 : UInt64) (by decide)) ([] : (List api_Dest)))) (HasO.cnd (.tmp rfl) hq_9) (wkAK (Wk.st (Wk.pair Wk.refl (Wk.pair Wk.refl (Wk.pair Wk.nil (Wk.pair Wk.refl (Wk.pair Wk.nil Wk.refl)))))))) (.cons (HasO.cnd (.tmp rfl) hq_9) .nil)) rfl).post (fun _ => Imp.refl)) ?_
    replace hx1 := lt1_inv hx1
    obtain ⟨v_9, hv_v_9, hx1⟩ := hx1
    refine JL.cnd (sv := .one (.val (S rB v_9))) (Guard.isT (ltB rfl) rfl rfl) rfl (ltB rfl) (fun hq_10 => op_not (ltB rfl) (HasO.cnd (.tmp rfl) hq_10) hv_v_9) ?_
    replace hx1 := lt1_inv hx1
    obtain ⟨v_10, hv_v_10, hx1⟩ := hx1
    refine JL.cons rfl (op_pickCS (ltB rfl) (.tmp rfl) (fun hb11 => (HasO.cnd (.tmp rfl) hb11)) (fun hb11 => .cB) hv_v_10) ?_
    refine JL.cons rfl (op_move (ltB rfl) (.tmp rfl)) ?_
    refine JL.cnd (sv := .one (.val (A (rV 16 (rU UInt64)) (Vector.set (Vector.set (Vector.replicate 16 (0 : UInt64)) 0 (3 : UInt64) (by decide)) 1 (4 : UInt64) (by decide))))) (Guard.isT (ltB rfl) rfl rfl) rfl (ltB rfl) (fun hq_12 => op_build (ltB rfl) tZ26 zv26 tp26 (.S (off := 0) rfl (HasO.cU (x := (3 : UInt64)) rfl (by decide)) rfl ((Upd.at (off := 0) (i := 0) (Comp.self (rV 16 (rU UInt64)) (Vector.replicate 16 (0 : UInt64))) (by decide) rfl (Upd.self (rV 16 (rU UInt64)) (Vector.replicate 16 (0 : UInt64)) _)).R.at rfl) (.S (off := 1) rfl (HasO.cU (x := (4 : UInt64)) rfl (by decide)) rfl ((Upd.at (off := 0) (i := 1) (Comp.self (rV 16 (rU UInt64)) (Vector.set (Vector.replicate 16 (0 : UInt64)) 0 (3 : UInt64) (by decide))) (by decide) rfl (Upd.self (rV 16 (rU UInt64)) (Vector.set (Vector.replicate 16 (0 : UInt64)) 0 (3 : UInt64) (by decide)) _)).R.at rfl) .nil)) rfl) ?_
    refine JL.cnd (sv := .one (.val (A (rP (rI .i64) (rP (rU UInt64) r0)) ((2 : Int), ((4 : UInt64), ()))))) (Guard.isT (ltB rfl) rfl rfl) rfl (ltB rfl) (fun hq_13 => op_loadA (j := 0) (ltB rfl) tA24 (.tmp rfl) rfl (Comp.self (rP (rI .i64) (rP (rU UInt64) r0)) ((2 : Int), ((4 : UInt64), ()))) rfl) ?_
    refine JL.pre (Imp.norm (ρ' := [(3, .one (.val (PTR gb_3 0))), (24, .one (.val (S rB v_10))), (25, bif v_10 then .one (.val (A (rV 16 (rU UInt64)) (Vector.set (Vector.set (Vector.replicate 16 (0 : UInt64)) 0 (3 : UInt64) (by decide)) 1 (4 : UInt64) (by decide)))) else .one .und), (26, bif v_10 then .one (.val (A (rP (rI .i64) (rP (rU UInt64) r0)) ((2 : Int), ((4 : UInt64), ())))) else .one .und)]) (js := [1]) rfl (.cons rfl (.cons rfl (.cons rfl (.cons rfl .nil))))) ?_
    refine JL.at ⟨[(3, .one (.val (PTR gb_3 0))), (24, .one (.val (S rB v_10))), (25, bif v_10 then .one (.val (A (rV 16 (rU UInt64)) (Vector.set (Vector.set (Vector.replicate 16 (0 : UInt64)) 0 (3 : UInt64) (by decide)) 1 (4 : UInt64) (by decide)))) else .one .und), (26, bif v_10 then .one (.val (A (rP (rI .i64) (rP (rU UInt64) r0)) ((2 : Int), ((4 : UInt64), ())))) else .one .und)], [cvar gb_3 (rP (rI .i64) (rP (rU UInt64) r0)) ((2 : Int), ((5 : UInt64), ()))], []⟩ ?_
    replace hx1 := bnd_inv hx1
    obtain ⟨v_11, hv_v_11, hx1⟩ := hx1
    refine JL.cnd (sv := .one (.val (S rB v_11))) (Guard.isT (ltB rfl) rfl rfl) rfl (ltB rfl) (fun hq_14 => (op_call (js := []) (ltD rfl) cl9 (sim_event_Under k (Vector.set (Vector.set (Vector.replicate 16 (0 : UInt64)) 0 (3 : UInt64) (by decide)) 1 (4 : UInt64) (by decide)) (api_Dot.mk (2 : Int) (4 : UInt64)) v_11 (ifT hv_v_11 hq_14)) .func (.cons (HasO.cnd (.tmp rfl) hq_14) (.cons (HasO.wk (q := A r_api_Dot (api_Dot.mk (2 : Int) (4 : UInt64))) (HasO.cnd (.tmp rfl) hq_14) (wkAK (Wk.st Wk.refl))) .nil)) rfl).post (fun _ => Imp.refl)) ?_
    replace hx1 := lt1_inv hx1
    obtain ⟨v_12, hv_v_12, hx1⟩ := hx1
    refine JL.cons rfl (op_pickCS (ltB rfl) (.tmp rfl) (fun hb15 => (HasO.cnd (.tmp rfl) hb15)) (fun hb15 => .cB) hv_v_12) ?_
    refine JL.cons rfl (op_move (ltB rfl) (.tmp rfl)) ?_
    refine JL.cnd (sv := .one (.val (A (rV 16 (rU UInt64)) (Vector.set (Vector.set (Vector.replicate 16 (0 : UInt64)) 0 (3 : UInt64) (by decide)) 1 (4 : UInt64) (by decide))))) (Guard.isT (ltB rfl) rfl rfl) rfl (ltB rfl) (fun hq_16 => op_build (ltB rfl) tZ26 zv26 tp26 (.S (off := 0) rfl (HasO.cU (x := (3 : UInt64)) rfl (by decide)) rfl ((Upd.at (off := 0) (i := 0) (Comp.self (rV 16 (rU UInt64)) (Vector.replicate 16 (0 : UInt64))) (by decide) rfl (Upd.self (rV 16 (rU UInt64)) (Vector.replicate 16 (0 : UInt64)) _)).R.at rfl) (.S (off := 1) rfl (HasO.cU (x := (4 : UInt64)) rfl (by decide)) rfl ((Upd.at (off := 0) (i := 1) (Comp.self (rV 16 (rU UInt64)) (Vector.set (Vector.replicate 16 (0 : UInt64)) 0 (3 : UInt64) (by decide))) (by decide) rfl (Upd.self (rV 16 (rU UInt64)) (Vector.set (Vector.replicate 16 (0 : UInt64)) 0 (3 : UInt64) (by decide)) _)).R.at rfl) .nil)) rfl) ?_
    refine JL.cnd (sv := .one (.val (A (rP (rI .i64) (rP (rU UInt64) r0)) ((2 : Int), ((5 : UInt64), ()))))) (Guard.isT (ltB rfl) rfl rfl) rfl (ltB rfl) (fun hq_17 => op_loadA (j := 0) (ltB rfl) tA24 (.tmp rfl) rfl (Comp.self (rP (rI .i64) (rP (rU UInt64) r0)) ((2 : Int), ((5 : UInt64), ()))) rfl) ?_
    replace hx1 := bnd_inv hx1
    obtain ⟨v_13, hv_v_13, hx1⟩ := hx1
    refine JL.cnd (sv := .one (.val (S rB v_13))) (Guard.isT (ltB rfl) rfl rfl) rfl (ltB rfl) (fun hq_18 => (op_call (js := []) (ltD rfl) cl9 (sim_event_Under k (Vector.set (Vector.set (Vector.replicate 16 (0 : UInt64)) 0 (3 : UInt64) (by decide)) 1 (4 : UInt64) (by decide)) (api_Dot.mk (2 : Int) (5 : UInt64)) v_13 (ifT hv_v_13 hq_18)) .func (.cons (HasO.cnd (.tmp rfl) hq_18) (.cons (HasO.wk (q := A r_api_Dot (api_Dot.mk (2 : Int) (5 : UInt64))) (HasO.cnd (.tmp rfl) hq_18) (wkAK (Wk.st Wk.refl))) .nil)) rfl).post (fun _ => Imp.refl)) ?_
    refine JL.pre (Imp.norm (ρ' := [(29, .one (.val (S rB v_12))), (32, bif v_12 then .one (.val (S rB v_13)) else .one .und)]) (js := []) rfl (.cons rfl (.cons rfl .nil))) ?_
    refine JL.at ⟨[(29, .one (.val (S rB v_12))), (32, bif v_12 then .one (.val (S rB v_13)) else .one .und)], [], []⟩ ?_
    replace hx1 := lt1_inv hx1
    obtain ⟨v_14, hv_v_14, hx1⟩ := hx1
    refine JL.cnd (sv := .one (.val (S rB v_14))) (Guard.isT (ltB rfl) rfl rfl) rfl (ltB rfl) (fun hq_19 => op_not (ltB rfl) (HasO.cnd (.tmp rfl) hq_19) hv_v_14) ?_
    replace hx1 := lt1_inv hx1
    obtain ⟨v_15, hv_v_15, hx1⟩ := hx1
    refine JL.cons rfl (op_pickCS (ltB rfl) (.tmp rfl) (fun hb20 => (HasO.cnd (.tmp rfl) hb20)) (fun hb20 => .cB) hv_v_15) ?_
    refine JL.cons rfl (op_move (ltB rfl) (.tmp rfl)) ?_
    refine JL.cnd (sv := .one (.val (A (rP r_api_Dot (rP rS (rP (rW (HDR none 0 0 0)) (rP (rV 16 (rU UInt64)) (rP (rW (HDR none 0 0 0)) r0))))) ((api_Dot.mk (0 : Int) (0 : UInt64)), (([] : (List UInt8)), ((), ((Vector.replicate 16 (0 : UInt64)), ((), ())))))))) (Guard.isT (ltB rfl) rfl rfl) rfl (ltB rfl) (fun hq_21 => op_build (ltB rfl) tZ38 zr38 tp38 .nil rfl) ?_
    replace hx1 := bnd_inv hx1
    obtain ⟨v_16, hv_v_16, hx1⟩ := hx1
    refine JL.cnd (sv := .one (.val (S rB v_16))) (Guard.isT (ltB rfl) rfl rfl) rfl (ltB rfl) (fun hq_22 => (op_call (js := []) (ltD rfl) cl17 (sim_event_May k (api_Event.mk (api_Dot.mk (0 : Int) (0 : UInt64)) ([] : (List UInt8)) ([] : (List UInt8)) (Vector.replicate 16 (0 : UInt64)) ([] : (List api_Dest))) v_16 (ifT hv_v_16 hq_22)) .func (.cons (HasO.wk (q := A r_api_Event (api_Event.mk (api_Dot.mk (0 : Int) (0 : UInt64)) ([] : (List UInt8)) ([] : (List UInt8)) (Vector.replicate 16 (0 : UInt64)) ([] : (List api_Dest)))) (HasO.cnd (.tmp rfl) hq_22) (wkAK (Wk.st (Wk.pair Wk.refl (Wk.pair Wk.refl (Wk.pair Wk.nil (Wk.pair Wk.refl (Wk.pair Wk.nil Wk.refl)))))))) .nil) rfl).post (fun _ => Imp.refl)) ?_
    replace hx1 := lt1_inv hx1
    obtain ⟨v_17, hv_v_17, hx1⟩ := hx1
    refine JL.cnd (sv := .one (.val (S rB v_17))) (Guard.isT (ltB rfl) rfl rfl) rfl (ltB rfl) (fun hq_23 => op_not (ltB rfl) (HasO.cnd (.tmp rfl) hq_23) hv_v_17) ?_
    refine JL.pre (Imp.sub (ρ' := [(35, .one (.val (S rB v_15))), (38, bif v_15 then .one (.val (S rB v_17)) else .one .und)]) (.cons rfl (.cons rfl .nil))) ?_
    refine JL.at ⟨[(35, .one (.val (S rB v_15))), (38, bif v_15 then .one (.val (S rB v_17)) else .one .und)], [], []⟩ ?_
    replace hx1 := lt1_inv hx1
    obtain ⟨v_18, hv_v_18, hx1⟩ := hx1
    refine JL.cons rfl (op_pickCS (ltB rfl) (.tmp rfl) (fun hb24 => (HasO.cnd (.tmp rfl) hb24)) (fun hb24 => .cB) hv_v_18) ?_
    refine JL.cons rfl (op_assign (ltB rfl) (.tmp rfl)) ?_
    refine JL.nil ?_
    replace hx1 := Option.some.inj hx1
    subst hx1
    exact JQ.join () (Imp.norm (js := []) rfl (.cons rfl .nil))

end Go.Proofs.Ythoggbomakolkaa
