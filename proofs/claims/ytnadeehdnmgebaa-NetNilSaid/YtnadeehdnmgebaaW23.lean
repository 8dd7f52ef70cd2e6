/- Walks. -/
import Derived.Test.YtnadeehdnmgebaaT
import Derived.Test.YtnadeehdnmgebaaW0
namespace Go.Proofs.Ytnadeehdnmgebaa
open Go Fw
set_option linter.unusedVariables false
set_option maxRecDepth 100000
set_option maxHeartbeats 4000000

theorem sim_net_Net_there'2 (k : Nat) (r : Unit) (hm : net_Net_there'2 k = some r) : Sim Try.prog 29 [PTO none] [] (γ := Unit) (fun q => []) (fun q => .one (.val (S rB false))) := by
 unfold net_Net_there'2 at hm
 refine Sim.of Try.func29 rfl rfl (Nat.le_of_ble_eq_true rfl) (fun e0 w0 => ?_)
 refine JC.at ⟨[(0, ov (PTO none))], [], []⟩ ?_
 refine JC.seq ?_
 refine JC.region ?_
 refine jc (op_assign lb .cB) ?_
 refine JL.nil ?_
 refine JQ.then ?_
 replace hm := bnd_inv hm
 obtain ⟨_, hx1, hq1⟩ := hm
 refine JC.seqJ (γ := Unit) (stj := fun q => ⟨[(2, ov (S rB false))], [], []⟩) (fun q => ?_) ?_
 · obtain _ := q
   refine JC.at ⟨[(2, ov (S rB false))], [], []⟩ ?_
   refine JC.ret ?_
   exact JQ.done (js := []) (ss := [.val (S rB false)]) () (.inl rfl) (.nil rfl) rfl (.cons (.tmp rfl) .nil) rfl rfl rfl
 · refine JC.region ?_
   refine jc (op_move lb (.tmp rfl)) ?_
   refine jc (op_nilO (neg := true) (ob := none) lb tu25 (.tmp rfl) (HasO.const (p := PTO none) fun _ => rfl) rfl) ?_
   refine jc (op_move lb (.tmp rfl)) ?_
   refine JL.skip (.no rfl (ltB rfl) rfl rfl) (fun d h => by cases h; exact ltB rfl) ?_
   refine JL.skip (.no rfl (ltB rfl) rfl rfl) (fun d h => by cases h; exact ltB rfl) ?_
   refine JL.skip (.no rfl (ltB rfl) rfl rfl) (fun d h => by cases h; exact ltB rfl) ?_
   refine JL.skip (.no rfl (ltB rfl) rfl rfl) (fun d h => by cases h; exact ltB rfl) ?_
   refine JL.skip (.no rfl (ltB rfl) rfl rfl) (fun d h => by cases h; exact ltB rfl) ?_
   refine jc (op_pickF lb (.tmp rfl) rfl .cB) ?_
   refine jc (op_assign lb (.tmp rfl)) ?_
   refine JL.nil ?_
   exact JQ.join () (Imp.norm (js := []) rfl (.cons rfl .nil))

theorem sim_net_Net_At'2 (k : Nat) (place_1 : Int) (r : Unit) (hm : net_Net_At'2 k place_1 = some r) : Sim Try.prog 14 [PTO none, S (rI .i64) place_1] [] (γ := Unit) (fun q => []) (fun q => .tup [.val (A r_api_Flight (api_Flight.mk (0 : Int) (0 : Int) ([] : (List UInt8)))), .val (S (rI .i64) (1 : Int))]) := by
 unfold net_Net_At'2 at hm
 refine Sim.of Try.func14 rfl rfl (Nat.le_of_ble_eq_true rfl) (fun e0 w0 => ?_)
 refine JC.at ⟨[(0, ov (PTO none)), (1, ov (S (rI .i64) place_1))], [], []⟩ ?_
 refine JC.seq ?_
 refine JC.region ?_
 refine jx (op_boxS lb (.tmp rfl)) (fun q => ?_)
 obtain ⟨gb_2, hqq⟩ : ∃ z, z = q := ⟨_, rfl⟩
 subst hqq
 refine jx (op_alloc lb tZ36 zr36) (fun q => ?_)
 obtain ⟨gb_3, hqq⟩ : ∃ z, z = q := ⟨_, rfl⟩
 subst hqq
 refine jx (op_alloc lb tZ26 zr26) (fun q => ?_)
 obtain ⟨gb_4, hqq⟩ : ∃ z, z = q := ⟨_, rfl⟩
 subst hqq
 refine JL.nil ?_
 refine JQ.then ?_
 refine JC.scope ?_
 refine JC.seq ?_
 refine JC.block ?_
 refine JC.seq ?_
 refine JC.region ?_
 refine jc (op_move lb (.tmp rfl)) ?_
 replace hm := bnd_inv hm
 obtain ⟨_, hv_u_5, hm⟩ := hm
 refine jx (op_call (js := []) ld cl29 (sim_net_Net_there'2 k () hv_u_5) .func (.cons (.tmp rfl) .nil) rfl) (fun _ => ?_)
 refine jc (op_not lb (.tmp rfl) rfl) ?_
 refine JL.sub ⟨[(0, ov (PTO none)), (3, ov (PTR gb_2 0)), (4, ov (PTR gb_3 0)), (5, ov (PTR gb_4 0)), (11, ov (S rB true))], [cvar gb_2 (rI .i64) place_1, cvar gb_3 (rP (rI .i64) (rP (rI .i64) (rP (rW (HDR none 0 0 0)) r0))) ((0 : Int), ((0 : Int), ((), ()))), cvar gb_4 (rI .i64) (0 : Int)], []⟩ (.cons rfl (.cons rfl (.cons rfl (.cons rfl (.cons rfl .nil))))) rfl rfl ?_
 refine jc (op_assign lb (.tmp rfl)) ?_
 refine JL.nil ?_
 refine JQ.then ?_
 refine JC.condT (.tmp rfl) rfl ?_
 refine JC.seq ?_
 refine JC.region ?_
 refine jc (op_loadA (j := 1) lb tA36 (.tmp rfl) rfl (Comp.self (rP (rI .i64) (rP (rI .i64) (rP (rW (HDR none 0 0 0)) r0))) ((0 : Int), ((0 : Int), ((), ())))) rfl) ?_
 refine jc (op_storeA (j := 1) tA36 (.tmp rfl) (.tmp rfl) rfl (UpdR.self (by rfl)) rfl) ?_
 refine jc (op_storeS (j := 2) tS26 (.tmp rfl) .cI rfl rfl (UpdR.self (by rfl)) rfl) ?_
 refine JL.nil ?_
 refine JQ.then ?_
 refine JC.ret ?_
 refine JQ.outRB ?_
 refine JQ.outR ?_
 refine JQ.scR ?_
 refine JQ.pre (Imp.var (j := 1) (q := r_api_Flight) (y := (api_Flight.mk (0 : Int) (0 : Int) ([] : (List UInt8)))) rfl (Wk.st (Wk.pair Wk.refl (Wk.pair Wk.refl (Wk.pair Wk.nil Wk.refl))))) ?_
 exact JQ.done (js := []) (ss := [.val (A r_api_Flight (api_Flight.mk (0 : Int) (0 : Int) ([] : (List UInt8)))), .val (S (rI .i64) (1 : Int))]) () (.inl rfl) (.nil rfl) rfl (.cons (.cellA (j := 1) tA36 rfl rfl) (.cons (.cellS (j := 2) tS26 rfl rfl rfl) .nil)) rfl rfl rfl

theorem sim_net_Net_Take'3 (k : Nat) (place_1 : Int) (r : Unit) (hm : net_Net_Take'3 k place_1 = some r) : Sim Try.prog 15 [PTO none, S (rI .i64) place_1] [] (γ := Unit) (fun q => []) (fun q => .tup [.val (A r_api_Flight (api_Flight.mk (0 : Int) (0 : Int) ([] : (List UInt8)))), .val (S (rI .i64) (1 : Int))]) := by
 unfold net_Net_Take'3 at hm
 refine Sim.of Try.func15 rfl rfl (Nat.le_of_ble_eq_true rfl) (fun e0 w0 => ?_)
 refine JC.at ⟨[(0, ov (PTO none)), (1, ov (S (rI .i64) place_1))], [], []⟩ ?_
 refine JC.seq ?_
 refine JC.region ?_
 refine jx (op_boxW lb (.tmp rfl)) (fun q => ?_)
 obtain ⟨gb_2, hqq⟩ : ∃ z, z = q := ⟨_, rfl⟩
 subst hqq
 refine jx (op_boxS lb (.tmp rfl)) (fun q => ?_)
 obtain ⟨gb_3, hqq⟩ : ∃ z, z = q := ⟨_, rfl⟩
 subst hqq
 refine jx (op_alloc lb tZ36 zr36) (fun q => ?_)
 obtain ⟨gb_4, hqq⟩ : ∃ z, z = q := ⟨_, rfl⟩
 subst hqq
 refine jc (op_assign lb .cI) ?_
 refine JL.nil ?_
 refine JQ.then ?_
 refine JC.seq ?_
 refine JC.region ?_
 refine jc (op_loadW (j := 0) lb tS25 (.tmp rfl) rfl (Comp.self (rW (PTO none)) ())) ?_
 refine jc (op_loadS (j := 1) lb tS3 (.tmp rfl) rfl (Comp.self (rI .i64) place_1) rfl rfl) ?_
 refine JL.sub ⟨[(2, ov (PTR gb_2 0)), (3, ov (PTR gb_3 0)), (4, ov (PTR gb_4 0)), (13, ov (PTO none)), (14, ov (S (rI .i64) place_1))], [cvar gb_2 (rW (PTO none)) (), cvar gb_3 (rI .i64) place_1, cvar gb_4 (rP (rI .i64) (rP (rI .i64) (rP (rW (HDR none 0 0 0)) r0))) ((0 : Int), ((0 : Int), ((), ())))], []⟩ (.cons rfl (.cons rfl (.cons rfl (.cons rfl (.cons rfl .nil))))) rfl rfl ?_
 replace hm := bnd_inv hm
 obtain ⟨_, hv_u_5, hm⟩ := hm
 refine jx (op_call (js := []) ld cl14 (sim_net_Net_At'2 k place_1 () hv_u_5) .func (.cons (.tmp rfl) (.cons (.tmp rfl) .nil)) rfl) (fun _ => ?_)
 refine jc (op_move lb (.tmp rfl)) ?_
 refine jc (op_extract (i := 0) lb (.tmp rfl) rfl) ?_
 refine jc (op_extract (i := 1) lb (.tmp rfl) rfl) ?_
 refine jx (op_alloc lb tZ36 zr36) (fun q => ?_)
 obtain ⟨gb_6, hqq⟩ : ∃ z, z = q := ⟨_, rfl⟩
 subst hqq
 refine jc (op_storeA (j := 3) tA36 (.tmp rfl) (.tmp rfl) rfl (UpdR.self (by rfl)) rfl) ?_
 refine jc (op_assign lb (.tmp rfl)) ?_
 refine JL.nil ?_
 refine JQ.then ?_
 refine JC.seq ?_
 refine JC.seq ?_
 refine JC.region ?_
 refine jc (op_move lb (.tmp rfl)) ?_
 refine JL.sub ⟨[(2, ov (PTR gb_2 0)), (3, ov (PTR gb_3 0)), (4, ov (PTR gb_4 0)), (6, ov (PTR gb_6 0)), (7, ov (S (rI .i64) (1 : Int))), (18, ov (S (rI .i64) (1 : Int)))], [cvar gb_2 (rW (PTO none)) (), cvar gb_3 (rI .i64) place_1, cvar gb_4 (rP (rI .i64) (rP (rI .i64) (rP (rW (HDR none 0 0 0)) r0))) ((0 : Int), ((0 : Int), ((), ()))), cvar gb_6 r_api_Flight (api_Flight.mk (0 : Int) (0 : Int) ([] : (List UInt8)))], []⟩ (.cons rfl (.cons rfl (.cons rfl (.cons rfl (.cons rfl (.cons rfl .nil)))))) rfl rfl ?_
 refine jc (op_cmpI lb (.tmp rfl) .cI (congrArg some (by decide : ((1 : Int) != (0 : Int)) = true))) ?_
 refine JL.nil ?_
 refine JQ.then ?_
 refine JC.condT (.tmp rfl) rfl ?_
 refine JC.seq ?_
 refine JC.region ?_
 refine jc (op_loadA (j := 3) lb tA36 (.tmp rfl) rfl (Comp.self r_api_Flight (api_Flight.mk (0 : Int) (0 : Int) ([] : (List UInt8)))) rfl) ?_
 refine jc (op_move lb (.tmp rfl)) ?_
 refine jc (op_storeA (j := 2) tA36 (.tmp rfl) (.tmp rfl) rfl (UpdR.self (by rfl)) rfl) ?_
 refine jc (op_assign lb (.tmp rfl)) ?_
 refine JL.nil ?_
 refine JQ.then ?_
 refine JC.ret ?_
 refine JQ.outR ?_
 exact JQ.done (js := []) (ss := [.val (A r_api_Flight (api_Flight.mk (0 : Int) (0 : Int) ([] : (List UInt8)))), .val (S (rI .i64) (1 : Int))]) () (.inl rfl) (.nil rfl) rfl (.cons (.cellA (j := 2) tA36 rfl rfl) (.cons (.tmp rfl) .nil)) rfl rfl rfl

theorem sim_net_Net_Send'3 (k : Nat) (a_1 : Int) (a_2 : Int) (a_3 : (List UInt8)) (r : Unit) (hm : net_Net_Send'3 k a_1 a_2 a_3 = some r) : Sim Try.prog 13 [PTO none, S (rI .i64) a_1, S (rI .i64) a_2, S (rL (rU UInt8)) a_3] [] (γ := Unit) (fun q => []) (fun q => .one (.val (S (rI .i64) (1 : Int)))) := by
 unfold net_Net_Send'3 at hm
 refine Sim.of Try.func13 rfl rfl (Nat.le_of_ble_eq_true rfl) (fun e0 w0 => ?_)
 refine JC.at ⟨[(0, ov (PTO none)), (1, ov (S (rI .i64) a_1)), (2, ov (S (rI .i64) a_2)), (3, ov (S (rL (rU UInt8)) a_3))], [], []⟩ ?_
 refine JC.seq ?_
 refine JC.region ?_
 refine jc (op_assign lb .cI) ?_
 refine JL.nil ?_
 refine JQ.then ?_
 refine JC.seq ?_
 refine JC.block ?_
 refine JC.seq ?_
 refine JC.region ?_
 refine jc (op_move lb (.tmp rfl)) ?_
 replace hm := bnd_inv hm
 obtain ⟨_, hv_u_4, hm⟩ := hm
 refine jx (op_call (js := []) ld cl29 (sim_net_Net_there'2 k () hv_u_4) .func (.cons (.tmp rfl) .nil) rfl) (fun _ => ?_)
 refine jc (op_not lb (.tmp rfl) rfl) ?_
 refine jc (op_assign lb (.tmp rfl)) ?_
 refine JL.nil ?_
 refine JQ.then ?_
 refine JC.condT (.tmp rfl) rfl ?_
 refine JC.seq ?_
 refine JC.region ?_
 refine jc (op_assign lb .cI) ?_
 refine JL.nil ?_
 refine JQ.then ?_
 refine JC.ret ?_
 refine JQ.outRB ?_
 refine JQ.outR ?_
 exact JQ.done (js := []) (ss := [.val (S (rI .i64) (1 : Int))]) () (.inl rfl) (.nil rfl) rfl (.cons (.tmp rfl) .nil) rfl rfl rfl

theorem sim_net_Net_Drop'2 (k : Nat) (place_1 : Int) (r : Unit) (hm : net_Net_Drop'2 k place_1 = some r) : Sim Try.prog 28 [PTO none, S (rI .i64) place_1] [] (γ := Unit) (fun q => []) (fun q => .one (.val (S (rI .i64) (1 : Int)))) := by
 unfold net_Net_Drop'2 at hm
 refine Sim.of Try.func28 rfl rfl (Nat.le_of_ble_eq_true rfl) (fun e0 w0 => ?_)
 refine JC.at ⟨[(0, ov (PTO none)), (1, ov (S (rI .i64) place_1))], [], []⟩ ?_
 refine JC.seq ?_
 refine JC.region ?_
 refine jc (op_assign lb .cI) ?_
 refine JL.nil ?_
 refine JQ.then ?_
 refine JC.seq ?_
 refine JC.region ?_
 refine jc (op_move lb (.tmp rfl)) ?_
 refine jc (op_move lb (.tmp rfl)) ?_
 replace hm := bnd_inv hm
 obtain ⟨_, hv_u_2, hm⟩ := hm
 refine jx (op_call (js := []) ld cl15 (sim_net_Net_Take'3 k place_1 () hv_u_2) .func (.cons (.tmp rfl) (.cons (.tmp rfl) .nil)) rfl) (fun _ => ?_)
 refine jc (op_move lb (.tmp rfl)) ?_
 refine jc (op_extract (i := 0) lb (.tmp rfl) rfl) ?_
 refine jc (op_extract (i := 1) lb (.tmp rfl) rfl) ?_
 refine jx (op_alloc lb tZ36 zr36) (fun q => ?_)
 obtain ⟨gb_3, hqq⟩ : ∃ z, z = q := ⟨_, rfl⟩
 subst hqq
 refine jc (op_storeA (j := 0) tA36 (.tmp rfl) (.tmp rfl) rfl (UpdR.self (by rfl)) rfl) ?_
 refine JL.nrm ⟨[(12, ov (S (rI .i64) (1 : Int)))], [], []⟩ [] rfl (.cons rfl .nil) rfl ?_
 refine jc (op_assign lb (.tmp rfl)) ?_
 refine JL.nil ?_
 refine JQ.then ?_
 refine JC.seq ?_
 refine JC.region ?_
 refine jc (op_move lb (.tmp rfl)) ?_
 refine jc (op_assign lb (.tmp rfl)) ?_
 refine JL.nil ?_
 refine JQ.then ?_
 refine JC.ret ?_
 exact JQ.done (js := []) (ss := [.val (S (rI .i64) (1 : Int))]) () (.inl rfl) (.nil rfl) rfl (.cons (.tmp rfl) .nil) rfl rfl rfl

theorem sim_net_Net_Double'2 (k : Nat) (place_1 : Int) (r : Unit) (hm : net_Net_Double'2 k place_1 = some r) : Sim Try.prog 21 [PTO none, S (rI .i64) place_1] [] (γ := Unit) (fun q => []) (fun q => .one (.val (S (rI .i64) (1 : Int)))) := by
 unfold net_Net_Double'2 at hm
 refine Sim.of Try.func21 rfl rfl (Nat.le_of_ble_eq_true rfl) (fun e0 w0 => ?_)
 refine JC.at ⟨[(0, ov (PTO none)), (1, ov (S (rI .i64) place_1))], [], []⟩ ?_
 refine JC.seq ?_
 refine JC.region ?_
 refine jc (op_assign lb .cI) ?_
 refine JL.nil ?_
 refine JQ.then ?_
 refine JC.seq ?_
 refine JC.region ?_
 refine jc (op_move lb (.tmp rfl)) ?_
 refine jc (op_move lb (.tmp rfl)) ?_
 replace hm := bnd_inv hm
 obtain ⟨_, hv_u_2, hm⟩ := hm
 refine jx (op_call (js := []) ld cl14 (sim_net_Net_At'2 k place_1 () hv_u_2) .func (.cons (.tmp rfl) (.cons (.tmp rfl) .nil)) rfl) (fun _ => ?_)
 refine jc (op_move lb (.tmp rfl)) ?_
 refine jc (op_extract (i := 0) lb (.tmp rfl) rfl) ?_
 refine jc (op_extract (i := 1) lb (.tmp rfl) rfl) ?_
 refine jx (op_alloc lb tZ36 zr36) (fun q => ?_)
 obtain ⟨gb_3, hqq⟩ : ∃ z, z = q := ⟨_, rfl⟩
 subst hqq
 refine jc (op_storeA (j := 0) tA36 (.tmp rfl) (.tmp rfl) rfl (UpdR.self (by rfl)) rfl) ?_
 refine JL.sub ⟨[(0, ov (PTO none)), (5, ov (PTR gb_3 0)), (12, ov (S (rI .i64) (1 : Int)))], [cvar gb_3 r_api_Flight (api_Flight.mk (0 : Int) (0 : Int) ([] : (List UInt8)))], []⟩ (.cons rfl (.cons rfl (.cons rfl .nil))) rfl rfl ?_
 refine jc (op_assign lb (.tmp rfl)) ?_
 refine JL.nil ?_
 refine JQ.then ?_
 refine JC.seq ?_
 refine JC.block ?_
 refine JC.seq ?_
 refine JC.region ?_
 refine jc (op_move lb (.tmp rfl)) ?_
 refine jc (op_cmpI lb (.tmp rfl) .cI (congrArg some (by decide : ((1 : Int) != (0 : Int)) = true))) ?_
 refine jc (op_assign lb (.tmp rfl)) ?_
 refine JL.nil ?_
 refine JQ.then ?_
 refine JC.condT (.tmp rfl) rfl ?_
 refine JC.seq ?_
 refine JC.region ?_
 refine jc (op_move lb (.tmp rfl)) ?_
 refine jc (op_assign lb (.tmp rfl)) ?_
 refine JL.nil ?_
 refine JQ.then ?_
 refine JC.ret ?_
 refine JQ.outRB ?_
 refine JQ.outR ?_
 exact JQ.done (js := []) (ss := [.val (S (rI .i64) (1 : Int))]) () (.inl rfl) (.nil rfl) rfl (.cons (.tmp rfl) .nil) rfl rfl rfl

theorem sim_net_Net_All'2 (k : Nat) (r : Unit) (hm : net_Net_All'2 k = some r) : Sim Try.prog 31 [PTO none] [] (γ := Nat) (fun q => [cvar q (rW (HDR none 0 0 0)) ()]) (fun q => .one (.val (CLO 41 [PTR q 0]))) := by
 unfold net_Net_All'2 at hm
 refine Sim.of Try.func31 rfl rfl (Nat.le_of_ble_eq_true rfl) (fun e0 w0 => ?_)
 refine JC.at ⟨[(0, ov (PTO none))], [], []⟩ ?_
 refine JC.seq ?_
 refine JC.region ?_
 refine jc (op_assign lb (HasO.const (p := NILF) fun _ => rfl)) ?_
 refine JL.nil ?_
 refine JQ.then ?_
 refine JC.seq ?_
 refine JC.region ?_
 refine jx (op_alloc lb tZ30 zr30) (fun q => ?_)
 obtain ⟨gb_1, hqq⟩ : ∃ z, z = q := ⟨_, rfl⟩
 subst hqq
 refine JL.nil ?_
 refine JQ.then ?_
 replace hm := bnd_inv hm
 obtain ⟨_, hx1, hq1⟩ := hm
 refine JC.seqJ (γ := Unit) (stj := fun q => ⟨[(3, ov (PTR gb_1 0))], [cvar gb_1 (rW (HDR none 0 0 0)) ()], []⟩) (fun q => ?_) ?_
 · obtain _ := q
   refine JC.at ⟨[(3, ov (PTR gb_1 0))], [cvar gb_1 (rW (HDR none 0 0 0)) ()], []⟩ ?_
   refine JC.seq ?_
   refine JC.region ?_
   refine jc (op_makeFunc lb (.cons (.tmp rfl) .nil)) ?_
   refine jc (op_assign lb (.tmp rfl)) ?_
   refine JL.nil ?_
   refine JQ.then ?_
   refine JC.ret ?_
   exact JQ.done (js := [0]) (ss := [.val (CLO 41 [PTR gb_1 0])]) gb_1 (.inl rfl) (.nil rfl) rfl (.cons (.tmp rfl) .nil) rfl rfl rfl
 · refine JC.seq ?_
   refine JC.region ?_
   refine jc (op_move lb (.tmp rfl)) ?_
   replace hx1 := bnd_inv hx1
   obtain ⟨_, hv_u_2, hx1⟩ := hx1
   refine jx (op_call (js := []) ld cl29 (sim_net_Net_there'2 k () hv_u_2) .func (.cons (.tmp rfl) .nil) rfl) (fun _ => ?_)
   refine JL.nil ?_
   refine JQ.then ?_
   refine JC.condF (.tmp rfl) rfl ?_
   refine JC.skip ?_
   exact JQ.join () (Imp.norm (js := [0]) rfl (.cons rfl .nil))

theorem sim_net_Net_All_1'3 {σ τ γ : Type} (k : Nat) (Y_1 : (σ → (Int × api_Flight) → Option (σ ⊕ τ))) (x_2 : (σ ⊕ τ)) (x_4 : (List api_Flight)) (gq_3 : γ) (gb_5 : Nat) (L : Nat) (C : σ ⊕ τ → γ → Chunk) (hY : YSim Try.prog L (fun (u : Int × api_Flight) (z : Unit) => [S (rI .i64) u.1, A r_api_Flight u.2]) (fun (u : Int × api_Flight) (z : Unit) => []) Y_1 C) (r : (σ ⊕ τ)) (hm : net_Net_All_1'3 k Y_1 x_2 x_4 = some r) : Sim Try.prog 41 [YLD L, PTR gb_5 0] [C x_2 gq_3, cvar gb_5 (rL r_api_Flight) x_4] (γ := γ) (fun q => [C r q, cvar gb_5 (rL r_api_Flight) x_4]) (fun q => .tup []) := by
 unfold net_Net_All_1'3 at hm
 refine Sim.of Try.func41 rfl rfl (Nat.le_of_ble_eq_true rfl) (fun e0 w0 => ?_)
 refine JC.at ⟨[(0, ov (YLD L)), (1, ov (PTR gb_5 0))], [C x_2 gq_3, cvar gb_5 (rL r_api_Flight) x_4], []⟩ ?_
 refine JC.seq ?_
 refine JC.region ?_
 refine jc (op_loadS (j := 1) lb tS30 (.tmp rfl) rfl (Comp.self (rL r_api_Flight) x_4) rfl rfl) ?_
 refine jc (op_lenL lb tu30 (.tmp rfl)) ?_
 refine jc (op_move lb .cI) ?_
 refine JL.nil ?_
 refine JQ.then ?_
 refine JC.block ?_
 replace hm := bnd_inv hm
 obtain ⟨tv1, hL1, hq1⟩ := hm
 refine JC.pre ?_ (JC.loop (γ := γ) (stf := fun s q => ⟨[(0, ov (YLD L)), (5, ov (S (rL r_api_Flight) x_4)), (6, ov (S (rI .i64) (List.length x_4 : Int))), (7, ov (S (rI .i64) s.2))], [C s.1 q, cvar gb_5 (rL r_api_Flight) x_4], []⟩) (q := gq_3) hL1 ?_)
 · exact (Imp.norm (js := [0, 0]) rfl (.cons rfl (.cons rfl (.cons rfl (.cons rfl .nil)))))
 · intro s q x hx hr
   obtain ⟨x_6, x_7⟩ := s
   obtain ⟨gq_8, hqq⟩ : ∃ z, z = q := ⟨_, rfl⟩
   subst hqq
   change net_Net_All_1'3.b1 k x_4 Y_1 x_6 x_7 = some x at hx
   unfold net_Net_All_1'3.b1 at hx
   refine JC.at ⟨[(0, ov (YLD L)), (5, ov (S (rL r_api_Flight) x_4)), (6, ov (S (rI .i64) (List.length x_4 : Int))), (7, ov (S (rI .i64) x_7))], [C x_6 gq_8, cvar gb_5 (rL r_api_Flight) x_4], []⟩ ?_
   refine JC.seq ?_
   refine JC.region ?_
   replace hx := lt1_inv hx
   obtain ⟨v_9, hv_v_9, hx⟩ := hx
   refine jc (op_cmpI lb (.tmp rfl) (.tmp rfl) (congrArg some hv_v_9)) ?_
   refine JL.nil ?_
   refine JQ.then ?_
   refine JC.seq ?_
   replace hx := iteB_inv hx
   rcases hx with ⟨hc2, hx⟩ | ⟨hc2, hx⟩
   · refine JC.condT (.tmp rfl) hc2 ?_
     refine JC.skip ?_
     refine JQ.then ?_
     refine JC.seq ?_
     refine JC.block ?_
     refine JC.seq ?_
     refine JC.region ?_
     refine jc (op_move lb (.tmp rfl)) ?_
     replace hx := bnd_inv hx
     obtain ⟨v_10, hv_v_10, hx⟩ := hx
     refine jc (op_indexAddrLg lb tu30 tz36 (.tmp rfl) (.tmp rfl) hv_v_10) ?_
     refine jc (op_loadPAg lb tA36 (.tmp rfl) rfl) ?_
     refine jx (op_alloc lb tZ36 zr36) (fun q => ?_)
     obtain ⟨gb_11, hqq⟩ : ∃ z, z = q := ⟨_, rfl⟩
     subst hqq
     refine jc (op_assign lb (.tmp rfl)) ?_
     refine jc (op_storeA (j := 2) tA36 (.tmp rfl) (.tmp rfl) rfl (UpdR.self (by rfl)) rfl) ?_
     refine JL.nil ?_
     refine JQ.then ?_
     refine JC.seq ?_
     refine JC.region ?_
     refine jc (op_fieldAddr (off := 2) lb tf36_2 (.tmp rfl)) ?_
     refine JL.sub ⟨[(0, ov (YLD L)), (3, ov (S (rI .i64) x_7)), (4, ov (PTR gb_11 0)), (5, ov (S (rL r_api_Flight) x_4)), (6, ov (S (rI .i64) (List.length x_4 : Int))), (7, ov (S (rI .i64) x_7)), (12, ov (PTR gb_11 (0 + 2)))], [C x_6 gq_8, cvar gb_5 (rL r_api_Flight) x_4, cvar gb_11 r_api_Flight v_10], []⟩ (.cons rfl (.cons rfl (.cons rfl (.cons rfl (.cons rfl (.cons rfl (.cons rfl .nil))))))) rfl rfl ?_
     refine jc (op_loadS (j := 2) lb tS31 (.tmp rfl) rfl (Comp.trans (Comp.self r_api_Flight v_10) (comp_api_Flight_Bytes v_10) (Nat.le_of_ble_eq_true rfl)) rfl rfl) ?_
     replace hx := bnd_inv hx
     obtain ⟨v_12, hv_v_12, hx⟩ := hx
     refine jx (op_call (js := []) ld cl40 (sim_slices_Clonebyte_byte k v_10.Bytes v_12 hv_v_12) .func (.cons (.tmp rfl) .nil) rfl) (fun q => ?_)
     obtain ⟨go_13, gc_14⟩ := q
     refine jc (op_fieldAddr (off := 2) lb tf36_2 (.tmp rfl)) ?_
     refine JL.pre (Imp.var (j := 3) (q := (rP (rI .i64) (rP (rI .i64) (rP (rL (rU UInt8)) r0)))) (y := (v_10.From, (v_10.To, (v_10.Bytes, ())))) rfl (Wk.trans Wk.un Wk.refl)) ?_
     refine jc (op_storeW (j := 3) tS31 (.tmp rfl) (.tmp rfl) rfl ((UpdR.snd (UpdR.snd (UpdR.fst (UpdR.self (by rfl))))).at (by change (1 + (1 + 0)) = (0 + 2); omega)) rfl) ?_
     refine JL.nil ?_
     refine JQ.then ?_
     refine JC.seq ?_
     refine JC.region ?_
     refine jc (op_move lb (.tmp rfl)) ?_
     refine jc (op_move lb (.tmp rfl)) ?_
     refine jc (op_loadA (j := 3) lb tA36 (.tmp rfl) rfl (Comp.self (rP (rI .i64) (rP (rI .i64) (rP (rW (HDR go_13 0 (List.length v_12) gc_14)) r0))) (v_10.From, (v_10.To, ((), ())))) rfl) ?_
     replace hx := bnd_inv hx
     obtain ⟨y_15, hv_y_15, hx⟩ := hx
     refine JL.pre (Imp.frz (j := 0) rfl (ImpK.slotH (s := 14) rfl (ImpK.slotA (s := 18) (q := (rP (rI .i64) (rP (rI .i64) (rP (rW (HL go_13 (rU UInt8) v_12 gc_14)) r0)))) (y := (v_10.From, (v_10.To, ((), ())))) rfl (Wk.pair Wk.refl (Wk.pair Wk.refl (Wk.pair Wk.own Wk.refl))) (ImpK.var (j := 3) (q := (rP (rI .i64) (rP (rI .i64) (rP (rW (HL go_13 (rU UInt8) v_12 gc_14)) r0)))) (y := (v_10.From, (v_10.To, ((), ())))) rfl (Wk.pair Wk.refl (Wk.pair Wk.refl (Wk.pair Wk.own Wk.refl))) ImpK.refl)))) ?_
     refine JL.pre (Imp.slotA (s := 18) rfl (Wk.st (Wk.pair Wk.refl (Wk.pair Wk.refl (Wk.pair Wk.hl Wk.refl))))) ?_
     refine jx (op_yld (js := [1]) (u := (x_7, (api_Flight.mk v_10.From v_10.To v_12))) (z := ()) (rest := _) lb hY (.tmp rfl) (.cons (.tmp rfl) (.cons (.tmp rfl) .nil)) rfl hv_y_15) (fun q => ?_)
     obtain ⟨gq_16, hqq⟩ : ∃ z, z = q := ⟨_, rfl⟩
     subst hqq
     refine JL.nrm ⟨[(0, ov (YLD L)), (5, ov (S (rL r_api_Flight) x_4)), (6, ov (S (rI .i64) (List.length x_4 : Int))), (7, ov (S (rI .i64) x_7)), (19, ov (S rB (Sum.isLeft y_15)))], [C y_15 gq_16, cvar gb_5 (rL r_api_Flight) x_4], []⟩ [0, 1] rfl (.cons rfl (.cons rfl (.cons rfl (.cons rfl (.cons rfl .nil))))) rfl ?_
     replace hx := lt1_inv hx
     obtain ⟨v_17, hv_v_17, hx⟩ := hx
     refine jc (op_not lb (.tmp rfl) hv_v_17) ?_
     refine JL.nil ?_
     refine JQ.then ?_
     replace hx := iteB_inv hx
     rcases hx with ⟨hc3, hx⟩ | ⟨hc3, hx⟩
     · refine JC.condT (.tmp rfl) hc3 ?_
       refine JC.ret ?_
       refine JQ.outRB ?_
       refine JQ.outR ?_
       replace hx := Option.some.inj hx
       first | subst hx | clear hx
       have ht := hr _ rfl
       clear hr
       first | subst ht | clear ht
       dsimp only at hq1
       refine JQ.outR ?_
       refine JQ.outRB ?_
       replace hq1 := Option.some.inj hq1
       subst hq1
       exact JQ.done (js := [0, 0]) (ss := []) gq_16 (.inl rfl) (.nil rfl) rfl .nil rfl rfl rfl
     · refine JC.condF (.tmp rfl) hc3 ?_
       refine JC.skip ?_
       refine JQ.outNB ?_
       refine JQ.then ?_
       refine JC.region ?_
       replace hx := lt1_inv hx
       obtain ⟨v_18, hv_v_18, hx⟩ := hx
       refine jc (op_arI lb (.tmp rfl) .cI (congrArg some hv_v_18)) ?_
       refine jc (op_move lb (.tmp rfl)) ?_
       refine JL.nil ?_
       replace hx := Option.some.inj hx
       first | subst hx | clear hx
       exact JQ.next gq_16 rfl (Imp.norm (js := [0, 0]) rfl (.cons rfl (.cons rfl (.cons rfl (.cons rfl .nil)))))
   · refine JC.condF (.tmp rfl) hc2 ?_
     refine JC.exit ?_
     refine JQ.outX ?_
     replace hx := Option.some.inj hx
     first | subst hx | clear hx
     have ht := hr _ rfl
     clear hr
     first | subst ht | clear ht
     dsimp only at hq1
     refine JQ.outX ?_
     refine JQ.here ?_
     replace hq1 := Option.some.inj hq1
     subst hq1
     exact JQ.done (js := [0, 0]) (ss := []) gq_8 (.inr rfl) (.nil rfl) rfl .nil rfl rfl rfl

end Go.Proofs.Ytnadeehdnmgebaa
