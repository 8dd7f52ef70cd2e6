/- Walks. -/
import Derived.Test.YtnadeehdnmgebaaT
import Derived.Test.YtnadeehdnmgebaaW0
import Derived.Test.YtnadeehdnmgebaaW23
import Derived.Test.YtnadeehdnmgebaaW24
namespace Go.Proofs.Ytnadeehdnmgebaa
open Go Fw
set_option linter.unusedVariables false
set_option maxRecDepth 100000
set_option maxHeartbeats 4000000

theorem sim_law12_nothing (k : Nat) (r : Bool) (hm : law12_nothing k = some r) : Sim Try.prog 27 [PTO none] [] (γ := Unit) (fun q => []) (fun q => .one (.val (S rB r))) := by
 unfold law12_nothing at hm
 refine Sim.of Try.func27 rfl rfl (Nat.le_of_ble_eq_true rfl) (fun e0 w0 => ?_)
 refine JC.at ⟨[(0, ov (PTO none))], [], []⟩ ?_
 refine JC.seq ?_
 refine JC.region ?_
 refine jc (op_assign lb .cB) ?_
 refine JL.nil ?_
 refine JQ.then ?_
 refine JC.seq ?_
 refine JC.region ?_
 refine jc (op_move lb (.tmp rfl)) ?_
 replace hm := bnd_inv hm
 obtain ⟨_, hv_u_1, hm⟩ := hm
 refine jx (op_call (js := []) ld cl15 (sim_net_Net_Take'3 k (0 : Int) () hv_u_1) .func (.cons (.tmp rfl) (.cons .cI .nil)) rfl) (fun _ => ?_)
 refine jc (op_move lb (.tmp rfl)) ?_
 refine jc (op_extract (i := 0) lb (.tmp rfl) rfl) ?_
 refine jc (op_extract (i := 1) lb (.tmp rfl) rfl) ?_
 refine jx (op_alloc lb tZ36 zr36) (fun q => ?_)
 obtain ⟨gb_2, hqq⟩ : ∃ z, z = q := ⟨_, rfl⟩
 subst hqq
 refine jc (op_storeA (j := 0) tA36 (.tmp rfl) (.tmp rfl) rfl (UpdR.self (by rfl)) rfl) ?_
 refine JL.nrm ⟨[(0, ov (PTO none)), (11, ov (S (rI .i64) (1 : Int)))], [], []⟩ [] rfl (.cons rfl (.cons rfl .nil)) rfl ?_
 refine jc (op_assign lb (.tmp rfl)) ?_
 refine JL.nil ?_
 refine JQ.then ?_
 refine JC.seq ?_
 refine JC.region ?_
 refine jc (op_move lb (.tmp rfl)) ?_
 replace hm := bnd_inv hm
 obtain ⟨_, hv_u_3, hm⟩ := hm
 refine jx (op_call (js := []) ld cl14 (sim_net_Net_At'2 k (-1 : Int) () hv_u_3) .func (.cons (.tmp rfl) (.cons .cI .nil)) rfl) (fun _ => ?_)
 refine jc (op_move lb (.tmp rfl)) ?_
 refine jc (op_extract (i := 0) lb (.tmp rfl) rfl) ?_
 refine jc (op_extract (i := 1) lb (.tmp rfl) rfl) ?_
 refine jx (op_alloc lb tZ36 zr36) (fun q => ?_)
 obtain ⟨gb_4, hqq⟩ : ∃ z, z = q := ⟨_, rfl⟩
 subst hqq
 refine jc (op_storeA (j := 0) tA36 (.tmp rfl) (.tmp rfl) rfl (UpdR.self (by rfl)) rfl) ?_
 refine JL.nrm ⟨[(0, ov (PTO none)), (4, ov (S (rI .i64) (1 : Int))), (16, ov (S (rI .i64) (1 : Int)))], [], []⟩ [] rfl (.cons rfl (.cons rfl (.cons rfl .nil))) rfl ?_
 refine jc (op_assign lb (.tmp rfl)) ?_
 refine JL.nil ?_
 refine JQ.then ?_
 replace hm := bnd_inv hm
 obtain ⟨x_25, hx1, hq1⟩ := hm
 refine JC.seqJ (γ := Unit) (stj := fun q => ⟨[(2, ov (S rB x_25))], [], []⟩) (fun q => ?_) ?_
 · obtain _ := q
   refine JC.at ⟨[(2, ov (S rB x_25))], [], []⟩ ?_
   refine JC.ret ?_
   replace hq1 := Option.some.inj hq1
   subst hq1
   exact JQ.done (js := []) (ss := [.val (S rB x_25)]) () (.inl rfl) (.nil rfl) rfl (.cons (.tmp rfl) .nil) rfl rfl rfl
 · refine JC.region ?_
   refine jc (op_move lb (.tmp rfl)) ?_
   replace hx1 := bnd_inv hx1
   obtain ⟨_, hv_u_5, hx1⟩ := hx1
   refine jx (op_call (js := []) ld cl13 (sim_net_Net_Send'3 k (1 : Int) (2 : Int) ([] : (List UInt8)) () hv_u_5) .func (.cons (.tmp rfl) (.cons .cI (.cons .cI (.cons (HasO.wk (q := S (rL (rU UInt8)) []) HasO.nilH wkNil) .nil)))) rfl) (fun _ => ?_)
   replace hx1 := bnd_inv hx1
   obtain ⟨_, hv_u_6, hx1⟩ := hx1
   refine jx (op_call (js := []) ld cl12 (sim_law12_num k (1 : Int) () hv_u_6) .func (.cons (.tmp rfl) .nil) rfl) (fun _ => ?_)
   refine jc (op_cmpI lb (.tmp rfl) .cI (congrArg some (by decide : ((1 : Int) == (1 : Int)) = true))) ?_
   refine jc (op_move lb (.tmp rfl)) ?_
   refine JL.run (.yes rfl (ltB rfl) rfl rfl) (op_move lb (.tmp rfl)) ?_
   replace hx1 := bnd_inv hx1
   obtain ⟨_, hv_u_7, hx1⟩ := hx1
   refine JL.runX (.yes rfl (ltB rfl) rfl rfl) (op_call (js := []) ld cl12 (sim_law12_num k (1 : Int) () hv_u_7) .func (.cons (.tmp rfl) .nil) rfl) (fun _ => ?_)
   refine JL.run (.yes rfl (ltB rfl) rfl rfl) (op_cmpI lb (.tmp rfl) .cI (congrArg some (by decide : ((1 : Int) == (1 : Int)) = true))) ?_
   refine jc (op_pickT lb (.tmp rfl) rfl (.tmp rfl)) ?_
   refine jc (op_move lb (.tmp rfl)) ?_
   refine JL.run (.yes rfl (ltB rfl) rfl rfl) (op_move lb (.tmp rfl)) ?_
   refine JL.sub ⟨[(0, ov (PTO none)), (26, ov (S rB true)), (27, ov (S (rI .i64) (1 : Int)))], [], []⟩ (.cons rfl (.cons rfl (.cons rfl .nil))) rfl rfl ?_
   replace hx1 := bnd_inv hx1
   obtain ⟨_, hv_u_8, hx1⟩ := hx1
   refine JL.runX (.yes rfl (ltB rfl) rfl rfl) (op_call (js := []) ld cl12 (sim_law12_num k (1 : Int) () hv_u_8) .func (.cons (.tmp rfl) .nil) rfl) (fun _ => ?_)
   refine JL.run (.yes rfl (ltB rfl) rfl rfl) (op_cmpI lb (.tmp rfl) .cI (congrArg some (by decide : ((1 : Int) == (1 : Int)) = true))) ?_
   refine jc (op_pickT lb (.tmp rfl) rfl (.tmp rfl)) ?_
   refine jc (op_move lb (.tmp rfl)) ?_
   refine JL.run (.yes rfl (ltB rfl) rfl rfl) (op_move lb (.tmp rfl)) ?_
   replace hx1 := bnd_inv hx1
   obtain ⟨_, hv_u_9, hx1⟩ := hx1
   refine JL.runX (.yes rfl (ltB rfl) rfl rfl) (op_call (js := []) ld cl28 (sim_net_Net_Drop'2 k (0 : Int) () hv_u_9) .func (.cons (.tmp rfl) (.cons .cI .nil)) rfl) (fun _ => ?_)
   replace hx1 := bnd_inv hx1
   obtain ⟨_, hv_u_10, hx1⟩ := hx1
   refine JL.runX (.yes rfl (ltB rfl) rfl rfl) (op_call (js := []) ld cl12 (sim_law12_num k (1 : Int) () hv_u_10) .func (.cons (.tmp rfl) .nil) rfl) (fun _ => ?_)
   refine JL.run (.yes rfl (ltB rfl) rfl rfl) (op_cmpI lb (.tmp rfl) .cI (congrArg some (by decide : ((1 : Int) == (1 : Int)) = true))) ?_
   refine jc (op_pickT lb (.tmp rfl) rfl (.tmp rfl)) ?_
   refine jc (op_move lb (.tmp rfl)) ?_
   refine JL.run (.yes rfl (ltB rfl) rfl rfl) (op_move lb (.tmp rfl)) ?_
   replace hx1 := bnd_inv hx1
   obtain ⟨_, hv_u_11, hx1⟩ := hx1
   refine JL.runX (.yes rfl (ltB rfl) rfl rfl) (op_call (js := []) ld cl21 (sim_net_Net_Double'2 k (0 : Int) () hv_u_11) .func (.cons (.tmp rfl) (.cons .cI .nil)) rfl) (fun _ => ?_)
   refine JL.sub ⟨[(0, ov (PTO none)), (37, ov (S rB true)), (39, ov (S (rI .i64) (1 : Int)))], [], []⟩ (.cons rfl (.cons rfl (.cons rfl .nil))) rfl rfl ?_
   replace hx1 := bnd_inv hx1
   obtain ⟨_, hv_u_12, hx1⟩ := hx1
   refine JL.runX (.yes rfl (ltB rfl) rfl rfl) (op_call (js := []) ld cl12 (sim_law12_num k (1 : Int) () hv_u_12) .func (.cons (.tmp rfl) .nil) rfl) (fun _ => ?_)
   refine JL.run (.yes rfl (ltB rfl) rfl rfl) (op_cmpI lb (.tmp rfl) .cI (congrArg some (by decide : ((1 : Int) == (1 : Int)) = true))) ?_
   refine jc (op_pickT lb (.tmp rfl) rfl (.tmp rfl)) ?_
   refine jc (op_move lb (.tmp rfl)) ?_
   refine JL.run (.yes rfl (ltB rfl) rfl rfl) (op_move lb (.tmp rfl)) ?_
   refine JL.run (.yes rfl (ltB rfl) rfl rfl) (op_build lb tZ43 zr43 tp43 .nil rfl) ?_
   refine JL.runX (.yes rfl (ltB rfl) rfl rfl) (op_boxA lb (.tmp rfl)) (fun q => ?_)
   obtain ⟨gb_13, hqq⟩ : ∃ z, z = q := ⟨_, rfl⟩
   subst hqq
   replace hx1 := bnd_inv hx1
   obtain ⟨v_14, hv_v_14, hx1⟩ := hx1
   refine JL.runX (.yes rfl (ltB rfl) rfl rfl) (op_call (js := [0]) ld cl22 (sim_law12_once'2 k (0 : Int) (0 : Int) (0 : Int) gb_13 v_14 hv_v_14) .func (.cons (.tmp rfl) (.cons (.tmp rfl) (.cons .cI .nil))) rfl) (fun _ => ?_)
   refine jc (op_pickT lb (.tmp rfl) rfl (.tmp rfl)) ?_
   refine jc (op_move lb (.tmp rfl)) ?_
   refine JL.nrm ⟨[(0, ov (PTO none)), (49, ov (S rB v_14))], [], []⟩ [] rfl (.cons rfl (.cons rfl .nil)) rfl ?_
   refine JL.cnd (sv := ov (PTO none)) (Guard.isT (ltB rfl) rfl rfl) rfl (ltB rfl) (fun hq_2 => op_move lb (.tmp rfl)) ?_
   replace hx1 := bnd_inv hx1
   obtain ⟨_, hv_u_15, hx1⟩ := hx1
   refine JL.cnd (sv := ov (S (rI .i64) (0 : Int))) (Guard.isT (ltB rfl) rfl rfl) rfl (ltB rfl) (fun hq_3 => (op_call (js := []) ld cl16 (sim_net_Net_Len'2 k () (ifT hv_u_15 hq_3)) .func (.cons (HasO.cnd (.tmp rfl) hq_3) .nil) rfl).post (fun _ => Imp.refl)) ?_
   refine JL.cnd (sv := ov (S rB true)) (Guard.isT (ltB rfl) rfl rfl) rfl (ltB rfl) (fun hq_4 => op_cmpI lb (HasO.cnd (.tmp rfl) hq_4) .cI (congrArg some (by decide : ((0 : Int) == (0 : Int)) = true))) ?_
   replace hx1 := lt1_inv hx1
   obtain ⟨v_16, hv_v_16, hx1⟩ := hx1
   refine jc (op_pickCS lb (.tmp rfl) (fun hb5 => (HasO.cnd (.tmp rfl) hb5)) (fun hb5 => .cB) hv_v_16) ?_
   refine jc (op_move lb (.tmp rfl)) ?_
   refine JL.cnd (sv := ov (PTO none)) (Guard.isT (ltB rfl) rfl rfl) rfl (ltB rfl) (fun hq_6 => op_move lb (.tmp rfl)) ?_
   replace hx1 := bnd_inv hx1
   obtain ⟨_, hv_u_17, hx1⟩ := hx1
   refine JL.cnd (sv := ov (S (rI .i64) (0 : Int))) (Guard.isT (ltB rfl) rfl rfl) rfl (ltB rfl) (fun hq_7 => (op_call (js := []) ld cl19 (sim_net_Net_Line'2 k (1 : Int) (2 : Int) () (ifT hv_u_17 hq_7)) .func (.cons (HasO.cnd (.tmp rfl) hq_7) (.cons .cI (.cons .cI .nil))) rfl).post (fun _ => Imp.refl)) ?_
   refine JL.cnd (sv := ov (S rB true)) (Guard.isT (ltB rfl) rfl rfl) rfl (ltB rfl) (fun hq_8 => op_cmpI lb (HasO.cnd (.tmp rfl) hq_8) .cI (congrArg some (by decide : ((0 : Int) == (0 : Int)) = true))) ?_
   replace hx1 := lt1_inv hx1
   obtain ⟨v_18, hv_v_18, hx1⟩ := hx1
   refine jc (op_pickCS lb (.tmp rfl) (fun hb9 => (HasO.cnd (.tmp rfl) hb9)) (fun hb9 => .cB) hv_v_18) ?_
   refine jc (op_move lb (.tmp rfl)) ?_
   refine JL.cnd (sv := ov (PTO none)) (Guard.isT (ltB rfl) rfl rfl) rfl (ltB rfl) (fun hq_10 => op_move lb (.tmp rfl)) ?_
   replace hx1 := bnd_inv hx1
   obtain ⟨_, hv_u_19, hx1⟩ := hx1
   refine JL.cnd (sv := ov (S (rI .i64) (0 : Int))) (Guard.isT (ltB rfl) rfl rfl) rfl (ltB rfl) (fun hq_11 => (op_call (js := []) ld cl26 (sim_net_Net_Lost'2 k () (ifT hv_u_19 hq_11)) .func (.cons (HasO.cnd (.tmp rfl) hq_11) .nil) rfl).post (fun _ => Imp.refl)) ?_
   refine JL.sub ⟨[(0, ov (PTO none)), (59, ov (S rB v_18)), (61, bif v_18 then ov (S (rI .i64) (0 : Int)) else .one .und)], [], []⟩ (.cons rfl (.cons rfl (.cons rfl .nil))) rfl rfl ?_
   refine JL.cnd (sv := ov (S rB true)) (Guard.isT (ltB rfl) rfl rfl) rfl (ltB rfl) (fun hq_12 => op_cmpI lb (HasO.cnd (.tmp rfl) hq_12) .cI (congrArg some (by decide : ((0 : Int) == (0 : Int)) = true))) ?_
   replace hx1 := lt1_inv hx1
   obtain ⟨v_20, hv_v_20, hx1⟩ := hx1
   refine jc (op_pickCS lb (.tmp rfl) (fun hb13 => (HasO.cnd (.tmp rfl) hb13)) (fun hb13 => .cB) hv_v_20) ?_
   refine jc (op_move lb (.tmp rfl)) ?_
   refine JL.cnd (sv := ov (PTO none)) (Guard.isT (ltB rfl) rfl rfl) rfl (ltB rfl) (fun hq_14 => op_move lb (.tmp rfl)) ?_
   replace hx1 := bnd_inv hx1
   obtain ⟨_, hv_u_21, hx1⟩ := hx1
   refine JL.cnd (sv := ov (S (rI .i64) (0 : Int))) (Guard.isT (ltB rfl) rfl rfl) rfl (ltB rfl) (fun hq_15 => (op_call (js := []) ld cl20 (sim_net_Net_Clear'2 k (1 : Int) () (ifT hv_u_21 hq_15)) .func (.cons (HasO.cnd (.tmp rfl) hq_15) (.cons .cI .nil)) rfl).post (fun _ => Imp.refl)) ?_
   refine JL.cnd (sv := ov (S rB true)) (Guard.isT (ltB rfl) rfl rfl) rfl (ltB rfl) (fun hq_16 => op_cmpI lb (HasO.cnd (.tmp rfl) hq_16) .cI (congrArg some (by decide : ((0 : Int) == (0 : Int)) = true))) ?_
   replace hx1 := lt1_inv hx1
   obtain ⟨v_22, hv_v_22, hx1⟩ := hx1
   refine jc (op_pickCS lb (.tmp rfl) (fun hb17 => (HasO.cnd (.tmp rfl) hb17)) (fun hb17 => .cB) hv_v_22) ?_
   refine jc (op_move lb (.tmp rfl)) ?_
   refine JL.cnd (sv := ov (PTO none)) (Guard.isT (ltB rfl) rfl rfl) rfl (ltB rfl) (fun hq_18 => op_move lb (.tmp rfl)) ?_
   replace hx1 := bnd_inv hx1
   obtain ⟨_, hv_u_23, hx1⟩ := hx1
   refine JL.cnd (sv := ov (PTO none)) (Guard.isT (ltB rfl) rfl rfl) rfl (ltB rfl) (fun hq_19 => (op_call (js := []) ld cl23 (sim_net_Net_Copy'2 k () (ifT hv_u_23 hq_19)) .func (.cons (HasO.cnd (.tmp rfl) hq_19) .nil) rfl).post (fun _ => Imp.refl)) ?_
   refine JL.cnd (sv := ov (S rB true)) (Guard.isT (ltB rfl) rfl rfl) rfl (ltB rfl) (fun hq_20 => op_nilO (neg := false) (ob := none) lb tu25 (HasO.cnd (.tmp rfl) hq_20) (HasO.const (p := PTO none) fun _ => rfl) rfl) ?_
   replace hx1 := lt1_inv hx1
   obtain ⟨v_24, hv_v_24, hx1⟩ := hx1
   refine jc (op_pickCS lb (.tmp rfl) (fun hb21 => (HasO.cnd (.tmp rfl) hb21)) (fun hb21 => .cB) hv_v_24) ?_
   refine JL.sub ⟨[(73, ov (S rB v_24))], [], []⟩ (.cons rfl .nil) rfl rfl ?_
   refine jc (op_assign lb (.tmp rfl)) ?_
   refine JL.nil ?_
   replace hx1 := Option.some.inj hx1
   first | subst hx1 | clear hx1
   exact JQ.join () (Imp.norm (js := []) rfl (.cons rfl .nil))

theorem sim_net_Net_there'3 (k : Nat) (ends_1 : Int) (lost_2 : Int) (gb_3 : Nat) (r : Unit) (hm : net_Net_there'3 k ends_1 lost_2 = some r) : Sim Try.prog 29 [PTR gb_3 0] [cvar gb_3 (rP (rW (MPV none)) (rP (rI .i64) (rP (rI .i64) r0))) ((), (ends_1, (lost_2, ())))] (γ := Unit) (fun q => [cvar gb_3 (rP (rW (MPV none)) (rP (rI .i64) (rP (rI .i64) r0))) ((), (ends_1, (lost_2, ())))]) (fun q => .one (.val (S rB false))) := by
 unfold net_Net_there'3 at hm
 refine Sim.of Try.func29 rfl rfl (Nat.le_of_ble_eq_true rfl) (fun e0 w0 => ?_)
 refine JC.at ⟨[(0, ov (PTR gb_3 0))], [cvar gb_3 (rP (rW (MPV none)) (rP (rI .i64) (rP (rI .i64) r0))) ((), (ends_1, (lost_2, ())))], []⟩ ?_
 refine JC.seq ?_
 refine JC.region ?_
 refine jc (op_assign lb .cB) ?_
 refine JL.nil ?_
 refine JQ.then ?_
 replace hm := bnd_inv hm
 obtain ⟨_, hx1, hq1⟩ := hm
 refine JC.seqJ (γ := Unit) (stj := fun q => ⟨[(2, ov (S rB false))], [cvar gb_3 (rP (rW (MPV none)) (rP (rI .i64) (rP (rI .i64) r0))) ((), (ends_1, (lost_2, ())))], []⟩) (fun q => ?_) ?_
 · obtain _ := q
   refine JC.at ⟨[(2, ov (S rB false))], [cvar gb_3 (rP (rW (MPV none)) (rP (rI .i64) (rP (rI .i64) r0))) ((), (ends_1, (lost_2, ())))], []⟩ ?_
   refine JC.ret ?_
   exact JQ.done (js := [0]) (ss := [.val (S rB false)]) () (.inl rfl) (.nil rfl) rfl (.cons (.tmp rfl) .nil) rfl rfl rfl
 · refine JC.region ?_
   refine jc (op_move lb (.tmp rfl)) ?_
   refine jc (op_nilP (neg := true) lb tu25 (.tmp rfl) (HasO.const (p := PTO none) fun _ => rfl)) ?_
   refine jc (op_move lb (.tmp rfl)) ?_
   refine JL.run (.yes rfl (ltB rfl) rfl rfl) (op_move lb (.tmp rfl)) ?_
   refine JL.run (.yes rfl (ltB rfl) rfl rfl) (op_nilCheck lb (.tmp rfl) (fun e v h => by subst h; rfl)) ?_
   refine JL.run (.yes rfl (ltB rfl) rfl rfl) (op_fieldAddr (off := 0) lb tf57_0 (.tmp rfl)) ?_
   refine JL.run (.yes rfl (ltB rfl) rfl rfl) (op_loadW (j := 0) lb tS55 (.tmp rfl) rfl (Comp.trans (Comp.self (rP (rW (MPV none)) (rP (rI .i64) (rP (rI .i64) r0))) ((), (ends_1, (lost_2, ())))) (Comp.at' (Comp.inF (Comp.self (rW (MPV none)) ()) (Nat.le_of_ble_eq_true rfl)) (by rfl : _ = 0)) (Nat.le_of_ble_eq_true rfl))) ?_
   refine JL.run (.yes rfl (ltB rfl) rfl rfl) (op_nilM (neg := true) (ob := none) lb tu55 (.tmp rfl) (HasO.const (p := MPV none) fun _ => rfl) rfl) ?_
   refine jc (op_pickT lb (.tmp rfl) rfl (.tmp rfl)) ?_
   refine jc (op_assign lb (.tmp rfl)) ?_
   refine JL.nil ?_
   refine JQ.pre (Imp.var (j := 0) (q := (rP (rW (MPV none)) (rP (rI .i64) (rP (rI .i64) r0)))) (y := ((), (ends_1, (lost_2, ())))) rfl Wk.refl) ?_
   exact JQ.join () (Imp.norm (js := [0]) rfl (.cons rfl .nil))

theorem sim_net_Net_At'3 (k : Nat) (place_1 : Int) (ends_2 : Int) (lost_3 : Int) (gb_4 : Nat) (r : Unit) (hm : net_Net_At'3 k place_1 ends_2 lost_3 = some r) : Sim Try.prog 14 [PTR gb_4 0, S (rI .i64) place_1] [cvar gb_4 (rP (rW (MPV none)) (rP (rI .i64) (rP (rI .i64) r0))) ((), (ends_2, (lost_3, ())))] (γ := Unit) (fun q => [cvar gb_4 (rP (rW (MPV none)) (rP (rI .i64) (rP (rI .i64) r0))) ((), (ends_2, (lost_3, ())))]) (fun q => .tup [.val (A r_api_Flight (api_Flight.mk (0 : Int) (0 : Int) ([] : (List UInt8)))), .val (S (rI .i64) (1 : Int))]) := by
 unfold net_Net_At'3 at hm
 refine Sim.of Try.func14 rfl rfl (Nat.le_of_ble_eq_true rfl) (fun e0 w0 => ?_)
 refine JC.at ⟨[(0, ov (PTR gb_4 0)), (1, ov (S (rI .i64) place_1))], [cvar gb_4 (rP (rW (MPV none)) (rP (rI .i64) (rP (rI .i64) r0))) ((), (ends_2, (lost_3, ())))], []⟩ ?_
 refine JC.seq ?_
 refine JC.region ?_
 refine jx (op_boxS lb (.tmp rfl)) (fun q => ?_)
 obtain ⟨gb_5, hqq⟩ : ∃ z, z = q := ⟨_, rfl⟩
 subst hqq
 refine jx (op_alloc lb tZ36 zr36) (fun q => ?_)
 obtain ⟨gb_6, hqq⟩ : ∃ z, z = q := ⟨_, rfl⟩
 subst hqq
 refine jx (op_alloc lb tZ26 zr26) (fun q => ?_)
 obtain ⟨gb_7, hqq⟩ : ∃ z, z = q := ⟨_, rfl⟩
 subst hqq
 refine JL.nil ?_
 refine JQ.then ?_
 refine JC.scope ?_
 refine JC.seq ?_
 refine JC.block ?_
 refine JC.seq ?_
 refine JC.region ?_
 refine jc (op_move lb (.tmp rfl)) ?_
 replace hm := bnd_inv hm
 obtain ⟨_, hv_u_8, hm⟩ := hm
 refine jx (op_call (js := [0]) ld cl29 (sim_net_Net_there'3 k ends_2 lost_3 gb_4 () hv_u_8) .func (.cons (.tmp rfl) .nil) rfl) (fun _ => ?_)
 refine JL.sub ⟨[(0, ov (PTR gb_4 0)), (3, ov (PTR gb_5 0)), (4, ov (PTR gb_6 0)), (5, ov (PTR gb_7 0)), (10, ov (S rB false))], [cvar gb_4 (rP (rW (MPV none)) (rP (rI .i64) (rP (rI .i64) r0))) ((), (ends_2, (lost_3, ()))), cvar gb_5 (rI .i64) place_1, cvar gb_6 (rP (rI .i64) (rP (rI .i64) (rP (rW (HDR none 0 0 0)) r0))) ((0 : Int), ((0 : Int), ((), ()))), cvar gb_7 (rI .i64) (0 : Int)], []⟩ (.cons rfl (.cons rfl (.cons rfl (.cons rfl (.cons rfl .nil))))) rfl rfl ?_
 refine jc (op_not lb (.tmp rfl) rfl) ?_
 refine jc (op_assign lb (.tmp rfl)) ?_
 refine JL.nil ?_
 refine JQ.then ?_
 refine JC.condT (.tmp rfl) rfl ?_
 refine JC.seq ?_
 refine JC.region ?_
 refine jc (op_loadA (j := 2) lb tA36 (.tmp rfl) rfl (Comp.self (rP (rI .i64) (rP (rI .i64) (rP (rW (HDR none 0 0 0)) r0))) ((0 : Int), ((0 : Int), ((), ())))) rfl) ?_
 refine jc (op_storeA (j := 2) tA36 (.tmp rfl) (.tmp rfl) rfl (UpdR.self (by rfl)) rfl) ?_
 refine jc (op_storeS (j := 3) tS26 (.tmp rfl) .cI rfl rfl (UpdR.self (by rfl)) rfl) ?_
 refine JL.nil ?_
 refine JQ.then ?_
 refine JC.ret ?_
 refine JQ.outRB ?_
 refine JQ.outR ?_
 refine JQ.scR ?_
 refine JQ.pre (Imp.var (j := 2) (q := r_api_Flight) (y := (api_Flight.mk (0 : Int) (0 : Int) ([] : (List UInt8)))) rfl (Wk.st (Wk.pair Wk.refl (Wk.pair Wk.refl (Wk.pair Wk.nil Wk.refl))))) ?_
 exact JQ.done (js := [0]) (ss := [.val (A r_api_Flight (api_Flight.mk (0 : Int) (0 : Int) ([] : (List UInt8)))), .val (S (rI .i64) (1 : Int))]) () (.inl rfl) (.nil rfl) rfl (.cons (.cellA (j := 2) tA36 rfl rfl) (.cons (.cellS (j := 3) tS26 rfl rfl rfl) .nil)) rfl rfl rfl

theorem sim_net_Net_Take'4 (k : Nat) (place_1 : Int) (ends_2 : Int) (lost_3 : Int) (gb_4 : Nat) (r : Unit) (hm : net_Net_Take'4 k place_1 ends_2 lost_3 = some r) : Sim Try.prog 15 [PTR gb_4 0, S (rI .i64) place_1] [cvar gb_4 (rP (rW (MPV none)) (rP (rI .i64) (rP (rI .i64) r0))) ((), (ends_2, (lost_3, ())))] (γ := Unit) (fun q => [cvar gb_4 (rP (rW (MPV none)) (rP (rI .i64) (rP (rI .i64) r0))) ((), (ends_2, (lost_3, ())))]) (fun q => .tup [.val (A r_api_Flight (api_Flight.mk (0 : Int) (0 : Int) ([] : (List UInt8)))), .val (S (rI .i64) (1 : Int))]) := by
 unfold net_Net_Take'4 at hm
 refine Sim.of Try.func15 rfl rfl (Nat.le_of_ble_eq_true rfl) (fun e0 w0 => ?_)
 refine JC.at ⟨[(0, ov (PTR gb_4 0)), (1, ov (S (rI .i64) place_1))], [cvar gb_4 (rP (rW (MPV none)) (rP (rI .i64) (rP (rI .i64) r0))) ((), (ends_2, (lost_3, ())))], []⟩ ?_
 refine JC.seq ?_
 refine JC.region ?_
 refine jx (op_boxW lb (.tmp rfl)) (fun q => ?_)
 obtain ⟨gb_5, hqq⟩ : ∃ z, z = q := ⟨_, rfl⟩
 subst hqq
 refine jx (op_boxS lb (.tmp rfl)) (fun q => ?_)
 obtain ⟨gb_6, hqq⟩ : ∃ z, z = q := ⟨_, rfl⟩
 subst hqq
 refine jx (op_alloc lb tZ36 zr36) (fun q => ?_)
 obtain ⟨gb_7, hqq⟩ : ∃ z, z = q := ⟨_, rfl⟩
 subst hqq
 refine jc (op_assign lb .cI) ?_
 refine JL.nil ?_
 refine JQ.then ?_
 refine JC.seq ?_
 refine JC.region ?_
 refine jc (op_loadW (j := 1) lb tS25 (.tmp rfl) rfl (Comp.self (rW (PTR gb_4 0)) ())) ?_
 refine jc (op_loadS (j := 2) lb tS3 (.tmp rfl) rfl (Comp.self (rI .i64) place_1) rfl rfl) ?_
 refine JL.sub ⟨[(2, ov (PTR gb_5 0)), (3, ov (PTR gb_6 0)), (4, ov (PTR gb_7 0)), (13, ov (PTR gb_4 0)), (14, ov (S (rI .i64) place_1))], [cvar gb_4 (rP (rW (MPV none)) (rP (rI .i64) (rP (rI .i64) r0))) ((), (ends_2, (lost_3, ()))), cvar gb_5 (rW (PTR gb_4 0)) (), cvar gb_6 (rI .i64) place_1, cvar gb_7 (rP (rI .i64) (rP (rI .i64) (rP (rW (HDR none 0 0 0)) r0))) ((0 : Int), ((0 : Int), ((), ())))], []⟩ (.cons rfl (.cons rfl (.cons rfl (.cons rfl (.cons rfl .nil))))) rfl rfl ?_
 replace hm := bnd_inv hm
 obtain ⟨_, hv_u_8, hm⟩ := hm
 refine jx (op_call (js := [0]) ld cl14 (sim_net_Net_At'3 k place_1 ends_2 lost_3 gb_4 () hv_u_8) .func (.cons (.tmp rfl) (.cons (.tmp rfl) .nil)) rfl) (fun _ => ?_)
 refine jc (op_move lb (.tmp rfl)) ?_
 refine jc (op_extract (i := 0) lb (.tmp rfl) rfl) ?_
 refine jc (op_extract (i := 1) lb (.tmp rfl) rfl) ?_
 refine jx (op_alloc lb tZ36 zr36) (fun q => ?_)
 obtain ⟨gb_9, hqq⟩ : ∃ z, z = q := ⟨_, rfl⟩
 subst hqq
 refine jc (op_storeA (j := 4) tA36 (.tmp rfl) (.tmp rfl) rfl (UpdR.self (by rfl)) rfl) ?_
 refine JL.sub ⟨[(2, ov (PTR gb_5 0)), (3, ov (PTR gb_6 0)), (4, ov (PTR gb_7 0)), (6, ov (PTR gb_9 0)), (17, ov (S (rI .i64) (1 : Int)))], [cvar gb_4 (rP (rW (MPV none)) (rP (rI .i64) (rP (rI .i64) r0))) ((), (ends_2, (lost_3, ()))), cvar gb_5 (rW (PTR gb_4 0)) (), cvar gb_6 (rI .i64) place_1, cvar gb_7 (rP (rI .i64) (rP (rI .i64) (rP (rW (HDR none 0 0 0)) r0))) ((0 : Int), ((0 : Int), ((), ()))), cvar gb_9 r_api_Flight (api_Flight.mk (0 : Int) (0 : Int) ([] : (List UInt8)))], []⟩ (.cons rfl (.cons rfl (.cons rfl (.cons rfl (.cons rfl .nil))))) rfl rfl ?_
 refine jc (op_assign lb (.tmp rfl)) ?_
 refine JL.nil ?_
 refine JQ.then ?_
 refine JC.seq ?_
 refine JC.seq ?_
 refine JC.region ?_
 refine jc (op_move lb (.tmp rfl)) ?_
 refine jc (op_cmpI lb (.tmp rfl) .cI (congrArg some (by decide : ((1 : Int) != (0 : Int)) = true))) ?_
 refine JL.nil ?_
 refine JQ.then ?_
 refine JC.condT (.tmp rfl) rfl ?_
 refine JC.seq ?_
 refine JC.region ?_
 refine jc (op_loadA (j := 4) lb tA36 (.tmp rfl) rfl (Comp.self r_api_Flight (api_Flight.mk (0 : Int) (0 : Int) ([] : (List UInt8)))) rfl) ?_
 refine jc (op_move lb (.tmp rfl)) ?_
 refine jc (op_storeA (j := 3) tA36 (.tmp rfl) (.tmp rfl) rfl (UpdR.self (by rfl)) rfl) ?_
 refine jc (op_assign lb (.tmp rfl)) ?_
 refine JL.nil ?_
 refine JQ.then ?_
 refine JC.ret ?_
 refine JQ.outR ?_
 exact JQ.done (js := [0]) (ss := [.val (A r_api_Flight (api_Flight.mk (0 : Int) (0 : Int) ([] : (List UInt8)))), .val (S (rI .i64) (1 : Int))]) () (.inl rfl) (.nil rfl) rfl (.cons (.cellA (j := 3) tA36 rfl rfl) (.cons (.tmp rfl) .nil)) rfl rfl rfl

theorem sim_net_Net_Send'4 (k : Nat) (a_1 : Int) (a_2 : Int) (a_3 : (List UInt8)) (ends_4 : Int) (lost_5 : Int) (gb_6 : Nat) (r : Unit) (hm : net_Net_Send'4 k a_1 a_2 a_3 ends_4 lost_5 = some r) : Sim Try.prog 13 [PTR gb_6 0, S (rI .i64) a_1, S (rI .i64) a_2, S (rL (rU UInt8)) a_3] [cvar gb_6 (rP (rW (MPV none)) (rP (rI .i64) (rP (rI .i64) r0))) ((), (ends_4, (lost_5, ())))] (γ := Unit) (fun q => [cvar gb_6 (rP (rW (MPV none)) (rP (rI .i64) (rP (rI .i64) r0))) ((), (ends_4, (lost_5, ())))]) (fun q => .one (.val (S (rI .i64) (1 : Int)))) := by
 unfold net_Net_Send'4 at hm
 refine Sim.of Try.func13 rfl rfl (Nat.le_of_ble_eq_true rfl) (fun e0 w0 => ?_)
 refine JC.at ⟨[(0, ov (PTR gb_6 0)), (1, ov (S (rI .i64) a_1)), (2, ov (S (rI .i64) a_2)), (3, ov (S (rL (rU UInt8)) a_3))], [cvar gb_6 (rP (rW (MPV none)) (rP (rI .i64) (rP (rI .i64) r0))) ((), (ends_4, (lost_5, ())))], []⟩ ?_
 refine JC.seq ?_
 refine JC.region ?_
 refine jc (op_assign lb .cI) ?_
 refine JL.nil ?_
 refine JQ.then ?_
 refine JC.seq ?_
 refine JC.block ?_
 refine JC.seq ?_
 refine JC.region ?_
 refine jc (op_move lb (.tmp rfl)) ?_
 replace hm := bnd_inv hm
 obtain ⟨_, hv_u_7, hm⟩ := hm
 refine jx (op_call (js := [0]) ld cl29 (sim_net_Net_there'3 k ends_4 lost_5 gb_6 () hv_u_7) .func (.cons (.tmp rfl) .nil) rfl) (fun _ => ?_)
 refine jc (op_not lb (.tmp rfl) rfl) ?_
 refine jc (op_assign lb (.tmp rfl)) ?_
 refine JL.nil ?_
 refine JQ.then ?_
 refine JC.condT (.tmp rfl) rfl ?_
 refine JC.seq ?_
 refine JC.region ?_
 refine jc (op_assign lb .cI) ?_
 refine JL.nil ?_
 refine JQ.then ?_
 refine JC.ret ?_
 refine JQ.outRB ?_
 refine JQ.outR ?_
 exact JQ.done (js := [0]) (ss := [.val (S (rI .i64) (1 : Int))]) () (.inl rfl) (.nil rfl) rfl (.cons (.tmp rfl) .nil) rfl rfl rfl

theorem sim_net_Net_Drop'3 (k : Nat) (place_1 : Int) (ends_2 : Int) (lost_3 : Int) (gb_4 : Nat) (r : Unit) (hm : net_Net_Drop'3 k place_1 ends_2 lost_3 = some r) : Sim Try.prog 28 [PTR gb_4 0, S (rI .i64) place_1] [cvar gb_4 (rP (rW (MPV none)) (rP (rI .i64) (rP (rI .i64) r0))) ((), (ends_2, (lost_3, ())))] (γ := Unit) (fun q => [cvar gb_4 (rP (rW (MPV none)) (rP (rI .i64) (rP (rI .i64) r0))) ((), (ends_2, (lost_3, ())))]) (fun q => .one (.val (S (rI .i64) (1 : Int)))) := by
 unfold net_Net_Drop'3 at hm
 refine Sim.of Try.func28 rfl rfl (Nat.le_of_ble_eq_true rfl) (fun e0 w0 => ?_)
 refine JC.at ⟨[(0, ov (PTR gb_4 0)), (1, ov (S (rI .i64) place_1))], [cvar gb_4 (rP (rW (MPV none)) (rP (rI .i64) (rP (rI .i64) r0))) ((), (ends_2, (lost_3, ())))], []⟩ ?_
 refine JC.seq ?_
 refine JC.region ?_
 refine jc (op_assign lb .cI) ?_
 refine JL.nil ?_
 refine JQ.then ?_
 refine JC.seq ?_
 refine JC.region ?_
 refine jc (op_move lb (.tmp rfl)) ?_
 refine jc (op_move lb (.tmp rfl)) ?_
 replace hm := bnd_inv hm
 obtain ⟨_, hv_u_5, hm⟩ := hm
 refine jx (op_call (js := [0]) ld cl15 (sim_net_Net_Take'4 k place_1 ends_2 lost_3 gb_4 () hv_u_5) .func (.cons (.tmp rfl) (.cons (.tmp rfl) .nil)) rfl) (fun _ => ?_)
 refine jc (op_move lb (.tmp rfl)) ?_
 refine jc (op_extract (i := 0) lb (.tmp rfl) rfl) ?_
 refine jc (op_extract (i := 1) lb (.tmp rfl) rfl) ?_
 refine jx (op_alloc lb tZ36 zr36) (fun q => ?_)
 obtain ⟨gb_6, hqq⟩ : ∃ z, z = q := ⟨_, rfl⟩
 subst hqq
 refine JL.sub ⟨[(5, ov (PTR gb_6 0)), (11, ov (A r_api_Flight (api_Flight.mk (0 : Int) (0 : Int) ([] : (List UInt8))))), (12, ov (S (rI .i64) (1 : Int)))], [cvar gb_4 (rP (rW (MPV none)) (rP (rI .i64) (rP (rI .i64) r0))) ((), (ends_2, (lost_3, ()))), cvar gb_6 (rP (rI .i64) (rP (rI .i64) (rP (rW (HDR none 0 0 0)) r0))) ((0 : Int), ((0 : Int), ((), ())))], []⟩ (.cons rfl (.cons rfl (.cons rfl .nil))) rfl rfl ?_
 refine jc (op_storeA (j := 1) tA36 (.tmp rfl) (.tmp rfl) rfl (UpdR.self (by rfl)) rfl) ?_
 refine jc (op_assign lb (.tmp rfl)) ?_
 refine JL.nil ?_
 refine JQ.then ?_
 refine JC.seq ?_
 refine JC.region ?_
 refine jc (op_move lb (.tmp rfl)) ?_
 refine jc (op_assign lb (.tmp rfl)) ?_
 refine JL.nil ?_
 refine JQ.then ?_
 refine JC.ret ?_
 exact JQ.done (js := [0]) (ss := [.val (S (rI .i64) (1 : Int))]) () (.inl rfl) (.nil rfl) rfl (.cons (.tmp rfl) .nil) rfl rfl rfl

theorem sim_net_Net_Double'3 (k : Nat) (place_1 : Int) (ends_2 : Int) (lost_3 : Int) (gb_4 : Nat) (r : Unit) (hm : net_Net_Double'3 k place_1 ends_2 lost_3 = some r) : Sim Try.prog 21 [PTR gb_4 0, S (rI .i64) place_1] [cvar gb_4 (rP (rW (MPV none)) (rP (rI .i64) (rP (rI .i64) r0))) ((), (ends_2, (lost_3, ())))] (γ := Unit) (fun q => [cvar gb_4 (rP (rW (MPV none)) (rP (rI .i64) (rP (rI .i64) r0))) ((), (ends_2, (lost_3, ())))]) (fun q => .one (.val (S (rI .i64) (1 : Int)))) := by
 unfold net_Net_Double'3 at hm
 refine Sim.of Try.func21 rfl rfl (Nat.le_of_ble_eq_true rfl) (fun e0 w0 => ?_)
 refine JC.at ⟨[(0, ov (PTR gb_4 0)), (1, ov (S (rI .i64) place_1))], [cvar gb_4 (rP (rW (MPV none)) (rP (rI .i64) (rP (rI .i64) r0))) ((), (ends_2, (lost_3, ())))], []⟩ ?_
 refine JC.seq ?_
 refine JC.region ?_
 refine jc (op_assign lb .cI) ?_
 refine JL.nil ?_
 refine JQ.then ?_
 refine JC.seq ?_
 refine JC.region ?_
 refine jc (op_move lb (.tmp rfl)) ?_
 refine jc (op_move lb (.tmp rfl)) ?_
 replace hm := bnd_inv hm
 obtain ⟨_, hv_u_5, hm⟩ := hm
 refine jx (op_call (js := [0]) ld cl14 (sim_net_Net_At'3 k place_1 ends_2 lost_3 gb_4 () hv_u_5) .func (.cons (.tmp rfl) (.cons (.tmp rfl) .nil)) rfl) (fun _ => ?_)
 refine jc (op_move lb (.tmp rfl)) ?_
 refine jc (op_extract (i := 0) lb (.tmp rfl) rfl) ?_
 refine jc (op_extract (i := 1) lb (.tmp rfl) rfl) ?_
 refine jx (op_alloc lb tZ36 zr36) (fun q => ?_)
 obtain ⟨gb_6, hqq⟩ : ∃ z, z = q := ⟨_, rfl⟩
 subst hqq
 refine JL.sub ⟨[(0, ov (PTR gb_4 0)), (5, ov (PTR gb_6 0)), (11, ov (A r_api_Flight (api_Flight.mk (0 : Int) (0 : Int) ([] : (List UInt8))))), (12, ov (S (rI .i64) (1 : Int)))], [cvar gb_4 (rP (rW (MPV none)) (rP (rI .i64) (rP (rI .i64) r0))) ((), (ends_2, (lost_3, ()))), cvar gb_6 (rP (rI .i64) (rP (rI .i64) (rP (rW (HDR none 0 0 0)) r0))) ((0 : Int), ((0 : Int), ((), ())))], []⟩ (.cons rfl (.cons rfl (.cons rfl (.cons rfl .nil)))) rfl rfl ?_
 refine jc (op_storeA (j := 1) tA36 (.tmp rfl) (.tmp rfl) rfl (UpdR.self (by rfl)) rfl) ?_
 refine jc (op_assign lb (.tmp rfl)) ?_
 refine JL.nil ?_
 refine JQ.then ?_
 refine JC.seq ?_
 refine JC.block ?_
 refine JC.seq ?_
 refine JC.region ?_
 refine jc (op_move lb (.tmp rfl)) ?_
 refine jc (op_cmpI lb (.tmp rfl) .cI (congrArg some (by decide : ((1 : Int) != (0 : Int)) = true))) ?_
 refine jc (op_assign lb (.tmp rfl)) ?_
 refine JL.nil ?_
 refine JQ.then ?_
 refine JC.condT (.tmp rfl) rfl ?_
 refine JC.seq ?_
 refine JC.region ?_
 refine jc (op_move lb (.tmp rfl)) ?_
 refine jc (op_assign lb (.tmp rfl)) ?_
 refine JL.nil ?_
 refine JQ.then ?_
 refine JC.ret ?_
 refine JQ.outRB ?_
 refine JQ.outR ?_
 exact JQ.done (js := [0]) (ss := [.val (S (rI .i64) (1 : Int))]) () (.inl rfl) (.nil rfl) rfl (.cons (.tmp rfl) .nil) rfl rfl rfl

theorem sim_net_Net_All'3 (k : Nat) (ends_1 : Int) (lost_2 : Int) (gb_3 : Nat) (r : Unit) (hm : net_Net_All'3 k ends_1 lost_2 = some r) : Sim Try.prog 31 [PTR gb_3 0] [cvar gb_3 (rP (rW (MPV none)) (rP (rI .i64) (rP (rI .i64) r0))) ((), (ends_1, (lost_2, ())))] (γ := Nat) (fun q => [cvar q (rW (HDR none 0 0 0)) (), cvar gb_3 (rP (rW (MPV none)) (rP (rI .i64) (rP (rI .i64) r0))) ((), (ends_1, (lost_2, ())))]) (fun q => .one (.val (CLO 41 [PTR q 0]))) := by
 unfold net_Net_All'3 at hm
 refine Sim.of Try.func31 rfl rfl (Nat.le_of_ble_eq_true rfl) (fun e0 w0 => ?_)
 refine JC.at ⟨[(0, ov (PTR gb_3 0))], [cvar gb_3 (rP (rW (MPV none)) (rP (rI .i64) (rP (rI .i64) r0))) ((), (ends_1, (lost_2, ())))], []⟩ ?_
 refine JC.seq ?_
 refine JC.region ?_
 refine jc (op_assign lb (HasO.const (p := NILF) fun _ => rfl)) ?_
 refine JL.nil ?_
 refine JQ.then ?_
 refine JC.seq ?_
 refine JC.region ?_
 refine jx (op_alloc lb tZ30 zr30) (fun q => ?_)
 obtain ⟨gb_4, hqq⟩ : ∃ z, z = q := ⟨_, rfl⟩
 subst hqq
 refine JL.nil ?_
 refine JQ.then ?_
 replace hm := bnd_inv hm
 obtain ⟨_, hx1, hq1⟩ := hm
 refine JC.seqJ (γ := Unit) (stj := fun q => ⟨[(3, ov (PTR gb_4 0))], [cvar gb_4 (rW (HDR none 0 0 0)) (), cvar gb_3 (rP (rW (MPV none)) (rP (rI .i64) (rP (rI .i64) r0))) ((), (ends_1, (lost_2, ())))], []⟩) (fun q => ?_) ?_
 · obtain _ := q
   refine JC.at ⟨[(3, ov (PTR gb_4 0))], [cvar gb_4 (rW (HDR none 0 0 0)) (), cvar gb_3 (rP (rW (MPV none)) (rP (rI .i64) (rP (rI .i64) r0))) ((), (ends_1, (lost_2, ())))], []⟩ ?_
   refine JC.seq ?_
   refine JC.region ?_
   refine jc (op_makeFunc lb (.cons (.tmp rfl) .nil)) ?_
   refine jc (op_assign lb (.tmp rfl)) ?_
   refine JL.nil ?_
   refine JQ.then ?_
   refine JC.ret ?_
   exact JQ.done (js := [0, 0]) (ss := [.val (CLO 41 [PTR gb_4 0])]) gb_4 (.inl rfl) (.nil rfl) rfl (.cons (.tmp rfl) .nil) rfl rfl rfl
 · refine JC.seq ?_
   refine JC.region ?_
   refine jc (op_move lb (.tmp rfl)) ?_
   replace hx1 := bnd_inv hx1
   obtain ⟨_, hv_u_5, hx1⟩ := hx1
   refine jx (op_call (js := [0]) ld cl29 (sim_net_Net_there'3 k ends_1 lost_2 gb_3 () hv_u_5) .func (.cons (.tmp rfl) .nil) rfl) (fun _ => ?_)
   refine JL.nil ?_
   refine JQ.then ?_
   refine JC.condF (.tmp rfl) rfl ?_
   refine JC.skip ?_
   exact JQ.join () (Imp.norm (js := [1, 0]) rfl (.cons rfl .nil))

end Go.Proofs.Ytnadeehdnmgebaa
