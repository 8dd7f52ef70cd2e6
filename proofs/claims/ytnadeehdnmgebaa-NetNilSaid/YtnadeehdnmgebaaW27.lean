/- Walks. -/
import Derived.Test.YtnadeehdnmgebaaT
import Derived.Test.YtnadeehdnmgebaaW0
import Derived.Test.YtnadeehdnmgebaaW25
import Derived.Test.YtnadeehdnmgebaaW26
namespace Go.Proofs.Ytnadeehdnmgebaa
open Go Fw
set_option linter.unusedVariables false
set_option maxRecDepth 100000
set_option maxHeartbeats 4000000

theorem sim_net_Net_Copy'3 (k : Nat) (ends_1 : Int) (lost_2 : Int) (gb_3 : Nat) (r : Unit) (hm : net_Net_Copy'3 k ends_1 lost_2 = some r) : Sim Try.prog 23 [PTR gb_3 0] [cvar gb_3 (rP (rW (MPV none)) (rP (rI .i64) (rP (rI .i64) r0))) ((), (ends_1, (lost_2, ())))] (γ := Unit) (fun q => [cvar gb_3 (rP (rW (MPV none)) (rP (rI .i64) (rP (rI .i64) r0))) ((), (ends_1, (lost_2, ())))]) (fun q => .one (.val (PTO none))) := by
 unfold net_Net_Copy'3 at hm
 refine Sim.of Try.func23 rfl rfl (Nat.le_of_ble_eq_true rfl) (fun e0 w0 => ?_)
 refine JC.at ⟨[(0, ov (PTR gb_3 0))], [cvar gb_3 (rP (rW (MPV none)) (rP (rI .i64) (rP (rI .i64) r0))) ((), (ends_1, (lost_2, ())))], []⟩ ?_
 refine JC.seq ?_
 refine JC.region ?_
 refine jc (op_assign lb (HasO.const (p := PTO none) fun _ => rfl)) ?_
 refine JL.nil ?_
 refine JQ.then ?_
 refine JC.seq ?_
 refine JC.seq ?_
 refine JC.region ?_
 refine jc (op_move lb (.tmp rfl)) ?_
 replace hm := bnd_inv hm
 obtain ⟨_, hv_u_4, hm⟩ := hm
 refine jx (op_call (js := [0]) ld cl29 (sim_net_Net_there'3 k ends_1 lost_2 gb_3 () hv_u_4) .func (.cons (.tmp rfl) .nil) rfl) (fun _ => ?_)
 refine jc (op_not lb (.tmp rfl) rfl) ?_
 refine JL.nil ?_
 refine JQ.then ?_
 refine JC.condT (.tmp rfl) rfl ?_
 refine JC.seq ?_
 refine JC.region ?_
 refine jc (op_assign lb (HasO.const (p := PTO none) fun _ => rfl)) ?_
 refine JL.nil ?_
 refine JQ.then ?_
 refine JC.ret ?_
 refine JQ.outR ?_
 exact JQ.done (js := [0]) (ss := [.val (PTO none)]) () (.inl rfl) (.nil rfl) rfl (.cons (.tmp rfl) .nil) rfl rfl rfl

theorem sim_law12_nothing'2 (k : Nat) (ends_1 : Int) (lost_2 : Int) (gb_3 : Nat) (r : Bool) (hm : law12_nothing'2 k ends_1 lost_2 = some r) : Sim Try.prog 27 [PTR gb_3 0] [cvar gb_3 (rP (rW (MPV none)) (rP (rI .i64) (rP (rI .i64) r0))) ((), (ends_1, (lost_2, ())))] (γ := Unit) (fun q => [cvar gb_3 (rP (rW (MPV none)) (rP (rI .i64) (rP (rI .i64) r0))) ((), (ends_1, (lost_2, ())))]) (fun q => .one (.val (S rB r))) := by
 unfold law12_nothing'2 at hm
 refine Sim.of Try.func27 rfl rfl (Nat.le_of_ble_eq_true rfl) (fun e0 w0 => ?_)
 refine JC.at ⟨[(0, ov (PTR gb_3 0))], [cvar gb_3 (rP (rW (MPV none)) (rP (rI .i64) (rP (rI .i64) r0))) ((), (ends_1, (lost_2, ())))], []⟩ ?_
 refine JC.seq ?_
 refine JC.region ?_
 refine jc (op_assign lb .cB) ?_
 refine JL.nil ?_
 refine JQ.then ?_
 refine JC.seq ?_
 refine JC.region ?_
 refine jc (op_move lb (.tmp rfl)) ?_
 replace hm := bnd_inv hm
 obtain ⟨_, hv_u_4, hm⟩ := hm
 refine jx (op_call (js := [0]) ld cl15 (sim_net_Net_Take'4 k (0 : Int) ends_1 lost_2 gb_3 () hv_u_4) .func (.cons (.tmp rfl) (.cons .cI .nil)) rfl) (fun _ => ?_)
 refine jc (op_move lb (.tmp rfl)) ?_
 refine jc (op_extract (i := 0) lb (.tmp rfl) rfl) ?_
 refine jc (op_extract (i := 1) lb (.tmp rfl) rfl) ?_
 refine jx (op_alloc lb tZ36 zr36) (fun q => ?_)
 obtain ⟨gb_5, hqq⟩ : ∃ z, z = q := ⟨_, rfl⟩
 subst hqq
 refine jc (op_storeA (j := 1) tA36 (.tmp rfl) (.tmp rfl) rfl (UpdR.self (by rfl)) rfl) ?_
 refine JL.nrm ⟨[(0, ov (PTR gb_3 0)), (11, ov (S (rI .i64) (1 : Int)))], [cvar gb_3 (rP (rW (MPV none)) (rP (rI .i64) (rP (rI .i64) r0))) ((), (ends_1, (lost_2, ())))], []⟩ [0] rfl (.cons rfl (.cons rfl .nil)) rfl ?_
 refine jc (op_assign lb (.tmp rfl)) ?_
 refine JL.nil ?_
 refine JQ.then ?_
 refine JC.seq ?_
 refine JC.region ?_
 refine jc (op_move lb (.tmp rfl)) ?_
 replace hm := bnd_inv hm
 obtain ⟨_, hv_u_6, hm⟩ := hm
 refine jx (op_call (js := [0]) ld cl14 (sim_net_Net_At'3 k (-1 : Int) ends_1 lost_2 gb_3 () hv_u_6) .func (.cons (.tmp rfl) (.cons .cI .nil)) rfl) (fun _ => ?_)
 refine jc (op_move lb (.tmp rfl)) ?_
 refine jc (op_extract (i := 0) lb (.tmp rfl) rfl) ?_
 refine jc (op_extract (i := 1) lb (.tmp rfl) rfl) ?_
 refine jx (op_alloc lb tZ36 zr36) (fun q => ?_)
 obtain ⟨gb_7, hqq⟩ : ∃ z, z = q := ⟨_, rfl⟩
 subst hqq
 refine jc (op_storeA (j := 1) tA36 (.tmp rfl) (.tmp rfl) rfl (UpdR.self (by rfl)) rfl) ?_
 refine JL.nrm ⟨[(0, ov (PTR gb_3 0)), (4, ov (S (rI .i64) (1 : Int))), (16, ov (S (rI .i64) (1 : Int)))], [cvar gb_3 (rP (rW (MPV none)) (rP (rI .i64) (rP (rI .i64) r0))) ((), (ends_1, (lost_2, ())))], []⟩ [0] rfl (.cons rfl (.cons rfl (.cons rfl .nil))) rfl ?_
 refine jc (op_assign lb (.tmp rfl)) ?_
 refine JL.nil ?_
 refine JQ.then ?_
 replace hm := bnd_inv hm
 obtain ⟨x_23, hx1, hq1⟩ := hm
 refine JC.seqJ (γ := Unit) (stj := fun q => ⟨[(2, ov (S rB x_23))], [cvar gb_3 (rP (rW (MPV none)) (rP (rI .i64) (rP (rI .i64) r0))) ((), (ends_1, (lost_2, ())))], []⟩) (fun q => ?_) ?_
 · obtain _ := q
   refine JC.at ⟨[(2, ov (S rB x_23))], [cvar gb_3 (rP (rW (MPV none)) (rP (rI .i64) (rP (rI .i64) r0))) ((), (ends_1, (lost_2, ())))], []⟩ ?_
   refine JC.ret ?_
   replace hq1 := Option.some.inj hq1
   subst hq1
   exact JQ.done (js := [0]) (ss := [.val (S rB x_23)]) () (.inl rfl) (.nil rfl) rfl (.cons (.tmp rfl) .nil) rfl rfl rfl
 · refine JC.region ?_
   refine jc (op_move lb (.tmp rfl)) ?_
   replace hx1 := bnd_inv hx1
   obtain ⟨_, hv_u_8, hx1⟩ := hx1
   refine jx (op_call (js := [0]) ld cl13 (sim_net_Net_Send'4 k (1 : Int) (2 : Int) ([] : (List UInt8)) ends_1 lost_2 gb_3 () hv_u_8) .func (.cons (.tmp rfl) (.cons .cI (.cons .cI (.cons (HasO.wk (q := S (rL (rU UInt8)) []) HasO.nilH wkNil) .nil)))) rfl) (fun _ => ?_)
   replace hx1 := bnd_inv hx1
   obtain ⟨_, hv_u_9, hx1⟩ := hx1
   refine jx (op_call (js := []) ld cl12 (sim_law12_num k (1 : Int) () hv_u_9) .func (.cons (.tmp rfl) .nil) rfl) (fun _ => ?_)
   refine jc (op_cmpI lb (.tmp rfl) .cI (congrArg some (by decide : ((1 : Int) == (1 : Int)) = true))) ?_
   refine jc (op_move lb (.tmp rfl)) ?_
   refine JL.run (.yes rfl (ltB rfl) rfl rfl) (op_move lb (.tmp rfl)) ?_
   replace hx1 := bnd_inv hx1
   obtain ⟨_, hv_u_10, hx1⟩ := hx1
   refine JL.runX (.yes rfl (ltB rfl) rfl rfl) (op_call (js := []) ld cl12 (sim_law12_num k (1 : Int) () hv_u_10) .func (.cons (.tmp rfl) .nil) rfl) (fun _ => ?_)
   refine JL.run (.yes rfl (ltB rfl) rfl rfl) (op_cmpI lb (.tmp rfl) .cI (congrArg some (by decide : ((1 : Int) == (1 : Int)) = true))) ?_
   refine jc (op_pickT lb (.tmp rfl) rfl (.tmp rfl)) ?_
   refine jc (op_move lb (.tmp rfl)) ?_
   refine JL.run (.yes rfl (ltB rfl) rfl rfl) (op_move lb (.tmp rfl)) ?_
   refine JL.sub ⟨[(0, ov (PTR gb_3 0)), (26, ov (S rB true)), (27, ov (S (rI .i64) (1 : Int)))], [cvar gb_3 (rP (rW (MPV none)) (rP (rI .i64) (rP (rI .i64) r0))) ((), (ends_1, (lost_2, ())))], []⟩ (.cons rfl (.cons rfl (.cons rfl .nil))) rfl rfl ?_
   replace hx1 := bnd_inv hx1
   obtain ⟨_, hv_u_11, hx1⟩ := hx1
   refine JL.runX (.yes rfl (ltB rfl) rfl rfl) (op_call (js := []) ld cl12 (sim_law12_num k (1 : Int) () hv_u_11) .func (.cons (.tmp rfl) .nil) rfl) (fun _ => ?_)
   refine JL.run (.yes rfl (ltB rfl) rfl rfl) (op_cmpI lb (.tmp rfl) .cI (congrArg some (by decide : ((1 : Int) == (1 : Int)) = true))) ?_
   refine jc (op_pickT lb (.tmp rfl) rfl (.tmp rfl)) ?_
   refine jc (op_move lb (.tmp rfl)) ?_
   refine JL.run (.yes rfl (ltB rfl) rfl rfl) (op_move lb (.tmp rfl)) ?_
   replace hx1 := bnd_inv hx1
   obtain ⟨_, hv_u_12, hx1⟩ := hx1
   refine JL.runX (.yes rfl (ltB rfl) rfl rfl) (op_call (js := [0]) ld cl28 (sim_net_Net_Drop'3 k (0 : Int) ends_1 lost_2 gb_3 () hv_u_12) .func (.cons (.tmp rfl) (.cons .cI .nil)) rfl) (fun _ => ?_)
   replace hx1 := bnd_inv hx1
   obtain ⟨_, hv_u_13, hx1⟩ := hx1
   refine JL.runX (.yes rfl (ltB rfl) rfl rfl) (op_call (js := []) ld cl12 (sim_law12_num k (1 : Int) () hv_u_13) .func (.cons (.tmp rfl) .nil) rfl) (fun _ => ?_)
   refine JL.run (.yes rfl (ltB rfl) rfl rfl) (op_cmpI lb (.tmp rfl) .cI (congrArg some (by decide : ((1 : Int) == (1 : Int)) = true))) ?_
   refine jc (op_pickT lb (.tmp rfl) rfl (.tmp rfl)) ?_
   refine jc (op_move lb (.tmp rfl)) ?_
   refine JL.run (.yes rfl (ltB rfl) rfl rfl) (op_move lb (.tmp rfl)) ?_
   replace hx1 := bnd_inv hx1
   obtain ⟨_, hv_u_14, hx1⟩ := hx1
   refine JL.runX (.yes rfl (ltB rfl) rfl rfl) (op_call (js := [0]) ld cl21 (sim_net_Net_Double'3 k (0 : Int) ends_1 lost_2 gb_3 () hv_u_14) .func (.cons (.tmp rfl) (.cons .cI .nil)) rfl) (fun _ => ?_)
   refine JL.sub ⟨[(0, ov (PTR gb_3 0)), (37, ov (S rB true)), (39, ov (S (rI .i64) (1 : Int)))], [cvar gb_3 (rP (rW (MPV none)) (rP (rI .i64) (rP (rI .i64) r0))) ((), (ends_1, (lost_2, ())))], []⟩ (.cons rfl (.cons rfl (.cons rfl .nil))) rfl rfl ?_
   replace hx1 := bnd_inv hx1
   obtain ⟨_, hv_u_15, hx1⟩ := hx1
   refine JL.runX (.yes rfl (ltB rfl) rfl rfl) (op_call (js := []) ld cl12 (sim_law12_num k (1 : Int) () hv_u_15) .func (.cons (.tmp rfl) .nil) rfl) (fun _ => ?_)
   refine JL.run (.yes rfl (ltB rfl) rfl rfl) (op_cmpI lb (.tmp rfl) .cI (congrArg some (by decide : ((1 : Int) == (1 : Int)) = true))) ?_
   refine jc (op_pickT lb (.tmp rfl) rfl (.tmp rfl)) ?_
   refine jc (op_move lb (.tmp rfl)) ?_
   refine JL.run (.yes rfl (ltB rfl) rfl rfl) (op_move lb (.tmp rfl)) ?_
   refine JL.run (.yes rfl (ltB rfl) rfl rfl) (op_build lb tZ43 zr43 tp43 .nil rfl) ?_
   refine JL.runX (.yes rfl (ltB rfl) rfl rfl) (op_boxA lb (.tmp rfl)) (fun q => ?_)
   obtain ⟨gb_16, hqq⟩ : ∃ z, z = q := ⟨_, rfl⟩
   subst hqq
   replace hx1 := bnd_inv hx1
   obtain ⟨v_17, hv_v_17, hx1⟩ := hx1
   refine JL.runX (.yes rfl (ltB rfl) rfl rfl) (op_call (js := [0, 0]) ld cl22 (sim_law12_once'3 k (0 : Int) ends_1 lost_2 (0 : Int) (0 : Int) gb_3 gb_16 v_17 hv_v_17) .func (.cons (.tmp rfl) (.cons (.tmp rfl) (.cons .cI .nil))) rfl) (fun _ => ?_)
   refine jc (op_pickT lb (.tmp rfl) rfl (.tmp rfl)) ?_
   refine jc (op_move lb (.tmp rfl)) ?_
   refine JL.nrm ⟨[(0, ov (PTR gb_3 0)), (49, ov (S rB v_17))], [cvar gb_3 (rP (rW (MPV none)) (rP (rI .i64) (rP (rI .i64) r0))) ((), (ends_1, (lost_2, ())))], []⟩ [0] rfl (.cons rfl (.cons rfl .nil)) rfl ?_
   replace hx1 := iteB_inv hx1
   rcases hx1 with ⟨hc3, hx1⟩ | ⟨hc3, hx1⟩
   · refine JL.run (.yes rfl (ltB rfl) rfl hc3) (op_move lb (.tmp rfl)) ?_
     replace hx1 := bnd_inv hx1
     obtain ⟨_, hv_u_18, hx1⟩ := hx1
     refine JL.runX (.yes rfl (ltB rfl) rfl hc3) (op_call (js := [0]) ld cl16 (sim_net_Net_Len'3 k ends_1 lost_2 gb_3 () hv_u_18) .func (.cons (.tmp rfl) .nil) rfl) (fun _ => ?_)
     refine JL.run (.yes rfl (ltB rfl) rfl hc3) (op_cmpI lb (.tmp rfl) .cI (congrArg some (by decide : ((0 : Int) == (0 : Int)) = true))) ?_
     refine jc (op_pickT lb (.tmp rfl) hc3 (.tmp rfl)) ?_
     refine jc (op_move lb (.tmp rfl)) ?_
     refine JL.run (.yes rfl (ltB rfl) rfl rfl) (op_move lb (.tmp rfl)) ?_
     replace hx1 := bnd_inv hx1
     obtain ⟨_, hv_u_19, hx1⟩ := hx1
     refine JL.runX (.yes rfl (ltB rfl) rfl rfl) (op_call (js := [0]) ld cl19 (sim_net_Net_Line'3 k (1 : Int) (2 : Int) ends_1 lost_2 gb_3 () hv_u_19) .func (.cons (.tmp rfl) (.cons .cI (.cons .cI .nil))) rfl) (fun _ => ?_)
     refine JL.run (.yes rfl (ltB rfl) rfl rfl) (op_cmpI lb (.tmp rfl) .cI (congrArg some (by decide : ((0 : Int) == (0 : Int)) = true))) ?_
     refine jc (op_pickT lb (.tmp rfl) rfl (.tmp rfl)) ?_
     refine jc (op_move lb (.tmp rfl)) ?_
     refine JL.run (.yes rfl (ltB rfl) rfl rfl) (op_move lb (.tmp rfl)) ?_
     replace hx1 := bnd_inv hx1
     obtain ⟨_, hv_u_20, hx1⟩ := hx1
     refine JL.runX (.yes rfl (ltB rfl) rfl rfl) (op_call (js := [0]) ld cl26 (sim_net_Net_Lost'3 k ends_1 lost_2 gb_3 () hv_u_20) .func (.cons (.tmp rfl) .nil) rfl) (fun _ => ?_)
     refine JL.sub ⟨[(0, ov (PTR gb_3 0)), (59, ov (S rB true)), (61, ov (S (rI .i64) (0 : Int)))], [cvar gb_3 (rP (rW (MPV none)) (rP (rI .i64) (rP (rI .i64) r0))) ((), (ends_1, (lost_2, ())))], []⟩ (.cons rfl (.cons rfl (.cons rfl .nil))) rfl rfl ?_
     refine JL.run (.yes rfl (ltB rfl) rfl rfl) (op_cmpI lb (.tmp rfl) .cI (congrArg some (by decide : ((0 : Int) == (0 : Int)) = true))) ?_
     refine jc (op_pickT lb (.tmp rfl) rfl (.tmp rfl)) ?_
     refine jc (op_move lb (.tmp rfl)) ?_
     refine JL.run (.yes rfl (ltB rfl) rfl rfl) (op_move lb (.tmp rfl)) ?_
     replace hx1 := bnd_inv hx1
     obtain ⟨_, hv_u_21, hx1⟩ := hx1
     refine JL.runX (.yes rfl (ltB rfl) rfl rfl) (op_call (js := [0]) ld cl20 (sim_net_Net_Clear'3 k (1 : Int) ends_1 lost_2 gb_3 () hv_u_21) .func (.cons (.tmp rfl) (.cons .cI .nil)) rfl) (fun _ => ?_)
     refine JL.run (.yes rfl (ltB rfl) rfl rfl) (op_cmpI lb (.tmp rfl) .cI (congrArg some (by decide : ((0 : Int) == (0 : Int)) = true))) ?_
     refine jc (op_pickT lb (.tmp rfl) rfl (.tmp rfl)) ?_
     refine jc (op_move lb (.tmp rfl)) ?_
     refine JL.run (.yes rfl (ltB rfl) rfl rfl) (op_move lb (.tmp rfl)) ?_
     replace hx1 := bnd_inv hx1
     obtain ⟨_, hv_u_22, hx1⟩ := hx1
     refine JL.runX (.yes rfl (ltB rfl) rfl rfl) (op_call (js := [0]) ld cl23 (sim_net_Net_Copy'3 k ends_1 lost_2 gb_3 () hv_u_22) .func (.cons (.tmp rfl) .nil) rfl) (fun _ => ?_)
     refine JL.run (.yes rfl (ltB rfl) rfl rfl) (op_nilO (neg := false) (ob := none) lb tu25 (.tmp rfl) (HasO.const (p := PTO none) fun _ => rfl) rfl) ?_
     refine jc (op_pickT lb (.tmp rfl) rfl (.tmp rfl)) ?_
     refine JL.sub ⟨[(73, ov (S rB true))], [cvar gb_3 (rP (rW (MPV none)) (rP (rI .i64) (rP (rI .i64) r0))) ((), (ends_1, (lost_2, ())))], []⟩ (.cons rfl .nil) rfl rfl ?_
     refine jc (op_assign lb (.tmp rfl)) ?_
     refine JL.nil ?_
     replace hx1 := Option.some.inj hx1
     first | subst hx1 | clear hx1
     exact JQ.join () (Imp.norm (js := [0]) rfl (.cons rfl .nil))
   · refine JL.skip (.no rfl (ltB rfl) rfl hc3) (fun d h => by cases h; exact ltB rfl) ?_
     refine JL.skip (.no rfl (ltB rfl) rfl hc3) (fun d h => by cases h; exact ltB rfl) ?_
     refine JL.skip (.no rfl (ltB rfl) rfl hc3) (fun d h => by cases h; exact ltB rfl) ?_
     refine jc (op_pickF lb (.tmp rfl) hc3 .cB) ?_
     refine jc (op_move lb (.tmp rfl)) ?_
     refine JL.skip (.no rfl (ltB rfl) rfl rfl) (fun d h => by cases h; exact ltB rfl) ?_
     refine JL.skip (.no rfl (ltB rfl) rfl rfl) (fun d h => by cases h; exact ltB rfl) ?_
     refine JL.skip (.no rfl (ltB rfl) rfl rfl) (fun d h => by cases h; exact ltB rfl) ?_
     refine jc (op_pickF lb (.tmp rfl) rfl .cB) ?_
     refine jc (op_move lb (.tmp rfl)) ?_
     refine JL.skip (.no rfl (ltB rfl) rfl rfl) (fun d h => by cases h; exact ltB rfl) ?_
     refine JL.skip (.no rfl (ltB rfl) rfl rfl) (fun d h => by cases h; exact ltB rfl) ?_
     refine JL.skip (.no rfl (ltB rfl) rfl rfl) (fun d h => by cases h; exact ltB rfl) ?_
     refine jc (op_pickF lb (.tmp rfl) rfl .cB) ?_
     refine jc (op_move lb (.tmp rfl)) ?_
     refine JL.skip (.no rfl (ltB rfl) rfl rfl) (fun d h => by cases h; exact ltB rfl) ?_
     refine JL.skip (.no rfl (ltB rfl) rfl rfl) (fun d h => by cases h; exact ltB rfl) ?_
     refine JL.skip (.no rfl (ltB rfl) rfl rfl) (fun d h => by cases h; exact ltB rfl) ?_
     refine jc (op_pickF lb (.tmp rfl) rfl .cB) ?_
     refine jc (op_move lb (.tmp rfl)) ?_
     refine JL.skip (.no rfl (ltB rfl) rfl rfl) (fun d h => by cases h; exact ltB rfl) ?_
     refine JL.skip (.no rfl (ltB rfl) rfl rfl) (fun d h => by cases h; exact ltB rfl) ?_
     refine JL.skip (.no rfl (ltB rfl) rfl rfl) (fun d h => by cases h; exact ltB rfl) ?_
     refine jc (op_pickF lb (.tmp rfl) rfl .cB) ?_
     refine jc (op_assign lb (.tmp rfl)) ?_
     refine JL.nil ?_
     replace hx1 := Option.some.inj hx1
     first | subst hx1 | clear hx1
     exact JQ.join () (Imp.norm (js := [0]) rfl (.cons rfl .nil))

end Go.Proofs.Ytnadeehdnmgebaa
