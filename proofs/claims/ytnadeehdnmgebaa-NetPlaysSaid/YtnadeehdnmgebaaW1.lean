/- Walks. -/
import Derived.Test.YtnadeehdnmgebaaT
import Derived.Test.YtnadeehdnmgebaaW0
namespace Go.Proofs.Ytnadeehdnmgebaa
open Go Fw
set_option linter.unusedVariables false
set_option maxRecDepth 100000
set_option maxHeartbeats 4000000

theorem sim_net_Net_Send (k : Nat) (a_1 : Int) (a_2 : Int) (a_3 : (List UInt8)) (ends_4 : Int) (lost_5 : Int) (x_7 : (List (net_pair × (List (List UInt8))))) (gb_6 : Nat) (go_8 : Option Nat) (r : Int × (List (net_pair × (List (List UInt8)))) × Int) (hm : net_Net_Send k a_1 a_2 a_3 ends_4 lost_5 x_7 = some r) : Sim Try.prog 13 [PTR gb_6 0, S (rI .i64) a_1, S (rI .i64) a_2, S (rL (rU UInt8)) a_3] [cvar gb_6 (rP (rW (MPV go_8)) (rP (rI .i64) (rP (rI .i64) r0))) ((), (ends_4, (lost_5, ()))), cmap go_8 (A r_net_pair) (S (rL (rL (rU UInt8)))) (some x_7)] (γ := Unit) (fun q => [cvar gb_6 (rP (rW (MPV go_8)) (rP (rI .i64) (rP (rI .i64) r0))) ((), (ends_4, (r.2.2, ()))), cmap go_8 (A r_net_pair) (S (rL (rL (rU UInt8)))) (some r.2.1)]) (fun q => .one (.val (S (rI .i64) r.1))) := by
 unfold net_Net_Send at hm
 refine Sim.of Try.func13 rfl rfl (Nat.le_of_ble_eq_true rfl) (fun e0 w0 => ?_)
 refine JC.at ⟨[(0, ov (PTR gb_6 0)), (1, ov (S (rI .i64) a_1)), (2, ov (S (rI .i64) a_2)), (3, ov (S (rL (rU UInt8)) a_3))], [cvar gb_6 (rP (rW (MPV go_8)) (rP (rI .i64) (rP (rI .i64) r0))) ((), (ends_4, (lost_5, ()))), cmap go_8 (A r_net_pair) (S (rL (rL (rU UInt8)))) (some x_7)], []⟩ ?_
 refine JC.seq ?_
 refine JC.region ?_
 refine jc (op_assign lb .cI) ?_
 refine JL.nil ?_
 refine JQ.then ?_
 refine JC.seq ?_
 refine JC.block ?_
 refine JC.seq ?_
 refine JC.region ?_
 refine jc (op_move lb (.tmp rfl)) ?_
 replace hm := bnd_inv hm
 obtain ⟨_, hv_u_9, hm⟩ := hm
 refine jx (op_call (js := [0, 0]) ld cl29 (sim_net_Net_there k ends_4 lost_5 x_7 gb_6 go_8 () hv_u_9) .func (.cons (.tmp rfl) .nil) rfl) (fun _ => ?_)
 refine jc (op_not lb (.tmp rfl) rfl) ?_
 refine jc (op_assign lb (.tmp rfl)) ?_
 refine JL.nil ?_
 refine JQ.then ?_
 refine JC.condF (.tmp rfl) rfl ?_
 replace hm := bnd_inv hm
 obtain ⟨x_19, hx1, hq1⟩ := hm
 refine JC.seqJ (γ := Unit) (stj := fun q => ⟨[(0, ov (PTR gb_6 0)), (1, ov (S (rI .i64) a_1)), (2, ov (S (rI .i64) a_2)), (3, ov (S (rL (rU UInt8)) a_3)), (13, ov (S rB x_19))], [cvar gb_6 (rP (rW (MPV go_8)) (rP (rI .i64) (rP (rI .i64) r0))) ((), (ends_4, (lost_5, ()))), cmap go_8 (A r_net_pair) (S (rL (rL (rU UInt8)))) (some x_7)], []⟩) (fun q => ?_) ?_
 · obtain _ := q
   refine JC.at ⟨[(0, ov (PTR gb_6 0)), (1, ov (S (rI .i64) a_1)), (2, ov (S (rI .i64) a_2)), (3, ov (S (rL (rU UInt8)) a_3)), (13, ov (S rB x_19))], [cvar gb_6 (rP (rW (MPV go_8)) (rP (rI .i64) (rP (rI .i64) r0))) ((), (ends_4, (lost_5, ()))), cmap go_8 (A r_net_pair) (S (rL (rL (rU UInt8)))) (some x_7)], []⟩ ?_
   replace hq1 := iteB_inv hq1
   rcases hq1 with ⟨hc19, hq1⟩ | ⟨hc19, hq1⟩
   · refine JC.condT (.tmp rfl) hc19 ?_
     refine JC.seq ?_
     refine JC.region ?_
     refine jc (op_assign lb .cI) ?_
     refine JL.nil ?_
     refine JQ.then ?_
     refine JC.ret ?_
     refine JQ.outRB ?_
     refine JQ.outR ?_
     replace hq1 := Option.some.inj hq1
     subst hq1
     exact JQ.done (js := [0, 0]) (ss := [.val (S (rI .i64) (2 : Int))]) () (.inl rfl) (.nil rfl) rfl (.cons (.tmp rfl) .nil) rfl rfl rfl
   · refine JC.condF (.tmp rfl) hc19 ?_
     refine JC.seq ?_
     refine JC.region ?_
     refine jc (op_move lb (.tmp rfl)) ?_
     refine jc (op_nilCheck lb (.tmp rfl) (fun e v h => by subst h; rfl)) ?_
     refine jc (op_fieldAddr (off := 0) lb tf57_0 (.tmp rfl)) ?_
     refine jc (op_loadW (j := 0) lb tS55 (.tmp rfl) rfl (Comp.trans (Comp.self (rP (rW (MPV go_8)) (rP (rI .i64) (rP (rI .i64) r0))) ((), (ends_4, (lost_5, ())))) (Comp.at' (Comp.inF (Comp.self (rW (MPV go_8)) ()) (Nat.le_of_ble_eq_true rfl)) (by rfl : _ = 0)) (Nat.le_of_ble_eq_true rfl))) ?_
     refine jc (op_move lb (.tmp rfl)) ?_
     refine jc (op_move lb (.tmp rfl)) ?_
     refine jc (op_build lb tZ60 zs60 tp60 (.S (off := 0) rfl (.tmp rfl) rfl ((UpdR.fst (UpdR.self (by rfl))).at (by rfl)) (.S (off := 1) rfl (.tmp rfl) rfl ((UpdR.snd (UpdR.fst (UpdR.self (by rfl)))).at (by rfl)) .nil)) rfl) ?_
     replace hq1 := lt1_inv hq1
     obtain ⟨v_20, hv_v_20, hq1⟩ := hq1
     refine jc (op_lookup (z0 := ([] : (List (List UInt8)))) (j := 1) lb tu55 ky60 tZ58 (fun e => zv58 e) rfl (.tmp rfl) (HasO.wk (q := A r_net_pair (net_pair.mk a_1 a_2)) (.tmp rfl) (wkAK (Wk.st Wk.refl))) hv_v_20) ?_
     refine jc (op_lenL lb tu58 (.tmp rfl)) ?_
     replace hq1 := lt1_inv hq1
     obtain ⟨v_21, hv_v_21, hq1⟩ := hq1
     refine jc (op_cmpI lb (.tmp rfl) .cI (congrArg some hv_v_21)) ?_
     refine jc (op_assign lb (.tmp rfl)) ?_
     refine JL.nil ?_
     refine JQ.then ?_
     replace hq1 := iteB_inv hq1
     rcases hq1 with ⟨hc20, hq1⟩ | ⟨hc20, hq1⟩
     · refine JC.condT (.tmp rfl) hc20 ?_
       refine JC.seq ?_
       refine JC.region ?_
       refine jc (op_move lb (.tmp rfl)) ?_
       refine JL.sub ⟨[(57, ov (PTR gb_6 0))], [cvar gb_6 (rP (rW (MPV go_8)) (rP (rI .i64) (rP (rI .i64) r0))) ((), (ends_4, (lost_5, ()))), cmap go_8 (A r_net_pair) (S (rL (rL (rU UInt8)))) (some x_7)], []⟩ (.cons rfl .nil) rfl rfl ?_
       refine jc (op_nilCheck lb (.tmp rfl) (fun e v h => by subst h; rfl)) ?_
       refine jc (op_fieldAddr (off := 2) lb tf57_2 (.tmp rfl)) ?_
       refine jc (op_loadS (j := 0) lb tS3 (.tmp rfl) rfl (Comp.trans (Comp.self (rP (rW (MPV go_8)) (rP (rI .i64) (rP (rI .i64) r0))) ((), (ends_4, (lost_5, ())))) (Comp.at' (Comp.inS (Comp.inS (Comp.inF (Comp.self (rI .i64) lost_5) (Nat.le_of_ble_eq_true rfl)))) (by rfl : _ = 2)) (Nat.le_of_ble_eq_true rfl)) rfl rfl) ?_
       replace hq1 := lt1_inv hq1
       obtain ⟨v_22, hv_v_22, hq1⟩ := hq1
       refine jc (op_arI lb (.tmp rfl) .cI (congrArg some hv_v_22)) ?_
       refine jc (op_nilCheck lb (.tmp rfl) (fun e v h => by subst h; rfl)) ?_
       refine jc (op_fieldAddr (off := 2) lb tf57_2 (.tmp rfl)) ?_
       refine jc (op_storeS (j := 0) tS3 (.tmp rfl) (.tmp rfl) rfl rfl ((UpdR.snd (UpdR.snd (UpdR.fst (UpdR.self (by rfl))))).at (by change (1 + (1 + 0)) = (0 + 2); omega)) rfl) ?_
       refine JL.nil ?_
       refine JQ.then ?_
       refine JC.seq ?_
       refine JC.region ?_
       refine jc (op_assign lb .cI) ?_
       refine JL.nil ?_
       refine JQ.then ?_
       refine JC.ret ?_
       refine JQ.outRB ?_
       refine JQ.outR ?_
       replace hq1 := Option.some.inj hq1
       subst hq1
       exact JQ.done (js := [0, 0]) (ss := [.val (S (rI .i64) (5 : Int))]) () (.inl rfl) (.nil rfl) rfl (.cons (.tmp rfl) .nil) rfl rfl rfl
     · refine JC.condF (.tmp rfl) hc20 ?_
       refine JC.skip ?_
       refine JQ.outNB ?_
       refine JQ.then ?_
       refine JC.seq ?_
       refine JC.region ?_
       refine jc (op_move lb (.tmp rfl)) ?_
       refine JL.sub ⟨[(1, ov (S (rI .i64) a_1)), (2, ov (S (rI .i64) a_2)), (3, ov (S (rL (rU UInt8)) a_3)), (64, ov (PTR gb_6 0))], [cvar gb_6 (rP (rW (MPV go_8)) (rP (rI .i64) (rP (rI .i64) r0))) ((), (ends_4, (lost_5, ()))), cmap go_8 (A r_net_pair) (S (rL (rL (rU UInt8)))) (some x_7)], []⟩ (.cons rfl (.cons rfl (.cons rfl (.cons rfl .nil)))) rfl rfl ?_
       refine jc (op_move lb (.tmp rfl)) ?_
       refine jc (op_move lb (.tmp rfl)) ?_
       refine jc (op_build lb tZ60 zs60 tp60 (.S (off := 0) rfl (.tmp rfl) rfl ((UpdR.fst (UpdR.self (by rfl))).at (by rfl)) (.S (off := 1) rfl (.tmp rfl) rfl ((UpdR.snd (UpdR.fst (UpdR.self (by rfl)))).at (by rfl)) .nil)) rfl) ?_
       refine jc (op_move lb (.tmp rfl)) ?_
       replace hq1 := bnd_inv hq1
       obtain ⟨x_23, hv_x_23, hq1⟩ := hq1
       refine jx (op_call (js := [0, 0]) ld cl30 (sim_net_Net_lay k (net_pair.mk a_1 a_2) a_3 ends_4 lost_5 x_7 gb_6 go_8 x_23 hv_x_23) .func (.cons (.tmp rfl) (.cons (HasO.wk (q := A r_net_pair (net_pair.mk a_1 a_2)) (.tmp rfl) (wkAK (Wk.st Wk.refl))) (.cons (.tmp rfl) .nil))) rfl) (fun _ => ?_)
       refine JL.nil ?_
       refine JQ.then ?_
       refine JC.seq ?_
       refine JC.region ?_
       refine jc (op_assign lb .cI) ?_
       refine JL.nil ?_
       refine JQ.then ?_
       refine JC.ret ?_
       replace hq1 := Option.some.inj hq1
       subst hq1
       exact JQ.done (js := [0, 0]) (ss := [.val (S (rI .i64) (0 : Int))]) () (.inl rfl) (.nil rfl) rfl (.cons (.tmp rfl) .nil) rfl rfl rfl
 · refine JC.region ?_
   refine jc (op_move lb (.tmp rfl)) ?_
   replace hx1 := lt1_inv hx1
   obtain ⟨v_10, hv_v_10, hx1⟩ := hx1
   refine jc (op_cmpI lb (.tmp rfl) .cI (congrArg some hv_v_10)) ?_
   refine jc (op_move lb (.tmp rfl)) ?_
   refine JL.cnd (sv := ov (S (rI .i64) a_1)) (Guard.isF (ltB rfl) rfl rfl) rfl (ltB rfl) (fun hq_2 => op_move lb (.tmp rfl)) ?_
   replace hx1 := iteB_inv hx1
   rcases hx1 with ⟨hc4, hx1⟩ | ⟨hc4, hx1⟩
   · refine JL.skip (.no rfl (ltB rfl) rfl hc4) (fun d h => by cases h; exact ltB rfl) ?_
     refine JL.skip (.no rfl (ltB rfl) rfl hc4) (fun d h => by cases h; exact ltB rfl) ?_
     refine JL.skip (.no rfl (ltB rfl) rfl hc4) (fun d h => by cases h; exact ltB rfl) ?_
     refine JL.skip (.no rfl (ltB rfl) rfl hc4) (fun d h => by cases h; exact ltB rfl) ?_
     refine JL.skip (.no rfl (ltB rfl) rfl hc4) (fun d h => by cases h; exact ltB rfl) ?_
     refine jc (op_pickT lb (.tmp rfl) hc4 .cB) ?_
     refine JL.sub ⟨[(0, ov (PTR gb_6 0)), (1, ov (S (rI .i64) a_1)), (2, ov (S (rI .i64) a_2)), (3, ov (S (rL (rU UInt8)) a_3)), (23, ov (S rB true))], [cvar gb_6 (rP (rW (MPV go_8)) (rP (rI .i64) (rP (rI .i64) r0))) ((), (ends_4, (lost_5, ()))), cmap go_8 (A r_net_pair) (S (rL (rL (rU UInt8)))) (some x_7)], []⟩ (.cons rfl (.cons rfl (.cons rfl (.cons rfl (.cons rfl .nil))))) rfl rfl ?_
     refine jc (op_move lb (.tmp rfl)) ?_
     refine JL.skip (.no rfl (ltB rfl) rfl rfl) (fun d h => by cases h; exact ltB rfl) ?_
     refine JL.skip (.no rfl (ltB rfl) rfl rfl) (fun d h => by cases h; exact ltB rfl) ?_
     refine jc (op_pickT lb (.tmp rfl) rfl .cB) ?_
     refine jc (op_move lb (.tmp rfl)) ?_
     refine JL.skip (.no rfl (ltB rfl) rfl rfl) (fun d h => by cases h; exact ltB rfl) ?_
     refine JL.skip (.no rfl (ltB rfl) rfl rfl) (fun d h => by cases h; exact ltB rfl) ?_
     refine JL.skip (.no rfl (ltB rfl) rfl rfl) (fun d h => by cases h; exact ltB rfl) ?_
     refine JL.skip (.no rfl (ltB rfl) rfl rfl) (fun d h => by cases h; exact ltB rfl) ?_
     refine JL.skip (.no rfl (ltB rfl) rfl rfl) (fun d h => by cases h; exact ltB rfl) ?_
     refine JL.skip (.no rfl (ltB rfl) rfl rfl) (fun d h => by cases h; exact ltB rfl) ?_
     refine jc (op_pickT lb (.tmp rfl) rfl .cB) ?_
     refine jc (op_move lb (.tmp rfl)) ?_
     refine JL.skip (.no rfl (ltB rfl) rfl rfl) (fun d h => by cases h; exact ltB rfl) ?_
     refine JL.skip (.no rfl (ltB rfl) rfl rfl) (fun d h => by cases h; exact ltB rfl) ?_
     refine JL.skip (.no rfl (ltB rfl) rfl rfl) (fun d h => by cases h; exact ltB rfl) ?_
     refine jc (op_pickT lb (.tmp rfl) rfl .cB) ?_
     refine jc (op_move lb (.tmp rfl)) ?_
     refine JL.skip (.no rfl (ltB rfl) rfl rfl) (fun d h => by cases h; exact ltB rfl) ?_
     refine JL.skip (.no rfl (ltB rfl) rfl rfl) (fun d h => by cases h; exact ltB rfl) ?_
     refine JL.skip (.no rfl (ltB rfl) rfl rfl) (fun d h => by cases h; exact ltB rfl) ?_
     refine jc (op_pickT lb (.tmp rfl) rfl .cB) ?_
     refine jc (op_assign lb (.tmp rfl)) ?_
     refine JL.nil ?_
     replace hx1 := Option.some.inj hx1
     first | subst hx1 | clear hx1
     exact JQ.join () (Imp.norm (js := [0, 0]) rfl (.cons rfl (.cons rfl (.cons rfl (.cons rfl (.cons rfl .nil))))))
   · refine JL.run (.yes rfl (ltB rfl) rfl hc4) (op_move lb (.tmp rfl)) ?_
     refine JL.sub ⟨[(0, ov (PTR gb_6 0)), (1, ov (S (rI .i64) a_1)), (2, ov (S (rI .i64) a_2)), (3, ov (S (rL (rU UInt8)) a_3)), (16, ov (S rB v_10)), (17, bif (!v_10) then ov (S (rI .i64) a_1) else .one .und), (18, ov (PTR gb_6 0))], [cvar gb_6 (rP (rW (MPV go_8)) (rP (rI .i64) (rP (rI .i64) r0))) ((), (ends_4, (lost_5, ()))), cmap go_8 (A r_net_pair) (S (rL (rL (rU UInt8)))) (some x_7)], []⟩ (.cons rfl (.cons rfl (.cons rfl (.cons rfl (.cons rfl (.cons rfl (.cons rfl .nil))))))) rfl rfl ?_
     refine JL.run (.yes rfl (ltB rfl) rfl hc4) (op_nilCheck lb (.tmp rfl) (fun e v h => by subst h; rfl)) ?_
     refine JL.run (.yes rfl (ltB rfl) rfl hc4) (op_fieldAddr (off := 1) lb tf57_1 (.tmp rfl)) ?_
     refine JL.run (.yes rfl (ltB rfl) rfl hc4) (op_loadS (j := 0) lb tS3 (.tmp rfl) rfl (Comp.trans (Comp.self (rP (rW (MPV go_8)) (rP (rI .i64) (rP (rI .i64) r0))) ((), (ends_4, (lost_5, ())))) (Comp.at' (Comp.inS (Comp.inF (Comp.self (rI .i64) ends_4) (Nat.le_of_ble_eq_true rfl))) (by rfl : _ = 1)) (Nat.le_of_ble_eq_true rfl)) rfl rfl) ?_
     replace hx1 := lt1_inv hx1
     obtain ⟨v_11, hv_v_11, hx1⟩ := hx1
     refine JL.run (.yes rfl (ltB rfl) rfl hc4) (op_cmpI lb (HasO.cnd (.tmp rfl) (notT hc4)) (.tmp rfl) (congrArg some hv_v_11)) ?_
     refine jc (op_pickF lb (.tmp rfl) hc4 (.tmp rfl)) ?_
     refine jc (op_move lb (.tmp rfl)) ?_
     refine JL.cnd (sv := ov (S (rI .i64) a_2)) (Guard.isF (ltB rfl) rfl rfl) rfl (ltB rfl) (fun hq_5 => op_move lb (.tmp rfl)) ?_
     replace hx1 := lt1_inv hx1
     obtain ⟨v_12, hv_v_12, hx1⟩ := hx1
     refine JL.cnd (sv := ov (S rB v_12)) (Guard.isF (ltB rfl) rfl rfl) rfl (ltB rfl) (fun hq_6 => op_cmpI lb (HasO.cnd (.tmp rfl) (notT (notF hq_6))) .cI (congrArg some hv_v_12)) ?_
     replace hx1 := lt1_inv hx1
     obtain ⟨v_13, hv_v_13, hx1⟩ := hx1
     refine jc (op_pickCS lb (.tmp rfl) (fun hb7 => .cB) (fun hb7 => (HasO.cnd (.tmp rfl) (notT hb7))) hv_v_13) ?_
     refine jc (op_move lb (.tmp rfl)) ?_
     refine JL.cnd (sv := ov (S (rI .i64) a_2)) (Guard.isF (ltB rfl) rfl rfl) rfl (ltB rfl) (fun hq_8 => op_move lb (.tmp rfl)) ?_
     replace hx1 := iteB_inv hx1
     rcases hx1 with ⟨hc10, hx1⟩ | ⟨hc10, hx1⟩
     · refine JL.skip (.no rfl (ltB rfl) rfl hc10) (fun d h => by cases h; exact ltB rfl) ?_
       refine JL.skip (.no rfl (ltB rfl) rfl hc10) (fun d h => by cases h; exact ltB rfl) ?_
       refine JL.skip (.no rfl (ltB rfl) rfl hc10) (fun d h => by cases h; exact ltB rfl) ?_
       refine JL.skip (.no rfl (ltB rfl) rfl hc10) (fun d h => by cases h; exact ltB rfl) ?_
       refine JL.skip (.no rfl (ltB rfl) rfl hc10) (fun d h => by cases h; exact ltB rfl) ?_
       refine jc (op_pickT lb (.tmp rfl) hc10 .cB) ?_
       refine JL.sub ⟨[(0, ov (PTR gb_6 0)), (1, ov (S (rI .i64) a_1)), (2, ov (S (rI .i64) a_2)), (3, ov (S (rL (rU UInt8)) a_3)), (35, ov (S rB true))], [cvar gb_6 (rP (rW (MPV go_8)) (rP (rI .i64) (rP (rI .i64) r0))) ((), (ends_4, (lost_5, ()))), cmap go_8 (A r_net_pair) (S (rL (rL (rU UInt8)))) (some x_7)], []⟩ (.cons rfl (.cons rfl (.cons rfl (.cons rfl (.cons rfl .nil))))) rfl rfl ?_
       refine jc (op_move lb (.tmp rfl)) ?_
       refine JL.skip (.no rfl (ltB rfl) rfl rfl) (fun d h => by cases h; exact ltB rfl) ?_
       refine JL.skip (.no rfl (ltB rfl) rfl rfl) (fun d h => by cases h; exact ltB rfl) ?_
       refine JL.skip (.no rfl (ltB rfl) rfl rfl) (fun d h => by cases h; exact ltB rfl) ?_
       refine jc (op_pickT lb (.tmp rfl) rfl .cB) ?_
       refine jc (op_move lb (.tmp rfl)) ?_
       refine JL.skip (.no rfl (ltB rfl) rfl rfl) (fun d h => by cases h; exact ltB rfl) ?_
       refine JL.skip (.no rfl (ltB rfl) rfl rfl) (fun d h => by cases h; exact ltB rfl) ?_
       refine JL.skip (.no rfl (ltB rfl) rfl rfl) (fun d h => by cases h; exact ltB rfl) ?_
       refine jc (op_pickT lb (.tmp rfl) rfl .cB) ?_
       refine jc (op_assign lb (.tmp rfl)) ?_
       refine JL.nil ?_
       replace hx1 := Option.some.inj hx1
       first | subst hx1 | clear hx1
       exact JQ.join () (Imp.norm (js := [0, 0]) rfl (.cons rfl (.cons rfl (.cons rfl (.cons rfl (.cons rfl .nil))))))
     · refine JL.run (.yes rfl (ltB rfl) rfl hc10) (op_move lb (.tmp rfl)) ?_
       refine JL.sub ⟨[(0, ov (PTR gb_6 0)), (1, ov (S (rI .i64) a_1)), (2, ov (S (rI .i64) a_2)), (3, ov (S (rL (rU UInt8)) a_3)), (28, ov (S rB v_13)), (29, bif (!v_13) then ov (S (rI .i64) a_2) else .one .und), (30, ov (PTR gb_6 0))], [cvar gb_6 (rP (rW (MPV go_8)) (rP (rI .i64) (rP (rI .i64) r0))) ((), (ends_4, (lost_5, ()))), cmap go_8 (A r_net_pair) (S (rL (rL (rU UInt8)))) (some x_7)], []⟩ (.cons rfl (.cons rfl (.cons rfl (.cons rfl (.cons rfl (.cons rfl (.cons rfl .nil))))))) rfl rfl ?_
       refine JL.run (.yes rfl (ltB rfl) rfl hc10) (op_nilCheck lb (.tmp rfl) (fun e v h => by subst h; rfl)) ?_
       refine JL.run (.yes rfl (ltB rfl) rfl hc10) (op_fieldAddr (off := 1) lb tf57_1 (.tmp rfl)) ?_
       refine JL.run (.yes rfl (ltB rfl) rfl hc10) (op_loadS (j := 0) lb tS3 (.tmp rfl) rfl (Comp.trans (Comp.self (rP (rW (MPV go_8)) (rP (rI .i64) (rP (rI .i64) r0))) ((), (ends_4, (lost_5, ())))) (Comp.at' (Comp.inS (Comp.inF (Comp.self (rI .i64) ends_4) (Nat.le_of_ble_eq_true rfl))) (by rfl : _ = 1)) (Nat.le_of_ble_eq_true rfl)) rfl rfl) ?_
       replace hx1 := lt1_inv hx1
       obtain ⟨v_14, hv_v_14, hx1⟩ := hx1
       refine JL.run (.yes rfl (ltB rfl) rfl hc10) (op_cmpI lb (HasO.cnd (.tmp rfl) (notT hc10)) (.tmp rfl) (congrArg some hv_v_14)) ?_
       refine jc (op_pickF lb (.tmp rfl) hc10 (.tmp rfl)) ?_
       refine jc (op_move lb (.tmp rfl)) ?_
       refine JL.cnd (sv := ov (S (rI .i64) a_1)) (Guard.isF (ltB rfl) rfl rfl) rfl (ltB rfl) (fun hq_11 => op_move lb (.tmp rfl)) ?_
       refine JL.cnd (sv := ov (S (rI .i64) a_2)) (Guard.isF (ltB rfl) rfl rfl) rfl (ltB rfl) (fun hq_12 => op_move lb (.tmp rfl)) ?_
       replace hx1 := lt1_inv hx1
       obtain ⟨v_15, hv_v_15, hx1⟩ := hx1
       refine JL.cnd (sv := ov (S rB v_15)) (Guard.isF (ltB rfl) rfl rfl) rfl (ltB rfl) (fun hq_13 => op_cmpI lb (HasO.cnd (.tmp rfl) (notT (notF hq_13))) (HasO.cnd (.tmp rfl) (notT (notF hq_13))) (congrArg some hv_v_15)) ?_
       replace hx1 := lt1_inv hx1
       obtain ⟨v_16, hv_v_16, hx1⟩ := hx1
       refine jc (op_pickCS lb (.tmp rfl) (fun hb14 => .cB) (fun hb14 => (HasO.cnd (.tmp rfl) (notT hb14))) hv_v_16) ?_
       refine jc (op_move lb (.tmp rfl)) ?_
       refine JL.cnd (sv := ov (S (rL (rU UInt8)) a_3)) (Guard.isF (ltB rfl) rfl rfl) rfl (ltB rfl) (fun hq_15 => op_move lb (.tmp rfl)) ?_
       refine JL.sub ⟨[(0, ov (PTR gb_6 0)), (1, ov (S (rI .i64) a_1)), (2, ov (S (rI .i64) a_2)), (3, ov (S (rL (rU UInt8)) a_3)), (41, ov (S rB v_16)), (42, bif (!v_16) then ov (S (rL (rU UInt8)) a_3) else .one .und)], [cvar gb_6 (rP (rW (MPV go_8)) (rP (rI .i64) (rP (rI .i64) r0))) ((), (ends_4, (lost_5, ()))), cmap go_8 (A r_net_pair) (S (rL (rL (rU UInt8)))) (some x_7)], []⟩ (.cons rfl (.cons rfl (.cons rfl (.cons rfl (.cons rfl (.cons rfl .nil)))))) rfl rfl ?_
       refine JL.cnd (sv := ov (S (rI .i64) (List.length a_3 : Int))) (Guard.isF (ltB rfl) rfl rfl) rfl (ltB rfl) (fun hq_16 => op_lenL lb tu31 (HasO.cnd (.tmp rfl) (notT (notF hq_16)))) ?_
       replace hx1 := lt1_inv hx1
       obtain ⟨v_17, hv_v_17, hx1⟩ := hx1
       refine JL.cnd (sv := ov (S rB v_17)) (Guard.isF (ltB rfl) rfl rfl) rfl (ltB rfl) (fun hq_17 => op_cmpI lb (HasO.cnd (.tmp rfl) (notT (notF hq_17))) .cI (congrArg some hv_v_17)) ?_
       replace hx1 := lt1_inv hx1
       obtain ⟨v_18, hv_v_18, hx1⟩ := hx1
       refine jc (op_pickCS lb (.tmp rfl) (fun hb18 => .cB) (fun hb18 => (HasO.cnd (.tmp rfl) (notT hb18))) hv_v_18) ?_
       refine jc (op_assign lb (.tmp rfl)) ?_
       refine JL.nil ?_
       replace hx1 := Option.some.inj hx1
       first | subst hx1 | clear hx1
       exact JQ.join () (Imp.norm (js := [0, 0]) rfl (.cons rfl (.cons rfl (.cons rfl (.cons rfl (.cons rfl .nil))))))

theorem sim_net_Net_All (k : Nat) (ends_1 : Int) (lost_2 : Int) (x_4 : (List (net_pair × (List (List UInt8))))) (gb_3 : Nat) (go_5 : Option Nat) (r : (List api_Flight)) (hm : net_Net_All k ends_1 lost_2 x_4 = some r) : Sim Try.prog 31 [PTR gb_3 0] [cvar gb_3 (rP (rW (MPV go_5)) (rP (rI .i64) (rP (rI .i64) r0))) ((), (ends_1, (lost_2, ()))), cmap go_5 (A r_net_pair) (S (rL (rL (rU UInt8)))) (some x_4)] (γ := Nat × Option Nat × Nat) (fun q => [cvar q.1 (rW (HDR q.2.1 0 (List.length r) q.2.2)) (), cown q.2.1 r_api_Flight r 0 q.2.2, cvar gb_3 (rP (rW (MPV go_5)) (rP (rI .i64) (rP (rI .i64) r0))) ((), (ends_1, (lost_2, ()))), cmap go_5 (A r_net_pair) (S (rL (rL (rU UInt8)))) (some x_4)]) (fun q => .one (.val (CLO 41 [PTR q.1 0]))) := by
 unfold net_Net_All at hm
 refine Sim.of Try.func31 rfl rfl (Nat.le_of_ble_eq_true rfl) (fun e0 w0 => ?_)
 refine JC.at ⟨[(0, ov (PTR gb_3 0))], [cvar gb_3 (rP (rW (MPV go_5)) (rP (rI .i64) (rP (rI .i64) r0))) ((), (ends_1, (lost_2, ()))), cmap go_5 (A r_net_pair) (S (rL (rL (rU UInt8)))) (some x_4)], []⟩ ?_
 refine JC.seq ?_
 refine JC.region ?_
 refine jc (op_assign lb (HasO.const (p := NILF) fun _ => rfl)) ?_
 refine JL.nil ?_
 refine JQ.then ?_
 refine JC.seq ?_
 refine JC.region ?_
 refine jx (op_alloc lb tZ30 zr30) (fun q => ?_)
 obtain ⟨gb_6, hqq⟩ : ∃ z, z = q := ⟨_, rfl⟩
 subst hqq
 refine JL.nil ?_
 refine JQ.then ?_
 replace hm := bnd_inv hm
 obtain ⟨l_37, hx1, hq1⟩ := hm
 refine JC.seqJ (γ := Option Nat × Nat) (stj := fun q => ⟨[(3, ov (PTR gb_6 0))], [cvar gb_6 (rW (HDR q.1 0 (List.length l_37) q.2)) (), cown q.1 r_api_Flight l_37 0 q.2, cvar gb_3 (rP (rW (MPV go_5)) (rP (rI .i64) (rP (rI .i64) r0))) ((), (ends_1, (lost_2, ()))), cmap go_5 (A r_net_pair) (S (rL (rL (rU UInt8)))) (some x_4)], []⟩) (fun q => ?_) ?_
 · obtain ⟨go_38, gc_39⟩ := q
   refine JC.at ⟨[(3, ov (PTR gb_6 0))], [cvar gb_6 (rW (HDR go_38 0 (List.length l_37) gc_39)) (), cown go_38 r_api_Flight l_37 0 gc_39, cvar gb_3 (rP (rW (MPV go_5)) (rP (rI .i64) (rP (rI .i64) r0))) ((), (ends_1, (lost_2, ()))), cmap go_5 (A r_net_pair) (S (rL (rL (rU UInt8)))) (some x_4)], []⟩ ?_
   refine JC.seq ?_
   refine JC.region ?_
   refine jc (op_makeFunc lb (.cons (.tmp rfl) .nil)) ?_
   refine jc (op_assign lb (.tmp rfl)) ?_
   refine JL.nil ?_
   refine JQ.then ?_
   refine JC.ret ?_
   replace hq1 := Option.some.inj hq1
   subst hq1
   exact JQ.done (js := [0, 0, 0, 0]) (ss := [.val (CLO 41 [PTR gb_6 0])]) (gb_6, go_38, gc_39) (.inl rfl) (.nil rfl) rfl (.cons (.tmp rfl) .nil) rfl rfl rfl
 · refine JC.seq ?_
   refine JC.region ?_
   refine jc (op_move lb (.tmp rfl)) ?_
   replace hx1 := bnd_inv hx1
   obtain ⟨_, hv_u_7, hx1⟩ := hx1
   refine jx (op_call (js := [0, 0]) ld cl29 (sim_net_Net_there k ends_1 lost_2 x_4 gb_3 go_5 () hv_u_7) .func (.cons (.tmp rfl) .nil) rfl) (fun _ => ?_)
   refine JL.nil ?_
   refine JQ.then ?_
   refine JC.condT (.tmp rfl) rfl ?_
   refine JC.seq ?_
   refine JC.region ?_
   refine jc (op_assign lb .cI) ?_
   refine JL.nil ?_
   refine JQ.then ?_
   refine JC.block ?_
   refine JC.pre (Imp.nilown r_api_Flight) ?_
   refine JC.pre ?_ (JC.loop (γ := Option Nat × Nat) (stf := fun s q => ⟨[(0, ov (PTR gb_3 0)), (3, ov (PTR gb_6 0)), (4, ov (S (rI .i64) s.2))], [cvar gb_3 (rP (rW (MPV go_5)) (rP (rI .i64) (rP (rI .i64) r0))) ((), (ends_1, (lost_2, ()))), cmap go_5 (A r_net_pair) (S (rL (rL (rU UInt8)))) (some x_4), cvar gb_6 (rW (HDR q.1 0 (List.length s.1) q.2)) (), cown q.1 r_api_Flight s.1 0 q.2], []⟩) (q := (none, 0)) hx1 ?_)
   · exact (Imp.norm (js := [0, 0, 0, 0]) rfl (.cons rfl (.cons rfl (.cons rfl .nil))))
   · intro s q x hx hr
     obtain ⟨l_8, from_9⟩ := s
     obtain ⟨go_10, gc_11⟩ := q
     change net_Net_All.b1 k ends_1 x_4 l_8 from_9 = some x at hx
     unfold net_Net_All.b1 at hx
     refine JC.at ⟨[(0, ov (PTR gb_3 0)), (3, ov (PTR gb_6 0)), (4, ov (S (rI .i64) from_9))], [cvar gb_3 (rP (rW (MPV go_5)) (rP (rI .i64) (rP (rI .i64) r0))) ((), (ends_1, (lost_2, ()))), cmap go_5 (A r_net_pair) (S (rL (rL (rU UInt8)))) (some x_4), cvar gb_6 (rW (HDR go_10 0 (List.length l_8) gc_11)) (), cown go_10 r_api_Flight l_8 0 gc_11], []⟩ ?_
     refine JC.seq ?_
     refine JC.seq ?_
     refine JC.region ?_
     refine jc (op_move lb (.tmp rfl)) ?_
     refine jc (op_move lb (.tmp rfl)) ?_
     refine jc (op_nilCheck lb (.tmp rfl) (fun e v h => by subst h; rfl)) ?_
     refine jc (op_fieldAddr (off := 1) lb tf57_1 (.tmp rfl)) ?_
     refine jc (op_loadS (j := 0) lb tS3 (.tmp rfl) rfl (Comp.trans (Comp.self (rP (rW (MPV go_5)) (rP (rI .i64) (rP (rI .i64) r0))) ((), (ends_1, (lost_2, ())))) (Comp.at' (Comp.inS (Comp.inF (Comp.self (rI .i64) ends_1) (Nat.le_of_ble_eq_true rfl))) (by rfl : _ = 1)) (Nat.le_of_ble_eq_true rfl)) rfl rfl) ?_
     replace hx := lt1_inv hx
     obtain ⟨v_12, hv_v_12, hx⟩ := hx
     refine jc (op_cmpI lb (.tmp rfl) (.tmp rfl) (congrArg some hv_v_12)) ?_
     refine JL.nil ?_
     refine JQ.then ?_
     replace hx := iteB_inv hx
     rcases hx with ⟨hc3, hx⟩ | ⟨hc3, hx⟩
     · refine JC.condT (.tmp rfl) hc3 ?_
       refine JC.skip ?_
       refine JQ.then ?_
       replace hx := bnd_inv hx
       obtain ⟨l_33, hx4, hq4⟩ := hx
       refine JC.seqJ (γ := Option Nat × Nat) (stj := fun q => ⟨[(0, ov (PTR gb_3 0)), (3, ov (PTR gb_6 0)), (4, ov (S (rI .i64) from_9))], [cvar gb_3 (rP (rW (MPV go_5)) (rP (rI .i64) (rP (rI .i64) r0))) ((), (ends_1, (lost_2, ()))), cmap go_5 (A r_net_pair) (S (rL (rL (rU UInt8)))) (some x_4), cvar gb_6 (rW (HDR q.1 0 (List.length l_33) q.2)) (), cown q.1 r_api_Flight l_33 0 q.2], []⟩) (fun q => ?_) ?_
       · obtain ⟨go_34, gc_35⟩ := q
         refine JC.at ⟨[(0, ov (PTR gb_3 0)), (3, ov (PTR gb_6 0)), (4, ov (S (rI .i64) from_9))], [cvar gb_3 (rP (rW (MPV go_5)) (rP (rI .i64) (rP (rI .i64) r0))) ((), (ends_1, (lost_2, ()))), cmap go_5 (A r_net_pair) (S (rL (rL (rU UInt8)))) (some x_4), cvar gb_6 (rW (HDR go_34 0 (List.length l_33) gc_35)) (), cown go_34 r_api_Flight l_33 0 gc_35], []⟩ ?_
         refine JC.region ?_
         refine jc (op_move lb (.tmp rfl)) ?_
         replace hq4 := lt1_inv hq4
         obtain ⟨v_36, hv_v_36, hq4⟩ := hq4
         refine jc (op_arI lb (.tmp rfl) .cI (congrArg some hv_v_36)) ?_
         refine jc (op_assign lb (.tmp rfl)) ?_
         refine JL.nil ?_
         replace hq4 := Option.some.inj hq4
         first | subst hq4 | clear hq4
         exact JQ.next (go_34, gc_35) rfl (Imp.norm (js := [0, 0, 0, 0]) rfl (.cons rfl (.cons rfl (.cons rfl .nil))))
       · refine JC.block ?_
         refine JC.seq ?_
         refine JC.region ?_
         refine jc (op_assign lb .cI) ?_
         refine JL.nil ?_
         refine JQ.then ?_
         refine JC.block ?_
         refine JC.pre ?_ (JC.loop (γ := Option Nat × Nat) (stf := fun s q => ⟨[(0, ov (PTR gb_3 0)), (3, ov (PTR gb_6 0)), (4, ov (S (rI .i64) from_9)), (5, ov (S (rI .i64) s.2))], [cvar gb_3 (rP (rW (MPV go_5)) (rP (rI .i64) (rP (rI .i64) r0))) ((), (ends_1, (lost_2, ()))), cmap go_5 (A r_net_pair) (S (rL (rL (rU UInt8)))) (some x_4), cvar gb_6 (rW (HDR q.1 0 (List.length s.1) q.2)) (), cown q.1 r_api_Flight s.1 0 q.2], []⟩) (q := (go_10, gc_11)) hx4 ?_)
         · exact (Imp.norm (js := [0, 0, 0, 0]) rfl (.cons rfl (.cons rfl (.cons rfl (.cons rfl .nil)))))
         · intro s q x hx hr
           obtain ⟨l_13, to_14⟩ := s
           obtain ⟨go_15, gc_16⟩ := q
           change net_Net_All.b2 k ends_1 x_4 from_9 l_13 to_14 = some x at hx
           unfold net_Net_All.b2 at hx
           refine JC.at ⟨[(0, ov (PTR gb_3 0)), (3, ov (PTR gb_6 0)), (4, ov (S (rI .i64) from_9)), (5, ov (S (rI .i64) to_14))], [cvar gb_3 (rP (rW (MPV go_5)) (rP (rI .i64) (rP (rI .i64) r0))) ((), (ends_1, (lost_2, ()))), cmap go_5 (A r_net_pair) (S (rL (rL (rU UInt8)))) (some x_4), cvar gb_6 (rW (HDR go_15 0 (List.length l_13) gc_16)) (), cown go_15 r_api_Flight l_13 0 gc_16], []⟩ ?_
           refine JC.seq ?_
           refine JC.seq ?_
           refine JC.region ?_
           refine jc (op_move lb (.tmp rfl)) ?_
           refine jc (op_move lb (.tmp rfl)) ?_
           refine jc (op_nilCheck lb (.tmp rfl) (fun e v h => by subst h; rfl)) ?_
           refine jc (op_fieldAddr (off := 1) lb tf57_1 (.tmp rfl)) ?_
           refine jc (op_loadS (j := 0) lb tS3 (.tmp rfl) rfl (Comp.trans (Comp.self (rP (rW (MPV go_5)) (rP (rI .i64) (rP (rI .i64) r0))) ((), (ends_1, (lost_2, ())))) (Comp.at' (Comp.inS (Comp.inF (Comp.self (rI .i64) ends_1) (Nat.le_of_ble_eq_true rfl))) (by rfl : _ = 1)) (Nat.le_of_ble_eq_true rfl)) rfl rfl) ?_
           replace hx := lt1_inv hx
           obtain ⟨v_17, hv_v_17, hx⟩ := hx
           refine jc (op_cmpI lb (.tmp rfl) (.tmp rfl) (congrArg some hv_v_17)) ?_
           refine JL.nil ?_
           refine JQ.then ?_
           replace hx := iteB_inv hx
           rcases hx with ⟨hc6, hx⟩ | ⟨hc6, hx⟩
           · refine JC.condT (.tmp rfl) hc6 ?_
             refine JC.skip ?_
             refine JQ.then ?_
             replace hx := bnd_inv hx
             obtain ⟨l_29, hx7, hq7⟩ := hx
             refine JC.seqJ (γ := Option Nat × Nat) (stj := fun q => ⟨[(0, ov (PTR gb_3 0)), (3, ov (PTR gb_6 0)), (4, ov (S (rI .i64) from_9)), (5, ov (S (rI .i64) to_14))], [cvar gb_3 (rP (rW (MPV go_5)) (rP (rI .i64) (rP (rI .i64) r0))) ((), (ends_1, (lost_2, ()))), cmap go_5 (A r_net_pair) (S (rL (rL (rU UInt8)))) (some x_4), cvar gb_6 (rW (HDR q.1 0 (List.length l_29) q.2)) (), cown q.1 r_api_Flight l_29 0 q.2], []⟩) (fun q => ?_) ?_
             · obtain ⟨go_30, gc_31⟩ := q
               refine JC.at ⟨[(0, ov (PTR gb_3 0)), (3, ov (PTR gb_6 0)), (4, ov (S (rI .i64) from_9)), (5, ov (S (rI .i64) to_14))], [cvar gb_3 (rP (rW (MPV go_5)) (rP (rI .i64) (rP (rI .i64) r0))) ((), (ends_1, (lost_2, ()))), cmap go_5 (A r_net_pair) (S (rL (rL (rU UInt8)))) (some x_4), cvar gb_6 (rW (HDR go_30 0 (List.length l_29) gc_31)) (), cown go_30 r_api_Flight l_29 0 gc_31], []⟩ ?_
               refine JC.region ?_
               refine jc (op_move lb (.tmp rfl)) ?_
               replace hq7 := lt1_inv hq7
               obtain ⟨v_32, hv_v_32, hq7⟩ := hq7
               refine jc (op_arI lb (.tmp rfl) .cI (congrArg some hv_v_32)) ?_
               refine jc (op_assign lb (.tmp rfl)) ?_
               refine JL.nil ?_
               replace hq7 := Option.some.inj hq7
               first | subst hq7 | clear hq7
               exact JQ.next (go_30, gc_31) rfl (Imp.norm (js := [0, 0, 0, 0]) rfl (.cons rfl (.cons rfl (.cons rfl (.cons rfl .nil)))))
             · refine JC.block ?_
               refine JC.seq ?_
               refine JC.region ?_
               refine jc (op_move lb (.tmp rfl)) ?_
               refine jc (op_nilCheck lb (.tmp rfl) (fun e v h => by subst h; rfl)) ?_
               refine jc (op_fieldAddr (off := 0) lb tf57_0 (.tmp rfl)) ?_
               refine jc (op_loadW (j := 0) lb tS55 (.tmp rfl) rfl (Comp.trans (Comp.self (rP (rW (MPV go_5)) (rP (rI .i64) (rP (rI .i64) r0))) ((), (ends_1, (lost_2, ())))) (Comp.at' (Comp.inF (Comp.self (rW (MPV go_5)) ()) (Nat.le_of_ble_eq_true rfl)) (by rfl : _ = 0)) (Nat.le_of_ble_eq_true rfl))) ?_
               refine jc (op_move lb (.tmp rfl)) ?_
               refine jc (op_move lb (.tmp rfl)) ?_
               refine JL.sub ⟨[(0, ov (PTR gb_3 0)), (3, ov (PTR gb_6 0)), (4, ov (S (rI .i64) from_9)), (5, ov (S (rI .i64) to_14)), (29, ov (MPV go_5)), (30, ov (S (rI .i64) from_9)), (31, ov (S (rI .i64) to_14))], [cvar gb_3 (rP (rW (MPV go_5)) (rP (rI .i64) (rP (rI .i64) r0))) ((), (ends_1, (lost_2, ()))), cmap go_5 (A r_net_pair) (S (rL (rL (rU UInt8)))) (some x_4), cvar gb_6 (rW (HDR go_15 0 (List.length l_13) gc_16)) (), cown go_15 r_api_Flight l_13 0 gc_16], []⟩ (.cons rfl (.cons rfl (.cons rfl (.cons rfl (.cons rfl (.cons rfl (.cons rfl .nil))))))) rfl rfl ?_
               refine jc (op_build lb tZ60 zs60 tp60 (.S (off := 0) rfl (.tmp rfl) rfl ((UpdR.fst (UpdR.self (by rfl))).at (by rfl)) (.S (off := 1) rfl (.tmp rfl) rfl ((UpdR.snd (UpdR.fst (UpdR.self (by rfl)))).at (by rfl)) .nil)) rfl) ?_
               replace hx7 := lt1_inv hx7
               obtain ⟨v_18, hv_v_18, hx7⟩ := hx7
               refine jc (op_lookup (z0 := ([] : (List (List UInt8)))) (j := 1) lb tu55 ky60 tZ58 (fun e => zv58 e) rfl (.tmp rfl) (HasO.wk (q := A r_net_pair (net_pair.mk from_9 to_14)) (.tmp rfl) (wkAK (Wk.st Wk.refl))) hv_v_18) ?_
               refine jc (op_lenL lb tu58 (.tmp rfl)) ?_
               refine jc (op_move lb .cI) ?_
               refine JL.nil ?_
               refine JQ.then ?_
               refine JC.block ?_
               refine JC.pre ?_ (JC.loop (γ := Option Nat × Nat) (stf := fun s q => ⟨[(0, ov (PTR gb_3 0)), (3, ov (PTR gb_6 0)), (4, ov (S (rI .i64) from_9)), (5, ov (S (rI .i64) to_14)), (33, ov (S (rL (rL (rU UInt8))) v_18)), (34, ov (S (rI .i64) (List.length v_18 : Int))), (35, ov (S (rI .i64) s.2))], [cvar gb_3 (rP (rW (MPV go_5)) (rP (rI .i64) (rP (rI .i64) r0))) ((), (ends_1, (lost_2, ()))), cmap go_5 (A r_net_pair) (S (rL (rL (rU UInt8)))) (some x_4), cvar gb_6 (rW (HDR q.1 0 (List.length s.1) q.2)) (), cown q.1 r_api_Flight s.1 0 q.2], []⟩) (q := (go_15, gc_16)) hx7 ?_)
               · exact (Imp.norm (js := [0, 0, 0, 0]) rfl (.cons rfl (.cons rfl (.cons rfl (.cons rfl (.cons rfl (.cons rfl (.cons rfl .nil))))))))
               · intro s q x hx hr
                 obtain ⟨l_19, x_20⟩ := s
                 obtain ⟨go_21, gc_22⟩ := q
                 change net_Net_All.b3 k v_18 from_9 to_14 l_19 x_20 = some x at hx
                 unfold net_Net_All.b3 at hx
                 refine JC.at ⟨[(0, ov (PTR gb_3 0)), (3, ov (PTR gb_6 0)), (4, ov (S (rI .i64) from_9)), (5, ov (S (rI .i64) to_14)), (33, ov (S (rL (rL (rU UInt8))) v_18)), (34, ov (S (rI .i64) (List.length v_18 : Int))), (35, ov (S (rI .i64) x_20))], [cvar gb_3 (rP (rW (MPV go_5)) (rP (rI .i64) (rP (rI .i64) r0))) ((), (ends_1, (lost_2, ()))), cmap go_5 (A r_net_pair) (S (rL (rL (rU UInt8)))) (some x_4), cvar gb_6 (rW (HDR go_21 0 (List.length l_19) gc_22)) (), cown go_21 r_api_Flight l_19 0 gc_22], []⟩ ?_
                 refine JC.seq ?_
                 refine JC.region ?_
                 replace hx := lt1_inv hx
                 obtain ⟨v_23, hv_v_23, hx⟩ := hx
                 refine jc (op_cmpI lb (.tmp rfl) (.tmp rfl) (congrArg some hv_v_23)) ?_
                 refine JL.nil ?_
                 refine JQ.then ?_
                 refine JC.seq ?_
                 replace hx := iteB_inv hx
                 rcases hx with ⟨hc9, hx⟩ | ⟨hc9, hx⟩
                 · refine JC.condT (.tmp rfl) hc9 ?_
                   refine JC.skip ?_
                   refine JQ.then ?_
                   refine JC.seq ?_
                   refine JC.block ?_
                   refine JC.seq ?_
                   refine JC.region ?_
                   replace hx := bnd_inv hx
                   obtain ⟨v_24, hv_v_24, hx⟩ := hx
                   refine jc (op_indexAddrLg lb tu58 tz31 (.tmp rfl) (.tmp rfl) hv_v_24) ?_
                   refine jc (op_loadPSg lb tS31 rfl (.tmp rfl) rfl) ?_
                   refine jc (op_assign lb (.tmp rfl)) ?_
                   refine JL.nil ?_
                   refine JQ.then ?_
                   refine JC.region ?_
                   refine jc (op_loadW (j := 2) lb tS30 (.tmp rfl) rfl (Comp.self (rW (HDR go_21 0 (List.length l_19) gc_22)) ())) ?_
                   refine jc (op_move lb (.tmp rfl)) ?_
                   refine jc (op_move lb (.tmp rfl)) ?_
                   refine jc (op_move lb (.tmp rfl)) ?_
                   refine jc (op_build lb tZ36 zr36 tp36 (.S (off := 0) rfl (.tmp rfl) rfl ((UpdR.fst (UpdR.self (by rfl))).at (by rfl)) (.S (off := 1) rfl (.tmp rfl) rfl ((UpdR.snd (UpdR.fst (UpdR.self (by rfl)))).at (by rfl)) (.S (off := 2) rfl (.tmp rfl) rfl ((UpdR.snd (UpdR.snd (UpdR.fst (UpdR.self (by rfl))))).at (by rfl)) .nil))) rfl) ?_
                   refine jc (op_buildF (r := r_api_Flight) lb tu30 tz36 tZ36 rfl (Nat.le_of_ble_eq_true rfl) (.A (HasO.wk (q := A r_api_Flight (api_Flight.mk from_9 to_14 v_24)) (.tmp rfl) (wkAK (Wk.st Wk.refl))) .nil) rfl) ?_
                   replace hx := bnd_inv hx
                   obtain ⟨x_25, hv_x_25, hx⟩ := hx
                   refine jx (op_appendL (j := 3) lb tu30 tu30 rfl tB36 rfl (Nat.lt_of_lt_of_le Nat.zero_lt_one (Nat.le_of_ble_eq_true rfl)) (Nat.lt_of_lt_of_le Nat.zero_lt_one (Nat.le_of_ble_eq_true rfl))  rfl (.tmp rfl) (.tmp rfl) hv_x_25) (fun q => ?_)
                   obtain ⟨go_26, gc_27⟩ := q
                   refine JL.sub ⟨[(0, ov (PTR gb_3 0)), (3, ov (PTR gb_6 0)), (4, ov (S (rI .i64) from_9)), (5, ov (S (rI .i64) to_14)), (33, ov (S (rL (rL (rU UInt8))) v_18)), (34, ov (S (rI .i64) (List.length v_18 : Int))), (35, ov (S (rI .i64) x_20)), (45, ov (HDR go_26 0 (List.length x_25) gc_27))], [cvar gb_3 (rP (rW (MPV go_5)) (rP (rI .i64) (rP (rI .i64) r0))) ((), (ends_1, (lost_2, ()))), cmap go_5 (A r_net_pair) (S (rL (rL (rU UInt8)))) (some x_4), cvar gb_6 (rW (HDR go_21 0 (List.length l_19) gc_22)) (), cown go_26 r_api_Flight x_25 0 gc_27], []⟩ (.cons rfl (.cons rfl (.cons rfl (.cons rfl (.cons rfl (.cons rfl (.cons rfl (.cons rfl .nil)))))))) rfl rfl ?_
                   refine jc (op_storeW (j := 2) tS30 (.tmp rfl) (.tmp rfl) rfl (UpdR.self (by rfl)) rfl) ?_
                   refine JL.nil ?_
                   refine JQ.outNB ?_
                   refine JQ.then ?_
                   refine JC.region ?_
                   replace hx := lt1_inv hx
                   obtain ⟨v_28, hv_v_28, hx⟩ := hx
                   refine jc (op_arI lb (.tmp rfl) .cI (congrArg some hv_v_28)) ?_
                   refine jc (op_move lb (.tmp rfl)) ?_
                   refine JL.nil ?_
                   replace hx := Option.some.inj hx
                   first | subst hx | clear hx
                   exact JQ.next (go_26, gc_27) rfl (Imp.norm (js := [0, 0, 0, 0]) rfl (.cons rfl (.cons rfl (.cons rfl (.cons rfl (.cons rfl (.cons rfl (.cons rfl .nil))))))))
                 · refine JC.condF (.tmp rfl) hc9 ?_
                   refine JC.exit ?_
                   refine JQ.outX ?_
                   replace hx := Option.some.inj hx
                   first | subst hx | clear hx
                   have ht := hr _ rfl
                   have hq8 := congrArg some ht
                   clear hr ht
                   refine JQ.outX ?_
                   refine JQ.here ?_
                   refine JQ.outNB ?_
                   replace hq8 := Option.some.inj hq8
                   first | subst hq8 | clear hq8
                   exact JQ.join (go_21, gc_22) (Imp.norm (js := [0, 0, 0, 0]) rfl (.cons rfl (.cons rfl (.cons rfl (.cons rfl .nil)))))
           · refine JC.condF (.tmp rfl) hc6 ?_
             refine JC.exit ?_
             refine JQ.outX ?_
             replace hx := Option.some.inj hx
             first | subst hx | clear hx
             have ht := hr _ rfl
             have hq5 := congrArg some ht
             clear hr ht
             refine JQ.outX ?_
             refine JQ.here ?_
             refine JQ.outNB ?_
             replace hq5 := Option.some.inj hq5
             first | subst hq5 | clear hq5
             exact JQ.join (go_15, gc_16) (Imp.norm (js := [0, 0, 0, 0]) rfl (.cons rfl (.cons rfl (.cons rfl .nil))))
     · refine JC.condF (.tmp rfl) hc3 ?_
       refine JC.exit ?_
       refine JQ.outX ?_
       replace hx := Option.some.inj hx
       first | subst hx | clear hx
       have ht := hr _ rfl
       have hq2 := congrArg some ht
       clear hr ht
       refine JQ.outX ?_
       refine JQ.here ?_
       replace hq2 := Option.some.inj hq2
       first | subst hq2 | clear hq2
       exact JQ.join (go_10, gc_11) (Imp.norm (js := [2, 2, 0, 0]) rfl (.cons rfl .nil))

end Go.Proofs.Ytnadeehdnmgebaa
