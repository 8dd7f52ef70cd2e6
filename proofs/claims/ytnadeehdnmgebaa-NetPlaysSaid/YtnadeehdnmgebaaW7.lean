/- Walks. -/
import Derived.Test.YtnadeehdnmgebaaT
import Derived.Test.YtnadeehdnmgebaaW0
import Derived.Test.YtnadeehdnmgebaaW6
namespace Go.Proofs.Ytnadeehdnmgebaa
open Go Fw
set_option linter.unusedVariables false
set_option maxRecDepth 100000
set_option maxHeartbeats 4000000

theorem sim_net_Net_Send'2 (k : Nat) (a_1 : Int) (a_2 : Int) (o_3 : Nat) (n_4 : Nat) (ends_5 : Int) (lost_6 : Int) (x_8 : (List (net_pair × (List (List UInt8))))) (x_10 : (List UInt8)) (gb_7 : Nat) (go_9 : Option Nat) (go_11 : Option Nat) (gc_12 : Nat) (r : Int × (List (net_pair × (List (List UInt8)))) × Int) (hm : net_Net_Send'2 k a_1 a_2 o_3 n_4 ends_5 lost_6 x_8 x_10 = some r) : Sim Try.prog 13 [PTR gb_7 0, S (rI .i64) a_1, S (rI .i64) a_2, HDX go_11 (o_3 * 1) n_4] [cvar gb_7 (rP (rW (MPV go_9)) (rP (rI .i64) (rP (rI .i64) r0))) ((), (ends_5, (lost_6, ()))), cmap go_9 (A r_net_pair) (S (rL (rL (rU UInt8)))) (some x_8), cown go_11 (rU UInt8) x_10 0 gc_12] (γ := Unit) (fun q => [cvar gb_7 (rP (rW (MPV go_9)) (rP (rI .i64) (rP (rI .i64) r0))) ((), (ends_5, (r.2.2, ()))), cmap go_9 (A r_net_pair) (S (rL (rL (rU UInt8)))) (some r.2.1), cown go_11 (rU UInt8) x_10 0 gc_12]) (fun q => .one (.val (S (rI .i64) r.1))) := by
 unfold net_Net_Send'2 at hm
 refine Sim.of Try.func13 rfl rfl (Nat.le_of_ble_eq_true rfl) (fun e0 w0 => ?_)
 refine JC.at ⟨[(0, ov (PTR gb_7 0)), (1, ov (S (rI .i64) a_1)), (2, ov (S (rI .i64) a_2)), (3, ov (HDX go_11 (o_3 * 1) n_4))], [cvar gb_7 (rP (rW (MPV go_9)) (rP (rI .i64) (rP (rI .i64) r0))) ((), (ends_5, (lost_6, ()))), cmap go_9 (A r_net_pair) (S (rL (rL (rU UInt8)))) (some x_8), cown go_11 (rU UInt8) x_10 0 gc_12], []⟩ ?_
 refine JC.seq ?_
 refine JC.region ?_
 refine jc (op_assign lb .cI) ?_
 refine JL.nil ?_
 refine JQ.then ?_
 refine JC.seq ?_
 refine JC.block ?_
 refine JC.seq ?_
 refine JC.region ?_
 refine jc (op_move lb (.tmp rfl)) ?_
 replace hm := bnd_inv hm
 obtain ⟨_, hv_u_13, hm⟩ := hm
 refine jx (op_call (js := [0, 0]) ld cl29 (sim_net_Net_there k ends_5 lost_6 x_8 gb_7 go_9 () hv_u_13) .func (.cons (.tmp rfl) .nil) rfl) (fun _ => ?_)
 refine jc (op_not lb (.tmp rfl) rfl) ?_
 refine jc (op_assign lb (.tmp rfl)) ?_
 refine JL.nil ?_
 refine JQ.then ?_
 refine JC.condF (.tmp rfl) rfl ?_
 replace hm := bnd_inv hm
 obtain ⟨x_22, hx1, hq1⟩ := hm
 refine JC.seqJ (γ := Unit) (stj := fun q => ⟨[(0, ov (PTR gb_7 0)), (1, ov (S (rI .i64) a_1)), (2, ov (S (rI .i64) a_2)), (3, ov (HDX go_11 (o_3 * 1) n_4)), (13, ov (S rB x_22))], [cvar gb_7 (rP (rW (MPV go_9)) (rP (rI .i64) (rP (rI .i64) r0))) ((), (ends_5, (lost_6, ()))), cmap go_9 (A r_net_pair) (S (rL (rL (rU UInt8)))) (some x_8), cown go_11 (rU UInt8) x_10 0 gc_12], []⟩) (fun q => ?_) ?_
 · obtain _ := q
   refine JC.at ⟨[(0, ov (PTR gb_7 0)), (1, ov (S (rI .i64) a_1)), (2, ov (S (rI .i64) a_2)), (3, ov (HDX go_11 (o_3 * 1) n_4)), (13, ov (S rB x_22))], [cvar gb_7 (rP (rW (MPV go_9)) (rP (rI .i64) (rP (rI .i64) r0))) ((), (ends_5, (lost_6, ()))), cmap go_9 (A r_net_pair) (S (rL (rL (rU UInt8)))) (some x_8), cown go_11 (rU UInt8) x_10 0 gc_12], []⟩ ?_
   replace hq1 := iteB_inv hq1
   rcases hq1 with ⟨hc17, hq1⟩ | ⟨hc17, hq1⟩
   · refine JC.condT (.tmp rfl) hc17 ?_
     refine JC.seq ?_
     refine JC.region ?_
     refine jc (op_assign lb .cI) ?_
     refine JL.nil ?_
     refine JQ.then ?_
     refine JC.ret ?_
     refine JQ.outRB ?_
     refine JQ.outR ?_
     replace hq1 := Option.some.inj hq1
     subst hq1
     exact JQ.done (js := [0, 0, 0]) (ss := [.val (S (rI .i64) (2 : Int))]) () (.inl rfl) (.nil rfl) rfl (.cons (.tmp rfl) .nil) rfl rfl rfl
   · refine JC.condF (.tmp rfl) hc17 ?_
     refine JC.seq ?_
     refine JC.region ?_
     refine jc (op_move lb (.tmp rfl)) ?_
     refine jc (op_nilCheck lb (.tmp rfl) (fun e v h => by subst h; rfl)) ?_
     refine jc (op_fieldAddr (off := 0) lb tf57_0 (.tmp rfl)) ?_
     refine jc (op_loadW (j := 0) lb tS55 (.tmp rfl) rfl (Comp.trans (Comp.self (rP (rW (MPV go_9)) (rP (rI .i64) (rP (rI .i64) r0))) ((), (ends_5, (lost_6, ())))) (Comp.at' (Comp.inF (Comp.self (rW (MPV go_9)) ()) (Nat.le_of_ble_eq_true rfl)) (by rfl : _ = 0)) (Nat.le_of_ble_eq_true rfl))) ?_
     refine jc (op_move lb (.tmp rfl)) ?_
     refine jc (op_move lb (.tmp rfl)) ?_
     refine jc (op_build lb tZ60 zs60 tp60 (.S (off := 0) rfl (.tmp rfl) rfl ((UpdR.fst (UpdR.self (by rfl))).at (by rfl)) (.S (off := 1) rfl (.tmp rfl) rfl ((UpdR.snd (UpdR.fst (UpdR.self (by rfl)))).at (by rfl)) .nil)) rfl) ?_
     replace hq1 := lt1_inv hq1
     obtain ⟨v_23, hv_v_23, hq1⟩ := hq1
     refine jc (op_lookup (z0 := ([] : (List (List UInt8)))) (j := 1) lb tu55 ky60 tZ58 (fun e => zv58 e) rfl (.tmp rfl) (HasO.wk (q := A r_net_pair (net_pair.mk a_1 a_2)) (.tmp rfl) (wkAK (Wk.st Wk.refl))) hv_v_23) ?_
     refine jc (op_lenL lb tu58 (.tmp rfl)) ?_
     replace hq1 := lt1_inv hq1
     obtain ⟨v_24, hv_v_24, hq1⟩ := hq1
     refine jc (op_cmpI lb (.tmp rfl) .cI (congrArg some hv_v_24)) ?_
     refine jc (op_assign lb (.tmp rfl)) ?_
     refine JL.nil ?_
     refine JQ.then ?_
     replace hq1 := iteB_inv hq1
     rcases hq1 with ⟨hc18, hq1⟩ | ⟨hc18, hq1⟩
     · refine JC.condT (.tmp rfl) hc18 ?_
       refine JC.seq ?_
       refine JC.region ?_
       refine jc (op_move lb (.tmp rfl)) ?_
       refine JL.sub ⟨[(57, ov (PTR gb_7 0))], [cvar gb_7 (rP (rW (MPV go_9)) (rP (rI .i64) (rP (rI .i64) r0))) ((), (ends_5, (lost_6, ()))), cmap go_9 (A r_net_pair) (S (rL (rL (rU UInt8)))) (some x_8), cown go_11 (rU UInt8) x_10 0 gc_12], []⟩ (.cons rfl .nil) rfl rfl ?_
       refine jc (op_nilCheck lb (.tmp rfl) (fun e v h => by subst h; rfl)) ?_
       refine jc (op_fieldAddr (off := 2) lb tf57_2 (.tmp rfl)) ?_
       refine jc (op_loadS (j := 0) lb tS3 (.tmp rfl) rfl (Comp.trans (Comp.self (rP (rW (MPV go_9)) (rP (rI .i64) (rP (rI .i64) r0))) ((), (ends_5, (lost_6, ())))) (Comp.at' (Comp.inS (Comp.inS (Comp.inF (Comp.self (rI .i64) lost_6) (Nat.le_of_ble_eq_true rfl)))) (by rfl : _ = 2)) (Nat.le_of_ble_eq_true rfl)) rfl rfl) ?_
       replace hq1 := lt1_inv hq1
       obtain ⟨v_25, hv_v_25, hq1⟩ := hq1
       refine jc (op_arI lb (.tmp rfl) .cI (congrArg some hv_v_25)) ?_
       refine jc (op_nilCheck lb (.tmp rfl) (fun e v h => by subst h; rfl)) ?_
       refine jc (op_fieldAddr (off := 2) lb tf57_2 (.tmp rfl)) ?_
       refine jc (op_storeS (j := 0) tS3 (.tmp rfl) (.tmp rfl) rfl rfl ((UpdR.snd (UpdR.snd (UpdR.fst (UpdR.self (by rfl))))).at (by change (1 + (1 + 0)) = (0 + 2); omega)) rfl) ?_
       refine JL.nil ?_
       refine JQ.then ?_
       refine JC.seq ?_
       refine JC.region ?_
       refine jc (op_assign lb .cI) ?_
       refine JL.nil ?_
       refine JQ.then ?_
       refine JC.ret ?_
       refine JQ.outRB ?_
       refine JQ.outR ?_
       replace hq1 := Option.some.inj hq1
       subst hq1
       exact JQ.done (js := [0, 0, 0]) (ss := [.val (S (rI .i64) (5 : Int))]) () (.inl rfl) (.nil rfl) rfl (.cons (.tmp rfl) .nil) rfl rfl rfl
     · refine JC.condF (.tmp rfl) hc18 ?_
       refine JC.skip ?_
       refine JQ.outNB ?_
       refine JQ.then ?_
       refine JC.seq ?_
       refine JC.region ?_
       refine jc (op_move lb (.tmp rfl)) ?_
       refine JL.sub ⟨[(1, ov (S (rI .i64) a_1)), (2, ov (S (rI .i64) a_2)), (3, ov (HDX go_11 (o_3 * 1) n_4)), (64, ov (PTR gb_7 0))], [cvar gb_7 (rP (rW (MPV go_9)) (rP (rI .i64) (rP (rI .i64) r0))) ((), (ends_5, (lost_6, ()))), cmap go_9 (A r_net_pair) (S (rL (rL (rU UInt8)))) (some x_8), cown go_11 (rU UInt8) x_10 0 gc_12], []⟩ (.cons rfl (.cons rfl (.cons rfl (.cons rfl .nil)))) rfl rfl ?_
       refine jc (op_move lb (.tmp rfl)) ?_
       refine jc (op_move lb (.tmp rfl)) ?_
       refine jc (op_build lb tZ60 zs60 tp60 (.S (off := 0) rfl (.tmp rfl) rfl ((UpdR.fst (UpdR.self (by rfl))).at (by rfl)) (.S (off := 1) rfl (.tmp rfl) rfl ((UpdR.snd (UpdR.fst (UpdR.self (by rfl)))).at (by rfl)) .nil)) rfl) ?_
       refine jc (op_move lb (.tmp rfl)) ?_
       replace hq1 := bnd_inv hq1
       obtain ⟨x_26, hv_x_26, hq1⟩ := hq1
       refine jx (op_call (js := [0, 0, 0]) ld cl30 (sim_net_Net_lay'2 k (net_pair.mk a_1 a_2) o_3 n_4 ends_5 lost_6 x_8 x_10 gb_7 go_9 go_11 gc_12 x_26 hv_x_26) .func (.cons (.tmp rfl) (.cons (HasO.wk (q := A r_net_pair (net_pair.mk a_1 a_2)) (.tmp rfl) (wkAK (Wk.st Wk.refl))) (.cons (.tmp rfl) .nil))) rfl) (fun _ => ?_)
       refine JL.nil ?_
       refine JQ.then ?_
       refine JC.seq ?_
       refine JC.region ?_
       refine jc (op_assign lb .cI) ?_
       refine JL.nil ?_
       refine JQ.then ?_
       refine JC.ret ?_
       replace hq1 := Option.some.inj hq1
       subst hq1
       exact JQ.done (js := [0, 0, 0]) (ss := [.val (S (rI .i64) (0 : Int))]) () (.inl rfl) (.nil rfl) rfl (.cons (.tmp rfl) .nil) rfl rfl rfl
 · refine JC.region ?_
   refine jc (op_move lb (.tmp rfl)) ?_
   replace hx1 := lt1_inv hx1
   obtain ⟨v_14, hv_v_14, hx1⟩ := hx1
   refine jc (op_cmpI lb (.tmp rfl) .cI (congrArg some hv_v_14)) ?_
   refine jc (op_move lb (.tmp rfl)) ?_
   refine JL.cnd (sv := ov (S (rI .i64) a_1)) (Guard.isF (ltB rfl) rfl rfl) rfl (ltB rfl) (fun hq_2 => op_move lb (.tmp rfl)) ?_
   replace hx1 := iteB_inv hx1
   rcases hx1 with ⟨hc4, hx1⟩ | ⟨hc4, hx1⟩
   · refine JL.skip (.no rfl (ltB rfl) rfl hc4) (fun d h => by cases h; exact ltB rfl) ?_
     refine JL.skip (.no rfl (ltB rfl) rfl hc4) (fun d h => by cases h; exact ltB rfl) ?_
     refine JL.skip (.no rfl (ltB rfl) rfl hc4) (fun d h => by cases h; exact ltB rfl) ?_
     refine JL.skip (.no rfl (ltB rfl) rfl hc4) (fun d h => by cases h; exact ltB rfl) ?_
     refine JL.skip (.no rfl (ltB rfl) rfl hc4) (fun d h => by cases h; exact ltB rfl) ?_
     refine jc (op_pickT lb (.tmp rfl) hc4 .cB) ?_
     refine JL.sub ⟨[(0, ov (PTR gb_7 0)), (1, ov (S (rI .i64) a_1)), (2, ov (S (rI .i64) a_2)), (3, ov (HDX go_11 (o_3 * 1) n_4)), (23, ov (S rB true))], [cvar gb_7 (rP (rW (MPV go_9)) (rP (rI .i64) (rP (rI .i64) r0))) ((), (ends_5, (lost_6, ()))), cmap go_9 (A r_net_pair) (S (rL (rL (rU UInt8)))) (some x_8), cown go_11 (rU UInt8) x_10 0 gc_12], []⟩ (.cons rfl (.cons rfl (.cons rfl (.cons rfl (.cons rfl .nil))))) rfl rfl ?_
     refine jc (op_move lb (.tmp rfl)) ?_
     refine JL.skip (.no rfl (ltB rfl) rfl rfl) (fun d h => by cases h; exact ltB rfl) ?_
     refine JL.skip (.no rfl (ltB rfl) rfl rfl) (fun d h => by cases h; exact ltB rfl) ?_
     refine jc (op_pickT lb (.tmp rfl) rfl .cB) ?_
     refine jc (op_move lb (.tmp rfl)) ?_
     refine JL.skip (.no rfl (ltB rfl) rfl rfl) (fun d h => by cases h; exact ltB rfl) ?_
     refine JL.skip (.no rfl (ltB rfl) rfl rfl) (fun d h => by cases h; exact ltB rfl) ?_
     refine JL.skip (.no rfl (ltB rfl) rfl rfl) (fun d h => by cases h; exact ltB rfl) ?_
     refine JL.skip (.no rfl (ltB rfl) rfl rfl) (fun d h => by cases h; exact ltB rfl) ?_
     refine JL.skip (.no rfl (ltB rfl) rfl rfl) (fun d h => by cases h; exact ltB rfl) ?_
     refine JL.skip (.no rfl (ltB rfl) rfl rfl) (fun d h => by cases h; exact ltB rfl) ?_
     refine jc (op_pickT lb (.tmp rfl) rfl .cB) ?_
     refine jc (op_move lb (.tmp rfl)) ?_
     refine JL.skip (.no rfl (ltB rfl) rfl rfl) (fun d h => by cases h; exact ltB rfl) ?_
     refine JL.skip (.no rfl (ltB rfl) rfl rfl) (fun d h => by cases h; exact ltB rfl) ?_
     refine JL.skip (.no rfl (ltB rfl) rfl rfl) (fun d h => by cases h; exact ltB rfl) ?_
     refine jc (op_pickT lb (.tmp rfl) rfl .cB) ?_
     refine jc (op_move lb (.tmp rfl)) ?_
     refine JL.skip (.no rfl (ltB rfl) rfl rfl) (fun d h => by cases h; exact ltB rfl) ?_
     refine JL.skip (.no rfl (ltB rfl) rfl rfl) (fun d h => by cases h; exact ltB rfl) ?_
     refine JL.skip (.no rfl (ltB rfl) rfl rfl) (fun d h => by cases h; exact ltB rfl) ?_
     refine jc (op_pickT lb (.tmp rfl) rfl .cB) ?_
     refine jc (op_assign lb (.tmp rfl)) ?_
     refine JL.nil ?_
     replace hx1 := Option.some.inj hx1
     first | subst hx1 | clear hx1
     exact JQ.join () (Imp.norm (js := [0, 0, 0]) rfl (.cons rfl (.cons rfl (.cons rfl (.cons rfl (.cons rfl .nil))))))
   · refine JL.run (.yes rfl (ltB rfl) rfl hc4) (op_move lb (.tmp rfl)) ?_
     refine JL.sub ⟨[(0, ov (PTR gb_7 0)), (1, ov (S (rI .i64) a_1)), (2, ov (S (rI .i64) a_2)), (3, ov (HDX go_11 (o_3 * 1) n_4)), (16, ov (S rB v_14)), (17, bif (!v_14) then ov (S (rI .i64) a_1) else .one .und), (18, ov (PTR gb_7 0))], [cvar gb_7 (rP (rW (MPV go_9)) (rP (rI .i64) (rP (rI .i64) r0))) ((), (ends_5, (lost_6, ()))), cmap go_9 (A r_net_pair) (S (rL (rL (rU UInt8)))) (some x_8), cown go_11 (rU UInt8) x_10 0 gc_12], []⟩ (.cons rfl (.cons rfl (.cons rfl (.cons rfl (.cons rfl (.cons rfl (.cons rfl .nil))))))) rfl rfl ?_
     refine JL.run (.yes rfl (ltB rfl) rfl hc4) (op_nilCheck lb (.tmp rfl) (fun e v h => by subst h; rfl)) ?_
     refine JL.run (.yes rfl (ltB rfl) rfl hc4) (op_fieldAddr (off := 1) lb tf57_1 (.tmp rfl)) ?_
     refine JL.run (.yes rfl (ltB rfl) rfl hc4) (op_loadS (j := 0) lb tS3 (.tmp rfl) rfl (Comp.trans (Comp.self (rP (rW (MPV go_9)) (rP (rI .i64) (rP (rI .i64) r0))) ((), (ends_5, (lost_6, ())))) (Comp.at' (Comp.inS (Comp.inF (Comp.self (rI .i64) ends_5) (Nat.le_of_ble_eq_true rfl))) (by rfl : _ = 1)) (Nat.le_of_ble_eq_true rfl)) rfl rfl) ?_
     replace hx1 := lt1_inv hx1
     obtain ⟨v_15, hv_v_15, hx1⟩ := hx1
     refine JL.run (.yes rfl (ltB rfl) rfl hc4) (op_cmpI lb (HasO.cnd (.tmp rfl) (notT hc4)) (.tmp rfl) (congrArg some hv_v_15)) ?_
     refine jc (op_pickF lb (.tmp rfl) hc4 (.tmp rfl)) ?_
     refine jc (op_move lb (.tmp rfl)) ?_
     refine JL.cnd (sv := ov (S (rI .i64) a_2)) (Guard.isF (ltB rfl) rfl rfl) rfl (ltB rfl) (fun hq_5 => op_move lb (.tmp rfl)) ?_
     replace hx1 := lt1_inv hx1
     obtain ⟨v_16, hv_v_16, hx1⟩ := hx1
     refine JL.cnd (sv := ov (S rB v_16)) (Guard.isF (ltB rfl) rfl rfl) rfl (ltB rfl) (fun hq_6 => op_cmpI lb (HasO.cnd (.tmp rfl) (notT (notF hq_6))) .cI (congrArg some hv_v_16)) ?_
     replace hx1 := lt1_inv hx1
     obtain ⟨v_17, hv_v_17, hx1⟩ := hx1
     refine jc (op_pickCS lb (.tmp rfl) (fun hb7 => .cB) (fun hb7 => (HasO.cnd (.tmp rfl) (notT hb7))) hv_v_17) ?_
     refine jc (op_move lb (.tmp rfl)) ?_
     refine JL.cnd (sv := ov (S (rI .i64) a_2)) (Guard.isF (ltB rfl) rfl rfl) rfl (ltB rfl) (fun hq_8 => op_move lb (.tmp rfl)) ?_
     replace hx1 := iteB_inv hx1
     rcases hx1 with ⟨hc10, hx1⟩ | ⟨hc10, hx1⟩
     · refine JL.skip (.no rfl (ltB rfl) rfl hc10) (fun d h => by cases h; exact ltB rfl) ?_
       refine JL.skip (.no rfl (ltB rfl) rfl hc10) (fun d h => by cases h; exact ltB rfl) ?_
       refine JL.skip (.no rfl (ltB rfl) rfl hc10) (fun d h => by cases h; exact ltB rfl) ?_
       refine JL.skip (.no rfl (ltB rfl) rfl hc10) (fun d h => by cases h; exact ltB rfl) ?_
       refine JL.skip (.no rfl (ltB rfl) rfl hc10) (fun d h => by cases h; exact ltB rfl) ?_
       refine jc (op_pickT lb (.tmp rfl) hc10 .cB) ?_
       refine JL.sub ⟨[(0, ov (PTR gb_7 0)), (1, ov (S (rI .i64) a_1)), (2, ov (S (rI .i64) a_2)), (3, ov (HDX go_11 (o_3 * 1) n_4)), (35, ov (S rB true))], [cvar gb_7 (rP (rW (MPV go_9)) (rP (rI .i64) (rP (rI .i64) r0))) ((), (ends_5, (lost_6, ()))), cmap go_9 (A r_net_pair) (S (rL (rL (rU UInt8)))) (some x_8), cown go_11 (rU UInt8) x_10 0 gc_12], []⟩ (.cons rfl (.cons rfl (.cons rfl (.cons rfl (.cons rfl .nil))))) rfl rfl ?_
       refine jc (op_move lb (.tmp rfl)) ?_
       refine JL.skip (.no rfl (ltB rfl) rfl rfl) (fun d h => by cases h; exact ltB rfl) ?_
       refine JL.skip (.no rfl (ltB rfl) rfl rfl) (fun d h => by cases h; exact ltB rfl) ?_
       refine JL.skip (.no rfl (ltB rfl) rfl rfl) (fun d h => by cases h; exact ltB rfl) ?_
       refine jc (op_pickT lb (.tmp rfl) rfl .cB) ?_
       refine jc (op_move lb (.tmp rfl)) ?_
       refine JL.skip (.no rfl (ltB rfl) rfl rfl) (fun d h => by cases h; exact ltB rfl) ?_
       refine JL.skip (.no rfl (ltB rfl) rfl rfl) (fun d h => by cases h; exact ltB rfl) ?_
       refine JL.skip (.no rfl (ltB rfl) rfl rfl) (fun d h => by cases h; exact ltB rfl) ?_
       refine jc (op_pickT lb (.tmp rfl) rfl .cB) ?_
       refine jc (op_assign lb (.tmp rfl)) ?_
       refine JL.nil ?_
       replace hx1 := Option.some.inj hx1
       first | subst hx1 | clear hx1
       exact JQ.join () (Imp.norm (js := [0, 0, 0]) rfl (.cons rfl (.cons rfl (.cons rfl (.cons rfl (.cons rfl .nil))))))
     · refine JL.run (.yes rfl (ltB rfl) rfl hc10) (op_move lb (.tmp rfl)) ?_
       refine JL.sub ⟨[(0, ov (PTR gb_7 0)), (1, ov (S (rI .i64) a_1)), (2, ov (S (rI .i64) a_2)), (3, ov (HDX go_11 (o_3 * 1) n_4)), (28, ov (S rB v_17)), (29, bif (!v_17) then ov (S (rI .i64) a_2) else .one .und), (30, ov (PTR gb_7 0))], [cvar gb_7 (rP (rW (MPV go_9)) (rP (rI .i64) (rP (rI .i64) r0))) ((), (ends_5, (lost_6, ()))), cmap go_9 (A r_net_pair) (S (rL (rL (rU UInt8)))) (some x_8), cown go_11 (rU UInt8) x_10 0 gc_12], []⟩ (.cons rfl (.cons rfl (.cons rfl (.cons rfl (.cons rfl (.cons rfl (.cons rfl .nil))))))) rfl rfl ?_
       refine JL.run (.yes rfl (ltB rfl) rfl hc10) (op_nilCheck lb (.tmp rfl) (fun e v h => by subst h; rfl)) ?_
       refine JL.run (.yes rfl (ltB rfl) rfl hc10) (op_fieldAddr (off := 1) lb tf57_1 (.tmp rfl)) ?_
       refine JL.run (.yes rfl (ltB rfl) rfl hc10) (op_loadS (j := 0) lb tS3 (.tmp rfl) rfl (Comp.trans (Comp.self (rP (rW (MPV go_9)) (rP (rI .i64) (rP (rI .i64) r0))) ((), (ends_5, (lost_6, ())))) (Comp.at' (Comp.inS (Comp.inF (Comp.self (rI .i64) ends_5) (Nat.le_of_ble_eq_true rfl))) (by rfl : _ = 1)) (Nat.le_of_ble_eq_true rfl)) rfl rfl) ?_
       replace hx1 := lt1_inv hx1
       obtain ⟨v_18, hv_v_18, hx1⟩ := hx1
       refine JL.run (.yes rfl (ltB rfl) rfl hc10) (op_cmpI lb (HasO.cnd (.tmp rfl) (notT hc10)) (.tmp rfl) (congrArg some hv_v_18)) ?_
       refine jc (op_pickF lb (.tmp rfl) hc10 (.tmp rfl)) ?_
       refine jc (op_move lb (.tmp rfl)) ?_
       refine JL.cnd (sv := ov (S (rI .i64) a_1)) (Guard.isF (ltB rfl) rfl rfl) rfl (ltB rfl) (fun hq_11 => op_move lb (.tmp rfl)) ?_
       refine JL.cnd (sv := ov (S (rI .i64) a_2)) (Guard.isF (ltB rfl) rfl rfl) rfl (ltB rfl) (fun hq_12 => op_move lb (.tmp rfl)) ?_
       replace hx1 := lt1_inv hx1
       obtain ⟨v_19, hv_v_19, hx1⟩ := hx1
       refine JL.cnd (sv := ov (S rB v_19)) (Guard.isF (ltB rfl) rfl rfl) rfl (ltB rfl) (fun hq_13 => op_cmpI lb (HasO.cnd (.tmp rfl) (notT (notF hq_13))) (HasO.cnd (.tmp rfl) (notT (notF hq_13))) (congrArg some hv_v_19)) ?_
       replace hx1 := lt1_inv hx1
       obtain ⟨v_20, hv_v_20, hx1⟩ := hx1
       refine jc (op_pickCS lb (.tmp rfl) (fun hb14 => .cB) (fun hb14 => (HasO.cnd (.tmp rfl) (notT hb14))) hv_v_20) ?_
       refine jc (op_move lb (.tmp rfl)) ?_
       replace hx1 := iteB_inv hx1
       rcases hx1 with ⟨hc16, hx1⟩ | ⟨hc16, hx1⟩
       · refine JL.skip (.no rfl (ltB rfl) rfl hc16) (fun d h => by cases h; exact ltB rfl) ?_
         refine JL.skip (.no rfl (ltB rfl) rfl hc16) (fun d h => by cases h; exact ltB rfl) ?_
         refine JL.skip (.no rfl (ltB rfl) rfl hc16) (fun d h => by cases h; exact ltB rfl) ?_
         refine jc (op_pickT lb (.tmp rfl) hc16 .cB) ?_
         refine JL.sub ⟨[(0, ov (PTR gb_7 0)), (1, ov (S (rI .i64) a_1)), (2, ov (S (rI .i64) a_2)), (3, ov (HDX go_11 (o_3 * 1) n_4)), (45, ov (S rB true))], [cvar gb_7 (rP (rW (MPV go_9)) (rP (rI .i64) (rP (rI .i64) r0))) ((), (ends_5, (lost_6, ()))), cmap go_9 (A r_net_pair) (S (rL (rL (rU UInt8)))) (some x_8), cown go_11 (rU UInt8) x_10 0 gc_12], []⟩ (.cons rfl (.cons rfl (.cons rfl (.cons rfl (.cons rfl .nil))))) rfl rfl ?_
         refine jc (op_assign lb (.tmp rfl)) ?_
         refine JL.nil ?_
         replace hx1 := Option.some.inj hx1
         first | subst hx1 | clear hx1
         exact JQ.join () (Imp.norm (js := [0, 0, 0]) rfl (.cons rfl (.cons rfl (.cons rfl (.cons rfl (.cons rfl .nil))))))
       · refine JL.run (.yes rfl (ltB rfl) rfl hc16) (op_move lb (.tmp rfl)) ?_
         refine JL.sub ⟨[(0, ov (PTR gb_7 0)), (1, ov (S (rI .i64) a_1)), (2, ov (S (rI .i64) a_2)), (3, ov (HDX go_11 (o_3 * 1) n_4)), (41, ov (S rB v_20)), (42, ov (HDX go_11 (o_3 * 1) n_4))], [cvar gb_7 (rP (rW (MPV go_9)) (rP (rI .i64) (rP (rI .i64) r0))) ((), (ends_5, (lost_6, ()))), cmap go_9 (A r_net_pair) (S (rL (rL (rU UInt8)))) (some x_8), cown go_11 (rU UInt8) x_10 0 gc_12], []⟩ (.cons rfl (.cons rfl (.cons rfl (.cons rfl (.cons rfl (.cons rfl .nil)))))) rfl rfl ?_
         refine JL.run (.yes rfl (ltB rfl) rfl hc16) (op_lenX lb tu31 (.tmp rfl)) ?_
         replace hx1 := lt1_inv hx1
         obtain ⟨v_21, hv_v_21, hx1⟩ := hx1
         refine JL.run (.yes rfl (ltB rfl) rfl hc16) (op_cmpI lb (.tmp rfl) .cI (congrArg some hv_v_21)) ?_
         refine jc (op_pickF lb (.tmp rfl) hc16 (.tmp rfl)) ?_
         refine jc (op_assign lb (.tmp rfl)) ?_
         refine JL.nil ?_
         replace hx1 := Option.some.inj hx1
         first | subst hx1 | clear hx1
         exact JQ.join () (Imp.norm (js := [0, 0, 0]) rfl (.cons rfl (.cons rfl (.cons rfl (.cons rfl (.cons rfl .nil))))))

theorem sim_net_Net_Clear (k : Nat) (end_1 : Int) (ends_2 : Int) (lost_3 : Int) (x_5 : (List (net_pair × (List (List UInt8))))) (gb_4 : Nat) (go_6 : Option Nat) (r : Int × (List (net_pair × (List (List UInt8))))) (hm : net_Net_Clear k end_1 ends_2 lost_3 x_5 = some r) : Sim Try.prog 20 [PTR gb_4 0, S (rI .i64) end_1] [cvar gb_4 (rP (rW (MPV go_6)) (rP (rI .i64) (rP (rI .i64) r0))) ((), (ends_2, (lost_3, ()))), cmap go_6 (A r_net_pair) (S (rL (rL (rU UInt8)))) (some x_5)] (γ := Unit) (fun q => [cvar gb_4 (rP (rW (MPV go_6)) (rP (rI .i64) (rP (rI .i64) r0))) ((), (ends_2, (lost_3, ()))), cmap go_6 (A r_net_pair) (S (rL (rL (rU UInt8)))) (some r.2)]) (fun q => .one (.val (S (rI .i64) r.1))) := by
 unfold net_Net_Clear at hm
 refine Sim.of Try.func20 rfl rfl (Nat.le_of_ble_eq_true rfl) (fun e0 w0 => ?_)
 refine JC.at ⟨[(0, ov (PTR gb_4 0)), (1, ov (S (rI .i64) end_1))], [cvar gb_4 (rP (rW (MPV go_6)) (rP (rI .i64) (rP (rI .i64) r0))) ((), (ends_2, (lost_3, ()))), cmap go_6 (A r_net_pair) (S (rL (rL (rU UInt8)))) (some x_5)], []⟩ ?_
 refine JC.seq ?_
 refine JC.region ?_
 refine jc (op_assign lb .cI) ?_
 refine JL.nil ?_
 refine JQ.then ?_
 refine JC.seq ?_
 refine JC.region ?_
 refine jc (op_assign lb .cI) ?_
 refine JL.nil ?_
 refine JQ.then ?_
 replace hm := bnd_inv hm
 obtain ⟨⟨c_18, x_19⟩, hx1, hq1⟩ := hm
 refine JC.seqJ (γ := Unit) (stj := fun q => ⟨[(5, ov (S (rI .i64) c_18))], [cvar gb_4 (rP (rW (MPV go_6)) (rP (rI .i64) (rP (rI .i64) r0))) ((), (ends_2, (lost_3, ()))), cmap go_6 (A r_net_pair) (S (rL (rL (rU UInt8)))) (some x_19)], []⟩) (fun q => ?_) ?_
 · obtain _ := q
   refine JC.at ⟨[(5, ov (S (rI .i64) c_18))], [cvar gb_4 (rP (rW (MPV go_6)) (rP (rI .i64) (rP (rI .i64) r0))) ((), (ends_2, (lost_3, ()))), cmap go_6 (A r_net_pair) (S (rL (rL (rU UInt8)))) (some x_19)], []⟩ ?_
   refine JC.seq ?_
   refine JC.region ?_
   refine jc (op_move lb (.tmp rfl)) ?_
   refine jc (op_assign lb (.tmp rfl)) ?_
   refine JL.nil ?_
   refine JQ.then ?_
   refine JC.ret ?_
   replace hq1 := Option.some.inj hq1
   subst hq1
   exact JQ.done (js := [0, 0]) (ss := [.val (S (rI .i64) c_18)]) () (.inl rfl) (.nil rfl) rfl (.cons (.tmp rfl) .nil) rfl rfl rfl
 · refine JC.seq ?_
   refine JC.region ?_
   refine jc (op_move lb (.tmp rfl)) ?_
   replace hx1 := bnd_inv hx1
   obtain ⟨_, hv_u_7, hx1⟩ := hx1
   refine jx (op_call (js := [0, 0]) ld cl29 (sim_net_Net_there k ends_2 lost_3 x_5 gb_4 go_6 () hv_u_7) .func (.cons (.tmp rfl) .nil) rfl) (fun _ => ?_)
   refine JL.nil ?_
   refine JQ.then ?_
   refine JC.condT (.tmp rfl) rfl ?_
   refine JC.seq ?_
   refine JC.region ?_
   refine jc (op_move lb (.tmp rfl)) ?_
   refine jc (op_nilCheck lb (.tmp rfl) (fun e v h => by subst h; rfl)) ?_
   refine jc (op_fieldAddr (off := 0) lb tf57_0 (.tmp rfl)) ?_
   refine jc (op_loadW (j := 0) lb tS55 (.tmp rfl) rfl (Comp.trans (Comp.self (rP (rW (MPV go_6)) (rP (rI .i64) (rP (rI .i64) r0))) ((), (ends_2, (lost_3, ())))) (Comp.at' (Comp.inF (Comp.self (rW (MPV go_6)) ()) (Nat.le_of_ble_eq_true rfl)) (by rfl : _ = 0)) (Nat.le_of_ble_eq_true rfl))) ?_
   refine jx (op_range (j := 1) lb tu55 rfl (.tmp rfl)) (fun q => ?_)
   obtain ⟨gr_8, hqq⟩ : ∃ z, z = q := ⟨_, rfl⟩
   subst hqq
   refine JL.sub ⟨[(0, ov (PTR gb_4 0)), (1, ov (S (rI .i64) end_1)), (5, ov (S (rI .i64) (0 : Int))), (14, ov (PTR gr_8 0))], [cvar gb_4 (rP (rW (MPV go_6)) (rP (rI .i64) (rP (rI .i64) r0))) ((), (ends_2, (lost_3, ()))), cmapI go_6 gr_8 (A r_net_pair) (S (rL (rL (rU UInt8)))) (some x_5) (Option.getD (some x_5) []) none], []⟩ (.cons rfl (.cons rfl (.cons rfl (.cons rfl .nil)))) rfl rfl ?_
   refine JL.nil ?_
   refine JQ.then ?_
   refine JC.block ?_
   refine JC.pre ?_ (JC.mloop (γ := Unit) (stf := fun s rem q => ⟨[(0, ov (PTR gb_4 0)), (1, ov (S (rI .i64) end_1)), (5, ov (S (rI .i64) s.2)), (14, ov (PTR gr_8 0))], [cvar gb_4 (rP (rW (MPV go_6)) (rP (rI .i64) (rP (rI .i64) r0))) ((), (ends_2, (lost_3, ()))), cmapI go_6 gr_8 (A r_net_pair) (S (rL (rL (rU UInt8)))) (some s.1) rem none], []⟩) (q := ()) hx1 ?_)
   · exact (Imp.norm (js := [0, 0]) rfl (.cons rfl (.cons rfl (.cons rfl (.cons rfl .nil)))))
   · intro s rem_9 q hf
     obtain ⟨x_10, c_11⟩ := s
     obtain _ := q
     refine JC.at ⟨[(0, ov (PTR gb_4 0)), (1, ov (S (rI .i64) end_1)), (5, ov (S (rI .i64) c_11)), (14, ov (PTR gr_8 0))], [cvar gb_4 (rP (rW (MPV go_6)) (rP (rI .i64) (rP (rI .i64) r0))) ((), (ends_2, (lost_3, ()))), cmapI go_6 gr_8 (A r_net_pair) (S (rL (rL (rU UInt8)))) (some x_10) rem_9 none], []⟩ ?_
     refine JC.seq ?_
     refine JC.region ?_
     refine JL.next (j := 1) lb rfl (.tmp rfl) (fun h0 => ?_) (fun e_12 rem_13 hp => ?_)
     · subst h0
       replace hf := foldO_end hf
       change net_Net_Clear.f1 k x_10 c_11 = some _ at hf
       unfold net_Net_Clear.f1 at hf
       refine jc (op_extract (i := 0) lb (.tmp rfl) rfl) ?_
       refine JL.nil ?_
       refine JQ.then ?_
       refine JC.seq ?_
       refine JC.condF (.tmp rfl) rfl ?_
       refine JC.exit ?_
       refine JQ.outX ?_
       have ht := Option.some.inj hf
       have hr := ht
       have hq2 := congrArg some ht
       clear hr ht
       refine JQ.outX ?_
       refine JQ.pre (Imp.endIt (j := 1) rfl) ?_
       refine JQ.here ?_
       replace hq2 := Option.some.inj hq2
       replace hq2 := Prod.mk.inj hq2
       obtain ⟨hq2_a, hq2⟩ := hq2
       first | subst hq2_a | clear hq2_a
       first | subst hq2 | clear hq2
       exact JQ.join () (Imp.norm (js := [0, 0]) rfl (.cons rfl .nil))
     · obtain ⟨x, hx, hr, hn⟩ := foldO_step hf hp
       change net_Net_Clear.b1 k end_1 x_10 c_11 e_12 = some x at hx
       unfold net_Net_Clear.b1 at hx
       refine jc (op_extract (i := 0) lb (.tmp rfl) rfl) ?_
       refine JL.nil ?_
       refine JQ.then ?_
       refine JC.seq ?_
       refine JC.condT (.tmp rfl) rfl ?_
       refine JC.skip ?_
       refine JQ.then ?_
       refine JC.block ?_
       refine JC.seq ?_
       refine JC.region ?_
       refine jc (op_entry (j := 1) lb rfl (.tmp rfl)) ?_
       refine jc (op_extract (i := 0) lb (.tmp rfl) rfl) ?_
       refine jc (op_extract (i := 1) lb (.tmp rfl) rfl) ?_
       refine jx (op_alloc lb tZ60 zr60) (fun q => ?_)
       obtain ⟨gb_14, hqq⟩ : ∃ z, z = q := ⟨_, rfl⟩
       subst hqq
       refine jc (op_storeA (j := 2) tA60 (.tmp rfl) (.tmp rfl) rfl (UpdR.self (by rfl)) rfl) ?_
       refine jc (op_assign lb (.tmp rfl)) ?_
       refine JL.nil ?_
       refine JQ.then ?_
       refine JC.seq ?_
       refine JC.region ?_
       refine jc (op_fieldAddr (off := 1) lb tf60_1 (.tmp rfl)) ?_
       refine JL.sub ⟨[(0, ov (PTR gb_4 0)), (1, ov (S (rI .i64) end_1)), (5, ov (S (rI .i64) c_11)), (6, ov (PTR gb_14 0)), (7, ov (S (rL (rL (rU UInt8))) e_12.2)), (14, ov (PTR gr_8 0)), (20, ov (PTR gb_14 (0 + 1)))], [cvar gb_4 (rP (rW (MPV go_6)) (rP (rI .i64) (rP (rI .i64) r0))) ((), (ends_2, (lost_3, ()))), cmapI go_6 gr_8 (A r_net_pair) (S (rL (rL (rU UInt8)))) (some x_10) rem_13 (some e_12), cvar gb_14 r_net_pair e_12.1], []⟩ (.cons rfl (.cons rfl (.cons rfl (.cons rfl (.cons rfl (.cons rfl (.cons rfl .nil))))))) rfl rfl ?_
       refine jc (op_loadS (j := 2) lb tS3 (.tmp rfl) rfl (Comp.trans (Comp.self r_net_pair e_12.1) (comp_net_pair_to e_12.1) (Nat.le_of_ble_eq_true rfl)) rfl rfl) ?_
       refine jc (op_move lb (.tmp rfl)) ?_
       replace hx := lt1_inv hx
       obtain ⟨v_15, hv_v_15, hx⟩ := hx
       refine jc (op_cmpI lb (.tmp rfl) (.tmp rfl) (congrArg some hv_v_15)) ?_
       refine JL.nil ?_
       refine JQ.then ?_
       replace hx := iteB_inv hx
       rcases hx with ⟨hc3, hx⟩ | ⟨hc3, hx⟩
       · refine JC.condT (.tmp rfl) hc3 ?_
         refine JC.seq ?_
         refine JC.region ?_
         refine jc (op_move lb (.tmp rfl)) ?_
         refine jc (op_move lb (.tmp rfl)) ?_
         refine jc (op_lenL lb tu58 (.tmp rfl)) ?_
         replace hx := lt1_inv hx
         obtain ⟨v_16, hv_v_16, hx⟩ := hx
         refine jc (op_arI lb (.tmp rfl) (.tmp rfl) (congrArg some hv_v_16)) ?_
         refine jc (op_assign lb (.tmp rfl)) ?_
         refine JL.nil ?_
         refine JQ.then ?_
         replace hx := lt1_inv hx
         obtain ⟨x_17, hv_x_17, hx⟩ := hx
         refine JC.anyE (kl := []) (kk := 0) (base := [(0, ov (PTR gb_4 0)), (1, ov (S (rI .i64) end_1)), (5, ov (S (rI .i64) v_16)), (6, ov (PTR gb_14 0)), (14, ov (PTR gr_8 0))])
             (fs := fun γ => [⟨some 28, ov (PTR gb_4 0)⟩, ⟨some 29, ov (PTR gb_4 0)⟩, ⟨some 30, ov (PTR gb_4 (0 + 0))⟩, ⟨some 31, ov (MPV go_6)⟩, ⟨some 32, ov (A r_net_pair e_12.1)⟩, ⟨none, .one .any⟩])
             (rs := fun γ => [⟨cvar gb_4 (rP (rW (MPV go_6)) (rP (rI .i64) (rP (rI .i64) r0))) ((), (ends_2, (lost_3, ()))), none, none, [3]⟩, ⟨cmapI go_6 gr_8 (A r_net_pair) (S (rL (rL (rU UInt8)))) (some x_10) rem_13 (some e_12), none, (some 5), []⟩, ⟨cvar gb_14 r_net_pair e_12.1, none, none, [4]⟩, ⟨cmapI go_6 gr_8 (A r_net_pair) (S (rL (rL (rU UInt8)))) (some x_17) rem_13 none, (some 5), none, []⟩])
             (ds := [28, 29, 30, 31, 32]) (bs := [0, 1, 5, 6, 14]) (afts := [[], [], [], [], [], []]) (js := [0, 0, 0]) mixed (.cons rfl (.cons rfl (.cons rfl (.cons rfl (.cons rfl .nil))))) (fun _ => rfl)
             (by
      refine dS 1 (fun γ ρ B hb hd => op_move lb (.tmp (hb 0 _ rfl))) ?_
      refine dS 2 (fun γ ρ B hb hd => op_nilCheck lb (.tmp (hl hd 0 28 rfl)) (fun e v h => by subst h; rfl)) ?_
      refine dS 3 (fun γ ρ B hb hd => op_fieldAddr (off := 0) lb tf57_0 (.tmp (hl hd 1 29 rfl))) ?_
      refine DSteps.cons (j := 4) rfl (fun _ => rfl) (.run (fun γ ρ B hb hd => ⟨.none, OpStep.at ⟨ρ, (cvar gb_4 (rP (rW (MPV go_6)) (rP (rI .i64) (rP (rI .i64) r0))) ((), (ends_2, (lost_3, ())))) :: B, _⟩ (setO ⟨ρ, (cvar gb_4 (rP (rW (MPV go_6)) (rP (rI .i64) (rP (rI .i64) r0))) ((), (ends_2, (lost_3, ())))) :: B, _⟩ _ _) (op_loadW (j := 0) lb tS55 (.tmp (hl hd 2 30 rfl)) rfl (Comp.trans (Comp.self (rP (rW (MPV go_6)) (rP (rI .i64) (rP (rI .i64) r0))) ((), (ends_2, (lost_3, ())))) (Comp.at' (Comp.inF (Comp.self (rW (MPV go_6)) ()) (Nat.le_of_ble_eq_true rfl)) (by rfl : _ = 0)) (Nat.le_of_ble_eq_true rfl)))⟩)) ?_
      refine DSteps.cons (j := 5) rfl (fun _ => rfl) (.run (fun γ ρ B hb hd => ⟨.none, OpStep.at ⟨ρ, (cvar gb_14 r_net_pair e_12.1) :: B, _⟩ (setO ⟨ρ, (cvar gb_14 r_net_pair e_12.1) :: B, _⟩ _ _) (op_loadA (j := 0) lb tA60 (.tmp (hb 6 _ rfl)) rfl (Comp.self r_net_pair e_12.1) rfl)⟩)) ?_
      refine DSteps.cons (j := 6) rfl (fun _ => rfl) (.run (fun γ ρ B hb hd => ⟨.none, OpStep.at ⟨ρ, (cmapI go_6 gr_8 (A r_net_pair) (S (rL (rL (rU UInt8)))) (some x_10) rem_13 (some e_12)) :: B, _⟩ (setO ⟨ρ, (cmapI go_6 gr_8 (A r_net_pair) (S (rL (rL (rU UInt8)))) (some x_17) rem_13 none) :: B, _⟩ _ _) (op_deleteI (j := 0) rfl tu55 ky60 rfl (.tmp (hl hd 3 31 rfl)) (.tmp (hl hd 4 32 rfl)) rfl (congrArg some hv_x_17))⟩)) ?_
      exact DSteps.nil)
             (by decide +kernel) (fun _ => rfl) rfl (fun _ => rfl) (fun _ => rfl) rfl (by decide) (by decide) (by decide +kernel) (fun _ d h => by cases h)
             (ρ' := fun γ => [(0, ov (PTR gb_4 0)), (1, ov (S (rI .i64) end_1)), (5, ov (S (rI .i64) v_16)), (14, ov (PTR gr_8 0))])
             (X' := fun γ => [cvar gb_4 (rP (rW (MPV go_6)) (rP (rI .i64) (rP (rI .i64) r0))) ((), (ends_2, (lost_3, ()))), cvar gb_14 r_net_pair e_12.1, cmapI go_6 gr_8 (A r_net_pair) (S (rL (rL (rU UInt8)))) (some x_17) rem_13 none])
             (fun γ ρ hb hd => (.cons (hb 0 _ rfl (by decide)) (.cons (hb 1 _ rfl (by decide)) (.cons (hb 5 _ rfl (by decide)) (.cons (hb 14 _ rfl (by decide)) .nil))))) (fun _ => rfl) (fun γ => ?_)
         refine JQ.at ⟨[(0, ov (PTR gb_4 0)), (1, ov (S (rI .i64) end_1)), (5, ov (S (rI .i64) v_16)), (14, ov (PTR gr_8 0))], [cvar gb_4 (rP (rW (MPV go_6)) (rP (rI .i64) (rP (rI .i64) r0))) ((), (ends_2, (lost_3, ()))), cvar gb_14 r_net_pair e_12.1, cmapI go_6 gr_8 (A r_net_pair) (S (rL (rL (rU UInt8)))) (some x_17) rem_13 none], []⟩ ?_
         refine JQ.outNB ?_
         replace hx := Option.some.inj hx
         first | subst hx | clear hx
         exact JQ.mnext () hp (hn _ rfl) (Imp.norm (js := [0, 1]) rfl (.cons rfl (.cons rfl (.cons rfl (.cons rfl .nil)))))
       · refine JC.condF (.tmp rfl) hc3 ?_
         refine JC.skip ?_
         refine JQ.outNB ?_
         replace hx := Option.some.inj hx
         first | subst hx | clear hx
         refine JQ.pre (Imp.forget (j := 1) rfl) ?_
         exact JQ.mnext () hp (hn _ rfl) (Imp.norm (js := [0, 0]) rfl (.cons rfl (.cons rfl (.cons rfl (.cons rfl .nil)))))

end Go.Proofs.Ytnadeehdnmgebaa
