/- Walks. -/
import Derived.Test.YtnadeehdnmgebaaT
import Derived.Test.YtnadeehdnmgebaaW0
import Derived.Test.YtnadeehdnmgebaaW8
import Derived.Test.YtnadeehdnmgebaaW9
namespace Go.Proofs.Ytnadeehdnmgebaa
open Go Fw
set_option linter.unusedVariables false
set_option maxRecDepth 100000
set_option maxHeartbeats 4000000

theorem sim_ref12_Net_Send'2 (k : Nat) (from_1 : Int) (to_2 : Int) (b_3 : (List UInt8)) (Ends_4 : Int) (Lost_5 : Int) (x_7 : (List api_Flight)) (gb_6 : Nat) (go_8 : Option Nat) (gc_9 : Nat) (r : Int × (List api_Flight) × Int) (hm : ref12_Net_Send'2 k from_1 to_2 b_3 Ends_4 Lost_5 x_7 = some r) : Sim Try.prog 34 [PTR gb_6 0, S (rI .i64) from_1, S (rI .i64) to_2, S (rL (rU UInt8)) b_3] [cvar gb_6 (rP (rW (HDR go_8 0 (List.length x_7) gc_9)) (rP (rI .i64) (rP (rI .i64) r0))) ((), (Ends_4, (Lost_5, ()))), cown go_8 r_api_Flight x_7 0 gc_9] (γ := Option Nat × Nat) (fun q => [cvar gb_6 (rP (rW (HDR q.1 0 (List.length r.2.1) q.2)) (rP (rI .i64) (rP (rI .i64) r0))) ((), (Ends_4, (r.2.2, ()))), cown q.1 r_api_Flight r.2.1 0 q.2]) (fun q => .one (.val (S (rI .i64) r.1))) := by
 unfold ref12_Net_Send'2 at hm
 refine Sim.of Try.func34 rfl rfl (Nat.le_of_ble_eq_true rfl) (fun e0 w0 => ?_)
 refine JC.at ⟨[(0, ov (PTR gb_6 0)), (1, ov (S (rI .i64) from_1)), (2, ov (S (rI .i64) to_2)), (3, ov (S (rL (rU UInt8)) b_3))], [cvar gb_6 (rP (rW (HDR go_8 0 (List.length x_7) gc_9)) (rP (rI .i64) (rP (rI .i64) r0))) ((), (Ends_4, (Lost_5, ()))), cown go_8 r_api_Flight x_7 0 gc_9], []⟩ ?_
 refine JC.seq ?_
 refine JC.region ?_
 refine jc (op_assign lb .cI) ?_
 refine JL.nil ?_
 refine JQ.then ?_
 refine JC.seq ?_
 replace hm := bnd_inv hm
 obtain ⟨x_19, hx1, hq1⟩ := hm
 refine JC.seqJ (γ := Unit) (stj := fun q => ⟨[(0, ov (PTR gb_6 0)), (1, ov (S (rI .i64) from_1)), (2, ov (S (rI .i64) to_2)), (3, ov (S (rL (rU UInt8)) b_3)), (40, ov (S rB x_19))], [cvar gb_6 (rP (rW (HDR go_8 0 (List.length x_7) gc_9)) (rP (rI .i64) (rP (rI .i64) r0))) ((), (Ends_4, (Lost_5, ()))), cown go_8 r_api_Flight x_7 0 gc_9], []⟩) (fun q => ?_) ?_
 · obtain _ := q
   refine JC.at ⟨[(0, ov (PTR gb_6 0)), (1, ov (S (rI .i64) from_1)), (2, ov (S (rI .i64) to_2)), (3, ov (S (rL (rU UInt8)) b_3)), (40, ov (S rB x_19))], [cvar gb_6 (rP (rW (HDR go_8 0 (List.length x_7) gc_9)) (rP (rI .i64) (rP (rI .i64) r0))) ((), (Ends_4, (Lost_5, ()))), cown go_8 r_api_Flight x_7 0 gc_9], []⟩ ?_
   replace hq1 := iteB_inv hq1
   rcases hq1 with ⟨hc19, hq1⟩ | ⟨hc19, hq1⟩
   · refine JC.condT (.tmp rfl) hc19 ?_
     refine JC.seq ?_
     refine JC.region ?_
     refine jc (op_assign lb .cI) ?_
     refine JL.nil ?_
     refine JQ.then ?_
     refine JC.ret ?_
     refine JQ.outR ?_
     replace hq1 := Option.some.inj hq1
     subst hq1
     exact JQ.done (js := [0, 0]) (ss := [.val (S (rI .i64) (2 : Int))]) (go_8, gc_9) (.inl rfl) (.nil rfl) rfl (.cons (.tmp rfl) .nil) rfl rfl rfl
   · refine JC.condF (.tmp rfl) hc19 ?_
     refine JC.skip ?_
     refine JQ.then ?_
     refine JC.seq ?_
     refine JC.seq ?_
     refine JC.region ?_
     refine jc (op_move lb (.tmp rfl)) ?_
     refine jc (op_move lb (.tmp rfl)) ?_
     refine jc (op_move lb (.tmp rfl)) ?_
     replace hq1 := bnd_inv hq1
     obtain ⟨v_20, hv_v_20, hq1⟩ := hq1
     refine jx (op_call (js := [0, 0]) ld cl39 (sim_ref12_Net_Line'2 k from_1 to_2 Ends_4 Lost_5 x_7 gb_6 go_8 gc_9 v_20 hv_v_20) .func (.cons (.tmp rfl) (.cons (.tmp rfl) (.cons (.tmp rfl) .nil))) rfl) (fun _ => ?_)
     replace hq1 := lt1_inv hq1
     obtain ⟨v_21, hv_v_21, hq1⟩ := hq1
     refine jc (op_cmpI lb (.tmp rfl) .cI (congrArg some hv_v_21)) ?_
     refine JL.nil ?_
     refine JQ.then ?_
     replace hq1 := iteB_inv hq1
     rcases hq1 with ⟨hc20, hq1⟩ | ⟨hc20, hq1⟩
     · refine JC.condT (.tmp rfl) hc20 ?_
       refine JC.seq ?_
       refine JC.region ?_
       refine jc (op_move lb (.tmp rfl)) ?_
       refine jc (op_nilCheck lb (.tmp rfl) (fun e v h => by subst h; rfl)) ?_
       refine jc (op_fieldAddr (off := 2) lb tf43_2 (.tmp rfl)) ?_
       refine jc (op_loadS (j := 0) lb tS3 (.tmp rfl) rfl (Comp.trans (Comp.self (rP (rW (HDR go_8 0 (List.length x_7) gc_9)) (rP (rI .i64) (rP (rI .i64) r0))) ((), (Ends_4, (Lost_5, ())))) (Comp.at' (Comp.inS (Comp.inS (Comp.inF (Comp.self (rI .i64) Lost_5) (Nat.le_of_ble_eq_true rfl)))) (by rfl : _ = 2)) (Nat.le_of_ble_eq_true rfl)) rfl rfl) ?_
       replace hq1 := lt1_inv hq1
       obtain ⟨v_22, hv_v_22, hq1⟩ := hq1
       refine jc (op_arI lb (.tmp rfl) .cI (congrArg some hv_v_22)) ?_
       refine jc (op_nilCheck lb (.tmp rfl) (fun e v h => by subst h; rfl)) ?_
       refine jc (op_fieldAddr (off := 2) lb tf43_2 (.tmp rfl)) ?_
       refine JL.sub ⟨[(50, ov (S (rI .i64) v_22)), (52, ov (PTR gb_6 (0 + 2)))], [cvar gb_6 (rP (rW (HDR go_8 0 (List.length x_7) gc_9)) (rP (rI .i64) (rP (rI .i64) r0))) ((), (Ends_4, (Lost_5, ()))), cown go_8 r_api_Flight x_7 0 gc_9], []⟩ (.cons rfl (.cons rfl .nil)) rfl rfl ?_
       refine jc (op_storeS (j := 0) tS3 (.tmp rfl) (.tmp rfl) rfl rfl ((UpdR.snd (UpdR.snd (UpdR.fst (UpdR.self (by rfl))))).at (by change (1 + (1 + 0)) = (0 + 2); omega)) rfl) ?_
       refine JL.nil ?_
       refine JQ.then ?_
       refine JC.seq ?_
       refine JC.region ?_
       refine jc (op_assign lb .cI) ?_
       refine JL.nil ?_
       refine JQ.then ?_
       refine JC.ret ?_
       refine JQ.outR ?_
       replace hq1 := Option.some.inj hq1
       subst hq1
       exact JQ.done (js := [0, 0]) (ss := [.val (S (rI .i64) (5 : Int))]) (go_8, gc_9) (.inl rfl) (.nil rfl) rfl (.cons (.tmp rfl) .nil) rfl rfl rfl
     · refine JC.condF (.tmp rfl) hc20 ?_
       refine JC.skip ?_
       refine JQ.then ?_
       refine JC.seq ?_
       refine JC.region ?_
       refine jc (op_move lb (.tmp rfl)) ?_
       refine jc (op_move lb (.tmp rfl)) ?_
       refine jc (op_move lb (.tmp rfl)) ?_
       refine jc (op_move lb (.tmp rfl)) ?_
       replace hq1 := bnd_inv hq1
       obtain ⟨v_23, hv_v_23, hq1⟩ := hq1
       refine JL.pre (Imp.nilown (rU UInt8)) ?_
       refine jx (op_appendL (j := 2) lb tu31 tu31 rfl tB5 rfl (Nat.lt_of_lt_of_le Nat.zero_lt_one (Nat.le_of_ble_eq_true rfl)) (Nat.lt_of_lt_of_le Nat.zero_lt_one (Nat.le_of_ble_eq_true rfl))  rfl HasO.nilH (.tmp rfl) hv_v_23) (fun q => ?_)
       obtain ⟨go_24, gc_25⟩ := q
       refine JL.sub ⟨[(53, ov (PTR gb_6 0)), (54, ov (S (rI .i64) from_1)), (55, ov (S (rI .i64) to_2)), (57, ov (HDR go_24 0 (List.length v_23) gc_25))], [cvar gb_6 (rP (rW (HDR go_8 0 (List.length x_7) gc_9)) (rP (rI .i64) (rP (rI .i64) r0))) ((), (Ends_4, (Lost_5, ()))), cown go_8 r_api_Flight x_7 0 gc_9, cown go_24 (rU UInt8) v_23 0 gc_25], []⟩ (.cons rfl (.cons rfl (.cons rfl (.cons rfl .nil)))) rfl rfl ?_
       refine jc (op_build lb tZ36 zr36 tp36 (.S (off := 0) rfl (.tmp rfl) rfl ((UpdR.fst (UpdR.self (by rfl))).at (by rfl)) (.S (off := 1) rfl (.tmp rfl) rfl ((UpdR.snd (UpdR.fst (UpdR.self (by rfl)))).at (by rfl)) (.S (off := 2) (s := rW (HDR go_24 0 (List.length v_23) gc_25)) (u := ()) rfl (HasO.wk (q := S (rW (HDR go_24 0 (List.length v_23) gc_25)) ()) (.tmp rfl) wkV) rfl ((UpdR.snd (UpdR.snd (UpdR.fst (UpdR.self (by rfl))))).at (by rfl)) .nil))) rfl) ?_
       replace hq1 := bnd_inv hq1
       obtain ⟨x_26, hv_x_26, hq1⟩ := hq1
       refine JL.pre (Imp.frz (j := 2) rfl (ImpK.slotH (s := 57) rfl (ImpK.slotA (s := 58) (q := (rP (rI .i64) (rP (rI .i64) (rP (rW (HL go_24 (rU UInt8) v_23 gc_25)) r0)))) (y := (from_1, (to_2, ((), ())))) rfl (Wk.pair Wk.refl (Wk.pair Wk.refl (Wk.pair Wk.own Wk.refl))) ImpK.refl))) ?_
       refine JL.pre (Imp.slotA (s := 58) rfl (Wk.st (Wk.pair Wk.refl (Wk.pair Wk.refl (Wk.pair Wk.hl Wk.refl))))) ?_
       refine jx (op_call (js := [0, 0]) ld cl42 (sim_ref12_Net_lay'2 k (api_Flight.mk from_1 to_2 v_23) Ends_4 Lost_5 x_7 gb_6 go_8 gc_9 x_26 hv_x_26) .func (.cons (.tmp rfl) (.cons (.tmp rfl) .nil)) rfl) (fun q => ?_)
       obtain ⟨go_27, gc_28⟩ := q
       refine JL.nrm ⟨[], [cvar gb_6 (rP (rW (HDR go_27 0 (List.length x_26) gc_28)) (rP (rI .i64) (rP (rI .i64) r0))) ((), (Ends_4, (Lost_5, ()))), cown go_27 r_api_Flight x_26 0 gc_28, cown go_8 r_api_Flight x_7 (List.length x_7) gc_9], []⟩ [0, 0, 0] rfl .nil rfl ?_
       refine JL.nil ?_
       refine JQ.then ?_
       refine JC.seq ?_
       refine JC.region ?_
       refine jc (op_assign lb .cI) ?_
       refine JL.nil ?_
       refine JQ.then ?_
       refine JC.ret ?_
       replace hq1 := Option.some.inj hq1
       subst hq1
       exact JQ.done (js := [0, 0]) (ss := [.val (S (rI .i64) (0 : Int))]) (go_27, gc_28) (.inl rfl) (.nil rfl) rfl (.cons (.tmp rfl) .nil) rfl rfl rfl
 · refine JC.region ?_
   refine jc (op_move lb (.tmp rfl)) ?_
   replace hx1 := lt1_inv hx1
   obtain ⟨v_10, hv_v_10, hx1⟩ := hx1
   refine jc (op_cmpI lb (.tmp rfl) .cI (congrArg some hv_v_10)) ?_
   refine jc (op_move lb (.tmp rfl)) ?_
   refine JL.cnd (sv := ov (S (rI .i64) to_2)) (Guard.isF (ltB rfl) rfl rfl) rfl (ltB rfl) (fun hq_2 => op_move lb (.tmp rfl)) ?_
   replace hx1 := lt1_inv hx1
   obtain ⟨v_11, hv_v_11, hx1⟩ := hx1
   refine JL.cnd (sv := ov (S rB v_11)) (Guard.isF (ltB rfl) rfl rfl) rfl (ltB rfl) (fun hq_3 => op_cmpI lb (HasO.cnd (.tmp rfl) (notT (notF hq_3))) .cI (congrArg some hv_v_11)) ?_
   replace hx1 := lt1_inv hx1
   obtain ⟨v_12, hv_v_12, hx1⟩ := hx1
   refine jc (op_pickCS lb (.tmp rfl) (fun hb4 => .cB) (fun hb4 => (HasO.cnd (.tmp rfl) (notT hb4))) hv_v_12) ?_
   refine jc (op_move lb (.tmp rfl)) ?_
   refine JL.cnd (sv := ov (S (rI .i64) from_1)) (Guard.isF (ltB rfl) rfl rfl) rfl (ltB rfl) (fun hq_5 => op_move lb (.tmp rfl)) ?_
   replace hx1 := iteB_inv hx1
   rcases hx1 with ⟨hc7, hx1⟩ | ⟨hc7, hx1⟩
   · refine JL.skip (.no rfl (ltB rfl) rfl hc7) (fun d h => by cases h; exact ltB rfl) ?_
     refine JL.skip (.no rfl (ltB rfl) rfl hc7) (fun d h => by cases h; exact ltB rfl) ?_
     refine JL.skip (.no rfl (ltB rfl) rfl hc7) (fun d h => by cases h; exact ltB rfl) ?_
     refine JL.skip (.no rfl (ltB rfl) rfl hc7) (fun d h => by cases h; exact ltB rfl) ?_
     refine JL.skip (.no rfl (ltB rfl) rfl hc7) (fun d h => by cases h; exact ltB rfl) ?_
     refine jc (op_pickT lb (.tmp rfl) hc7 .cB) ?_
     refine jc (op_move lb (.tmp rfl)) ?_
     refine JL.skip (.no rfl (ltB rfl) rfl rfl) (fun d h => by cases h; exact ltB rfl) ?_
     refine JL.skip (.no rfl (ltB rfl) rfl rfl) (fun d h => by cases h; exact ltB rfl) ?_
     refine JL.skip (.no rfl (ltB rfl) rfl rfl) (fun d h => by cases h; exact ltB rfl) ?_
     refine JL.skip (.no rfl (ltB rfl) rfl rfl) (fun d h => by cases h; exact ltB rfl) ?_
     refine JL.skip (.no rfl (ltB rfl) rfl rfl) (fun d h => by cases h; exact ltB rfl) ?_
     refine JL.skip (.no rfl (ltB rfl) rfl rfl) (fun d h => by cases h; exact ltB rfl) ?_
     refine jc (op_pickT lb (.tmp rfl) rfl .cB) ?_
     refine JL.sub ⟨[(0, ov (PTR gb_6 0)), (1, ov (S (rI .i64) from_1)), (2, ov (S (rI .i64) to_2)), (3, ov (S (rL (rU UInt8)) b_3)), (30, ov (S rB true))], [cvar gb_6 (rP (rW (HDR go_8 0 (List.length x_7) gc_9)) (rP (rI .i64) (rP (rI .i64) r0))) ((), (Ends_4, (Lost_5, ()))), cown go_8 r_api_Flight x_7 0 gc_9], []⟩ (.cons rfl (.cons rfl (.cons rfl (.cons rfl (.cons rfl .nil))))) rfl rfl ?_
     refine jc (op_move lb (.tmp rfl)) ?_
     refine JL.skip (.no rfl (ltB rfl) rfl rfl) (fun d h => by cases h; exact ltB rfl) ?_
     refine JL.skip (.no rfl (ltB rfl) rfl rfl) (fun d h => by cases h; exact ltB rfl) ?_
     refine JL.skip (.no rfl (ltB rfl) rfl rfl) (fun d h => by cases h; exact ltB rfl) ?_
     refine jc (op_pickT lb (.tmp rfl) rfl .cB) ?_
     refine jc (op_move lb (.tmp rfl)) ?_
     refine JL.skip (.no rfl (ltB rfl) rfl rfl) (fun d h => by cases h; exact ltB rfl) ?_
     refine JL.skip (.no rfl (ltB rfl) rfl rfl) (fun d h => by cases h; exact ltB rfl) ?_
     refine JL.skip (.no rfl (ltB rfl) rfl rfl) (fun d h => by cases h; exact ltB rfl) ?_
     refine jc (op_pickT lb (.tmp rfl) rfl .cB) ?_
     refine JL.nil ?_
     replace hx1 := Option.some.inj hx1
     first | subst hx1 | clear hx1
     refine JQ.pre (Imp.var (j := 0) (q := (rP (rW (HDR go_8 0 (List.length x_7) gc_9)) (rP (rI .i64) (rP (rI .i64) r0)))) (y := ((), (Ends_4, (Lost_5, ())))) rfl Wk.refl) ?_
     exact JQ.join () (Imp.norm (js := [0, 0]) rfl (.cons rfl (.cons rfl (.cons rfl (.cons rfl (.cons rfl .nil))))))
   · refine JL.run (.yes rfl (ltB rfl) rfl hc7) (op_move lb (.tmp rfl)) ?_
     refine JL.run (.yes rfl (ltB rfl) rfl hc7) (op_nilCheck lb (.tmp rfl) (fun e v h => by subst h; rfl)) ?_
     refine JL.run (.yes rfl (ltB rfl) rfl hc7) (op_fieldAddr (off := 1) lb tf43_1 (.tmp rfl)) ?_
     refine JL.sub ⟨[(0, ov (PTR gb_6 0)), (1, ov (S (rI .i64) from_1)), (2, ov (S (rI .i64) to_2)), (3, ov (S (rL (rU UInt8)) b_3)), (15, ov (S rB v_12)), (16, bif (!v_12) then ov (S (rI .i64) from_1) else .one .und), (19, ov (PTR gb_6 (0 + 1)))], [cvar gb_6 (rP (rW (HDR go_8 0 (List.length x_7) gc_9)) (rP (rI .i64) (rP (rI .i64) r0))) ((), (Ends_4, (Lost_5, ()))), cown go_8 r_api_Flight x_7 0 gc_9], []⟩ (.cons rfl (.cons rfl (.cons rfl (.cons rfl (.cons rfl (.cons rfl (.cons rfl .nil))))))) rfl rfl ?_
     refine JL.run (.yes rfl (ltB rfl) rfl hc7) (op_loadS (j := 0) lb tS3 (.tmp rfl) rfl (Comp.trans (Comp.self (rP (rW (HDR go_8 0 (List.length x_7) gc_9)) (rP (rI .i64) (rP (rI .i64) r0))) ((), (Ends_4, (Lost_5, ())))) (Comp.at' (Comp.inS (Comp.inF (Comp.self (rI .i64) Ends_4) (Nat.le_of_ble_eq_true rfl))) (by rfl : _ = 1)) (Nat.le_of_ble_eq_true rfl)) rfl rfl) ?_
     replace hx1 := lt1_inv hx1
     obtain ⟨v_13, hv_v_13, hx1⟩ := hx1
     refine JL.run (.yes rfl (ltB rfl) rfl hc7) (op_cmpI lb (HasO.cnd (.tmp rfl) (notT hc7)) (.tmp rfl) (congrArg some hv_v_13)) ?_
     refine jc (op_pickF lb (.tmp rfl) hc7 (.tmp rfl)) ?_
     refine jc (op_move lb (.tmp rfl)) ?_
     refine JL.cnd (sv := ov (S (rI .i64) to_2)) (Guard.isF (ltB rfl) rfl rfl) rfl (ltB rfl) (fun hq_8 => op_move lb (.tmp rfl)) ?_
     replace hx1 := iteB_inv hx1
     rcases hx1 with ⟨hc10, hx1⟩ | ⟨hc10, hx1⟩
     · refine JL.skip (.no rfl (ltB rfl) rfl hc10) (fun d h => by cases h; exact ltB rfl) ?_
       refine JL.skip (.no rfl (ltB rfl) rfl hc10) (fun d h => by cases h; exact ltB rfl) ?_
       refine JL.skip (.no rfl (ltB rfl) rfl hc10) (fun d h => by cases h; exact ltB rfl) ?_
       refine JL.skip (.no rfl (ltB rfl) rfl hc10) (fun d h => by cases h; exact ltB rfl) ?_
       refine JL.skip (.no rfl (ltB rfl) rfl hc10) (fun d h => by cases h; exact ltB rfl) ?_
       refine jc (op_pickT lb (.tmp rfl) hc10 .cB) ?_
       refine jc (op_move lb (.tmp rfl)) ?_
       refine JL.skip (.no rfl (ltB rfl) rfl rfl) (fun d h => by cases h; exact ltB rfl) ?_
       refine JL.skip (.no rfl (ltB rfl) rfl rfl) (fun d h => by cases h; exact ltB rfl) ?_
       refine JL.skip (.no rfl (ltB rfl) rfl rfl) (fun d h => by cases h; exact ltB rfl) ?_
       refine jc (op_pickT lb (.tmp rfl) rfl .cB) ?_
       refine jc (op_move lb (.tmp rfl)) ?_
       refine JL.skip (.no rfl (ltB rfl) rfl rfl) (fun d h => by cases h; exact ltB rfl) ?_
       refine JL.skip (.no rfl (ltB rfl) rfl rfl) (fun d h => by cases h; exact ltB rfl) ?_
       refine JL.skip (.no rfl (ltB rfl) rfl rfl) (fun d h => by cases h; exact ltB rfl) ?_
       refine jc (op_pickT lb (.tmp rfl) rfl .cB) ?_
       refine JL.nil ?_
       replace hx1 := Option.some.inj hx1
       first | subst hx1 | clear hx1
       refine JQ.pre (Imp.var (j := 0) (q := (rP (rW (HDR go_8 0 (List.length x_7) gc_9)) (rP (rI .i64) (rP (rI .i64) r0)))) (y := ((), (Ends_4, (Lost_5, ())))) rfl Wk.refl) ?_
       exact JQ.join () (Imp.norm (js := [0, 0]) rfl (.cons rfl (.cons rfl (.cons rfl (.cons rfl (.cons rfl .nil))))))
     · refine JL.run (.yes rfl (ltB rfl) rfl hc10) (op_move lb (.tmp rfl)) ?_
       refine JL.run (.yes rfl (ltB rfl) rfl hc10) (op_nilCheck lb (.tmp rfl) (fun e v h => by subst h; rfl)) ?_
       refine JL.run (.yes rfl (ltB rfl) rfl hc10) (op_fieldAddr (off := 1) lb tf43_1 (.tmp rfl)) ?_
       refine JL.run (.yes rfl (ltB rfl) rfl hc10) (op_loadS (j := 0) lb tS3 (.tmp rfl) rfl (Comp.trans (Comp.self (rP (rW (HDR go_8 0 (List.length x_7) gc_9)) (rP (rI .i64) (rP (rI .i64) r0))) ((), (Ends_4, (Lost_5, ())))) (Comp.at' (Comp.inS (Comp.inF (Comp.self (rI .i64) Ends_4) (Nat.le_of_ble_eq_true rfl))) (by rfl : _ = 1)) (Nat.le_of_ble_eq_true rfl)) rfl rfl) ?_
       replace hx1 := lt1_inv hx1
       obtain ⟨v_14, hv_v_14, hx1⟩ := hx1
       refine JL.run (.yes rfl (ltB rfl) rfl hc10) (op_cmpI lb (HasO.cnd (.tmp rfl) (notT hc10)) (.tmp rfl) (congrArg some hv_v_14)) ?_
       refine jc (op_pickF lb (.tmp rfl) hc10 (.tmp rfl)) ?_
       refine jc (op_move lb (.tmp rfl)) ?_
       refine JL.sub ⟨[(0, ov (PTR gb_6 0)), (1, ov (S (rI .i64) from_1)), (2, ov (S (rI .i64) to_2)), (3, ov (S (rL (rU UInt8)) b_3)), (31, ov (S rB v_14))], [cvar gb_6 (rP (rW (HDR go_8 0 (List.length x_7) gc_9)) (rP (rI .i64) (rP (rI .i64) r0))) ((), (Ends_4, (Lost_5, ()))), cown go_8 r_api_Flight x_7 0 gc_9], []⟩ (.cons rfl (.cons rfl (.cons rfl (.cons rfl (.cons rfl .nil))))) rfl rfl ?_
       refine JL.cnd (sv := ov (S (rI .i64) from_1)) (Guard.isF (ltB rfl) rfl rfl) rfl (ltB rfl) (fun hq_11 => op_move lb (.tmp rfl)) ?_
       refine JL.cnd (sv := ov (S (rI .i64) to_2)) (Guard.isF (ltB rfl) rfl rfl) rfl (ltB rfl) (fun hq_12 => op_move lb (.tmp rfl)) ?_
       replace hx1 := lt1_inv hx1
       obtain ⟨v_15, hv_v_15, hx1⟩ := hx1
       refine JL.cnd (sv := ov (S rB v_15)) (Guard.isF (ltB rfl) rfl rfl) rfl (ltB rfl) (fun hq_13 => op_cmpI lb (HasO.cnd (.tmp rfl) (notT (notF hq_13))) (HasO.cnd (.tmp rfl) (notT (notF hq_13))) (congrArg some hv_v_15)) ?_
       replace hx1 := lt1_inv hx1
       obtain ⟨v_16, hv_v_16, hx1⟩ := hx1
       refine jc (op_pickCS lb (.tmp rfl) (fun hb14 => .cB) (fun hb14 => (HasO.cnd (.tmp rfl) (notT hb14))) hv_v_16) ?_
       refine jc (op_move lb (.tmp rfl)) ?_
       refine JL.cnd (sv := ov (S (rL (rU UInt8)) b_3)) (Guard.isF (ltB rfl) rfl rfl) rfl (ltB rfl) (fun hq_15 => op_move lb (.tmp rfl)) ?_
       refine JL.cnd (sv := ov (S (rI .i64) (List.length b_3 : Int))) (Guard.isF (ltB rfl) rfl rfl) rfl (ltB rfl) (fun hq_16 => op_lenL lb tu31 (HasO.cnd (.tmp rfl) (notT (notF hq_16)))) ?_
       replace hx1 := lt1_inv hx1
       obtain ⟨v_17, hv_v_17, hx1⟩ := hx1
       refine JL.cnd (sv := ov (S rB v_17)) (Guard.isF (ltB rfl) rfl rfl) rfl (ltB rfl) (fun hq_17 => op_cmpI lb (HasO.cnd (.tmp rfl) (notT (notF hq_17))) .cI (congrArg some hv_v_17)) ?_
       replace hx1 := lt1_inv hx1
       obtain ⟨v_18, hv_v_18, hx1⟩ := hx1
       refine jc (op_pickCS lb (.tmp rfl) (fun hb18 => .cB) (fun hb18 => (HasO.cnd (.tmp rfl) (notT hb18))) hv_v_18) ?_
       refine JL.nil ?_
       replace hx1 := Option.some.inj hx1
       first | subst hx1 | clear hx1
       refine JQ.pre (Imp.var (j := 0) (q := (rP (rW (HDR go_8 0 (List.length x_7) gc_9)) (rP (rI .i64) (rP (rI .i64) r0)))) (y := ((), (Ends_4, (Lost_5, ())))) rfl Wk.refl) ?_
       exact JQ.join () (Imp.norm (js := [0, 0]) rfl (.cons rfl (.cons rfl (.cons rfl (.cons rfl (.cons rfl .nil))))))

theorem sim_ref12_Net_At'2 (k : Nat) (place_1 : Int) (Ends_2 : Int) (Lost_3 : Int) (x_5 : (List api_Flight)) (gb_4 : Nat) (go_6 : Option Nat) (gc_7 : Nat) (r : api_Flight × Int) (hm : ref12_Net_At'2 k place_1 Ends_2 Lost_3 x_5 = some r) : Sim Try.prog 38 [PTR gb_4 0, S (rI .i64) place_1] [cvar gb_4 (rP (rW (HDR go_6 0 (List.length x_5) gc_7)) (rP (rI .i64) (rP (rI .i64) r0))) ((), (Ends_2, (Lost_3, ()))), cown go_6 r_api_Flight x_5 0 gc_7] (γ := Unit) (fun q => [cvar gb_4 (rP (rW (HDR go_6 0 (List.length x_5) gc_7)) (rP (rI .i64) (rP (rI .i64) r0))) ((), (Ends_2, (Lost_3, ()))), cown go_6 r_api_Flight x_5 0 gc_7]) (fun q => .tup [.val (A r_api_Flight r.1), .val (S (rI .i64) r.2)]) := by
 unfold ref12_Net_At'2 at hm
 refine Sim.of Try.func38 rfl rfl (Nat.le_of_ble_eq_true rfl) (fun e0 w0 => ?_)
 refine JC.at ⟨[(0, ov (PTR gb_4 0)), (1, ov (S (rI .i64) place_1))], [cvar gb_4 (rP (rW (HDR go_6 0 (List.length x_5) gc_7)) (rP (rI .i64) (rP (rI .i64) r0))) ((), (Ends_2, (Lost_3, ()))), cown go_6 r_api_Flight x_5 0 gc_7], []⟩ ?_
 refine JC.seq ?_
 refine JC.region ?_
 refine jx (op_alloc lb tZ36 zr36) (fun q => ?_)
 obtain ⟨gb_8, hqq⟩ : ∃ z, z = q := ⟨_, rfl⟩
 subst hqq
 refine jc (op_assign lb .cI) ?_
 refine JL.nil ?_
 refine JQ.then ?_
 refine JC.seq ?_
 refine JC.seq ?_
 refine JC.region ?_
 refine jc (op_move lb (.tmp rfl)) ?_
 replace hm := lt1_inv hm
 obtain ⟨v_9, hv_v_9, hm⟩ := hm
 refine jc (op_cmpI lb (.tmp rfl) .cI (congrArg some hv_v_9)) ?_
 refine JL.nil ?_
 refine JQ.then ?_
 replace hm := iteB_inv hm
 rcases hm with ⟨hc1, hm⟩ | ⟨hc1, hm⟩
 · refine JC.condT (.tmp rfl) hc1 ?_
   refine JC.seq ?_
   refine JC.region ?_
   refine jc (op_build lb tZ36 zr36 tp36 .nil rfl) ?_
   refine jc (op_storeA (j := 2) tA36 (.tmp rfl) (.tmp rfl) rfl (UpdR.self (by rfl)) rfl) ?_
   refine jc (op_assign lb .cI) ?_
   refine JL.nil ?_
   refine JQ.then ?_
   refine JC.ret ?_
   refine JQ.outR ?_
   replace hm := Option.some.inj hm
   subst hm
   refine JQ.pre (Imp.var (j := 2) (q := r_api_Flight) (y := (api_Flight.mk (0 : Int) (0 : Int) ([] : (List UInt8)))) rfl (Wk.st (Wk.pair Wk.refl (Wk.pair Wk.refl (Wk.pair Wk.nil Wk.refl))))) ?_
   refine JQ.pre (Imp.var (j := 0) (q := (rP (rW (HDR go_6 0 (List.length x_5) gc_7)) (rP (rI .i64) (rP (rI .i64) r0)))) (y := ((), (Ends_2, (Lost_3, ())))) rfl Wk.refl) ?_
   exact JQ.done (js := [0, 0]) (ss := [.val (A r_api_Flight (api_Flight.mk (0 : Int) (0 : Int) ([] : (List UInt8)))), .val (S (rI .i64) (2 : Int))]) () (.inl rfl) (.nil rfl) rfl (.cons (.cellA (j := 2) tA36 rfl rfl) (.cons (.tmp rfl) .nil)) rfl rfl rfl
 · refine JC.condF (.tmp rfl) hc1 ?_
   refine JC.skip ?_
   refine JQ.then ?_
   refine JC.seq ?_
   refine JC.seq ?_
   refine JC.region ?_
   refine jc (op_move lb (.tmp rfl)) ?_
   refine jc (op_move lb (.tmp rfl)) ?_
   refine jc (op_nilCheck lb (.tmp rfl) (fun e v h => by subst h; rfl)) ?_
   refine jc (op_fieldAddr (off := 0) lb tf43_0 (.tmp rfl)) ?_
   refine jc (op_loadW (j := 0) lb tS30 (.tmp rfl) rfl (Comp.trans (Comp.self (rP (rW (HDR go_6 0 (List.length x_5) gc_7)) (rP (rI .i64) (rP (rI .i64) r0))) ((), (Ends_2, (Lost_3, ())))) (Comp.at' (Comp.inF (Comp.self (rW (HDR go_6 0 (List.length x_5) gc_7)) ()) (Nat.le_of_ble_eq_true rfl)) (by rfl : _ = 0)) (Nat.le_of_ble_eq_true rfl))) ?_
   refine jc (op_lenH lb tu30 (.tmp rfl)) ?_
   refine JL.sub ⟨[(0, ov (PTR gb_4 0)), (1, ov (S (rI .i64) place_1)), (4, ov (PTR gb_8 0)), (9, ov (S (rI .i64) place_1)), (14, ov (S (rI .i64) (List.length x_5 : Int)))], [cvar gb_4 (rP (rW (HDR go_6 0 (List.length x_5) gc_7)) (rP (rI .i64) (rP (rI .i64) r0))) ((), (Ends_2, (Lost_3, ()))), cown go_6 r_api_Flight x_5 0 gc_7, cvar gb_8 (rP (rI .i64) (rP (rI .i64) (rP (rW (HDR none 0 0 0)) r0))) ((0 : Int), ((0 : Int), ((), ())))], []⟩ (.cons rfl (.cons rfl (.cons rfl (.cons rfl (.cons rfl .nil))))) rfl rfl ?_
   replace hm := lt1_inv hm
   obtain ⟨v_10, hv_v_10, hm⟩ := hm
   refine jc (op_cmpI lb (.tmp rfl) (.tmp rfl) (congrArg some hv_v_10)) ?_
   refine JL.nil ?_
   refine JQ.then ?_
   replace hm := iteB_inv hm
   rcases hm with ⟨hc2, hm⟩ | ⟨hc2, hm⟩
   · refine JC.condT (.tmp rfl) hc2 ?_
     refine JC.seq ?_
     refine JC.region ?_
     refine jc (op_build lb tZ36 zr36 tp36 .nil rfl) ?_
     refine jc (op_storeA (j := 2) tA36 (.tmp rfl) (.tmp rfl) rfl (UpdR.self (by rfl)) rfl) ?_
     refine jc (op_assign lb .cI) ?_
     refine JL.nil ?_
     refine JQ.then ?_
     refine JC.ret ?_
     refine JQ.outR ?_
     replace hm := Option.some.inj hm
     subst hm
     refine JQ.pre (Imp.var (j := 2) (q := r_api_Flight) (y := (api_Flight.mk (0 : Int) (0 : Int) ([] : (List UInt8)))) rfl (Wk.st (Wk.pair Wk.refl (Wk.pair Wk.refl (Wk.pair Wk.nil Wk.refl))))) ?_
     refine JQ.pre (Imp.var (j := 0) (q := (rP (rW (HDR go_6 0 (List.length x_5) gc_7)) (rP (rI .i64) (rP (rI .i64) r0)))) (y := ((), (Ends_2, (Lost_3, ())))) rfl Wk.refl) ?_
     exact JQ.done (js := [0, 0]) (ss := [.val (A r_api_Flight (api_Flight.mk (0 : Int) (0 : Int) ([] : (List UInt8)))), .val (S (rI .i64) (6 : Int))]) () (.inl rfl) (.nil rfl) rfl (.cons (.cellA (j := 2) tA36 rfl rfl) (.cons (.tmp rfl) .nil)) rfl rfl rfl
   · refine JC.condF (.tmp rfl) hc2 ?_
     refine JC.skip ?_
     refine JQ.then ?_
     refine JC.seq ?_
     refine JC.region ?_
     refine jc (op_move lb (.tmp rfl)) ?_
     refine jc (op_nilCheck lb (.tmp rfl) (fun e v h => by subst h; rfl)) ?_
     refine jc (op_fieldAddr (off := 0) lb tf43_0 (.tmp rfl)) ?_
     refine jc (op_loadW (j := 0) lb tS30 (.tmp rfl) rfl (Comp.trans (Comp.self (rP (rW (HDR go_6 0 (List.length x_5) gc_7)) (rP (rI .i64) (rP (rI .i64) r0))) ((), (Ends_2, (Lost_3, ())))) (Comp.at' (Comp.inF (Comp.self (rW (HDR go_6 0 (List.length x_5) gc_7)) ()) (Nat.le_of_ble_eq_true rfl)) (by rfl : _ = 0)) (Nat.le_of_ble_eq_true rfl))) ?_
     refine jc (op_move lb (.tmp rfl)) ?_
     replace hm := bnd_inv hm
     obtain ⟨i_11, hv_i_11, hm⟩ := hm
     refine jc (op_indexAddrOF (r := r_api_Flight) (j := 1) lb tu30 tz36 rfl (.tmp rfl) (.tmp rfl) hv_i_11) ?_
     replace hm := bnd_inv hm
     obtain ⟨v_12, hv_v_12, hm⟩ := hm
     refine jc (op_loadOA (r := r_api_Flight) (i := i_11) (off := 0) (j := 1) lb tA36 rfl (.tmp rfl) hv_v_12 (Comp.self r_api_Flight v_12) (by decide)) ?_
     refine jc (op_storeA (j := 2) tA36 (.tmp rfl) (.tmp rfl) rfl (UpdR.self (by rfl)) rfl) ?_
     refine jc (op_assign lb .cI) ?_
     refine JL.sub ⟨[(4, ov (PTR gb_8 0)), (5, ov (S (rI .i64) (0 : Int)))], [cvar gb_4 (rP (rW (HDR go_6 0 (List.length x_5) gc_7)) (rP (rI .i64) (rP (rI .i64) r0))) ((), (Ends_2, (Lost_3, ()))), cown go_6 r_api_Flight x_5 0 gc_7, cvar gb_8 r_api_Flight v_12], []⟩ (.cons rfl (.cons rfl .nil)) rfl rfl ?_
     refine JL.nil ?_
     refine JQ.then ?_
     refine JC.ret ?_
     replace hm := Option.some.inj hm
     subst hm
     refine JQ.pre (Imp.var (j := 0) (q := (rP (rW (HDR go_6 0 (List.length x_5) gc_7)) (rP (rI .i64) (rP (rI .i64) r0)))) (y := ((), (Ends_2, (Lost_3, ())))) rfl Wk.refl) ?_
     exact JQ.done (js := [0, 0]) (ss := [.val (A r_api_Flight v_12), .val (S (rI .i64) (0 : Int))]) () (.inl rfl) (.nil rfl) rfl (.cons (.cellA (j := 2) tA36 rfl rfl) (.cons (.tmp rfl) .nil)) rfl rfl rfl

theorem sim_net_Net_Lost (k : Nat) (ends_1 : Int) (lost_2 : Int) (x_4 : (List (net_pair × (List (List UInt8))))) (gb_3 : Nat) (go_5 : Option Nat) (r : Unit) (hm : net_Net_Lost k ends_1 lost_2 x_4 = some r) : Sim Try.prog 26 [PTR gb_3 0] [cvar gb_3 (rP (rW (MPV go_5)) (rP (rI .i64) (rP (rI .i64) r0))) ((), (ends_1, (lost_2, ()))), cmap go_5 (A r_net_pair) (S (rL (rL (rU UInt8)))) (some x_4)] (γ := Unit) (fun q => [cvar gb_3 (rP (rW (MPV go_5)) (rP (rI .i64) (rP (rI .i64) r0))) ((), (ends_1, (lost_2, ()))), cmap go_5 (A r_net_pair) (S (rL (rL (rU UInt8)))) (some x_4)]) (fun q => .one (.val (S (rI .i64) lost_2))) := by
 unfold net_Net_Lost at hm
 refine Sim.of Try.func26 rfl rfl (Nat.le_of_ble_eq_true rfl) (fun e0 w0 => ?_)
 refine JC.at ⟨[(0, ov (PTR gb_3 0))], [cvar gb_3 (rP (rW (MPV go_5)) (rP (rI .i64) (rP (rI .i64) r0))) ((), (ends_1, (lost_2, ()))), cmap go_5 (A r_net_pair) (S (rL (rL (rU UInt8)))) (some x_4)], []⟩ ?_
 refine JC.seq ?_
 refine JC.region ?_
 refine jc (op_assign lb .cI) ?_
 refine JL.nil ?_
 refine JQ.then ?_
 refine JC.seq ?_
 refine JC.seq ?_
 refine JC.region ?_
 refine jc (op_move lb (.tmp rfl)) ?_
 replace hm := bnd_inv hm
 obtain ⟨_, hv_u_6, hm⟩ := hm
 refine jx (op_call (js := [0, 0]) ld cl29 (sim_net_Net_there k ends_1 lost_2 x_4 gb_3 go_5 () hv_u_6) .func (.cons (.tmp rfl) .nil) rfl) (fun _ => ?_)
 refine jc (op_not lb (.tmp rfl) rfl) ?_
 refine JL.nil ?_
 refine JQ.then ?_
 refine JC.condF (.tmp rfl) rfl ?_
 refine JC.skip ?_
 refine JQ.then ?_
 refine JC.seq ?_
 refine JC.region ?_
 refine jc (op_move lb (.tmp rfl)) ?_
 refine jc (op_nilCheck lb (.tmp rfl) (fun e v h => by subst h; rfl)) ?_
 refine jc (op_fieldAddr (off := 2) lb tf57_2 (.tmp rfl)) ?_
 refine jc (op_loadS (j := 0) lb tS3 (.tmp rfl) rfl (Comp.trans (Comp.self (rP (rW (MPV go_5)) (rP (rI .i64) (rP (rI .i64) r0))) ((), (ends_1, (lost_2, ())))) (Comp.at' (Comp.inS (Comp.inS (Comp.inF (Comp.self (rI .i64) lost_2) (Nat.le_of_ble_eq_true rfl)))) (by rfl : _ = 2)) (Nat.le_of_ble_eq_true rfl)) rfl rfl) ?_
 refine jc (op_assign lb (.tmp rfl)) ?_
 refine JL.nil ?_
 refine JQ.then ?_
 refine JC.ret ?_
 exact JQ.done (js := [0, 0]) (ss := [.val (S (rI .i64) lost_2)]) () (.inl rfl) (.nil rfl) rfl (.cons (.tmp rfl) .nil) rfl rfl rfl

theorem sim_ref12_Same'2 (k : Nat) (From_1 : Int) (To_2 : Int) (o_3 : Nat) (n_4 : Nat) (b_5 : api_Flight) (x_6 : (List UInt8)) (go_7 : Option Nat) (gc_8 : Nat) (r : Bool) (hm : ref12_Same'2 k From_1 To_2 o_3 n_4 b_5 x_6 = some r) : Sim Try.prog 17 [A (rP (rI .i64) (rP (rI .i64) (rP (rW (HDX go_7 (o_3 * 1) n_4)) r0))) (From_1, (To_2, ((), ()))), A r_api_Flight b_5] [cown go_7 (rU UInt8) x_6 0 gc_8] (γ := Unit) (fun q => [cown go_7 (rU UInt8) x_6 0 gc_8]) (fun q => .one (.val (S rB r))) := by
 unfold ref12_Same'2 at hm
 refine Sim.of Try.func17 rfl rfl (Nat.le_of_ble_eq_true rfl) (fun e0 w0 => ?_)
 refine JC.at ⟨[(0, ov (A (rP (rI .i64) (rP (rI .i64) (rP (rW (HDX go_7 (o_3 * 1) n_4)) r0))) (From_1, (To_2, ((), ()))))), (1, ov (A r_api_Flight b_5))], [cown go_7 (rU UInt8) x_6 0 gc_8], []⟩ ?_
 refine JC.seq ?_
 refine JC.region ?_
 refine jx (op_boxA lb (.tmp rfl)) (fun q => ?_)
 obtain ⟨gb_9, hqq⟩ : ∃ z, z = q := ⟨_, rfl⟩
 subst hqq
 refine jx (op_boxA lb (.tmp rfl)) (fun q => ?_)
 obtain ⟨gb_10, hqq⟩ : ∃ z, z = q := ⟨_, rfl⟩
 subst hqq
 refine jc (op_assign lb .cB) ?_
 refine JL.nil ?_
 refine JQ.then ?_
 replace hm := bnd_inv hm
 obtain ⟨x_15, hx1, hq1⟩ := hm
 refine JC.seqJ (γ := Unit) (stj := fun q => ⟨[(4, ov (S rB x_15))], [cown go_7 (rU UInt8) x_6 0 gc_8], []⟩) (fun q => ?_) ?_
 · obtain _ := q
   refine JC.at ⟨[(4, ov (S rB x_15))], [cown go_7 (rU UInt8) x_6 0 gc_8], []⟩ ?_
   refine JC.ret ?_
   replace hq1 := Option.some.inj hq1
   subst hq1
   exact JQ.done (js := [0]) (ss := [.val (S rB x_15)]) () (.inl rfl) (.nil rfl) rfl (.cons (.tmp rfl) .nil) rfl rfl rfl
 · refine JC.region ?_
   refine jc (op_fieldAddr (off := 0) lb tf36_0 (.tmp rfl)) ?_
   refine jc (op_loadS (j := 1) lb tS3 (.tmp rfl) rfl (Comp.trans (Comp.self (rP (rI .i64) (rP (rI .i64) (rP (rW (HDX go_7 (o_3 * 1) n_4)) r0))) (From_1, (To_2, ((), ())))) (Comp.at' (Comp.inF (Comp.self (rI .i64) From_1) (Nat.le_of_ble_eq_true rfl)) (by rfl : _ = 0)) (Nat.le_of_ble_eq_true rfl)) rfl rfl) ?_
   refine jc (op_fieldAddr (off := 0) lb tf36_0 (.tmp rfl)) ?_
   refine jc (op_loadS (j := 2) lb tS3 (.tmp rfl) rfl (Comp.trans (Comp.self r_api_Flight b_5) (comp_api_Flight_From b_5) (Nat.le_of_ble_eq_true rfl)) rfl rfl) ?_
   replace hx1 := lt1_inv hx1
   obtain ⟨v_11, hv_v_11, hx1⟩ := hx1
   refine jc (op_cmpI lb (.tmp rfl) (.tmp rfl) (congrArg some hv_v_11)) ?_
   refine JL.sub ⟨[(2, ov (PTR gb_9 0)), (3, ov (PTR gb_10 0)), (4, ov (S rB false)), (9, ov (S rB v_11))], [cown go_7 (rU UInt8) x_6 0 gc_8, cvar gb_9 (rP (rI .i64) (rP (rI .i64) (rP (rW (HDX go_7 (o_3 * 1) n_4)) r0))) (From_1, (To_2, ((), ()))), cvar gb_10 r_api_Flight b_5], []⟩ (.cons rfl (.cons rfl (.cons rfl (.cons rfl .nil)))) rfl rfl ?_
   refine jc (op_move lb (.tmp rfl)) ?_
   replace hx1 := iteB_inv hx1
   rcases hx1 with ⟨hc3, hx1⟩ | ⟨hc3, hx1⟩
   · refine JL.run (.yes rfl (ltB rfl) rfl hc3) (op_fieldAddr (off := 1) lb tf36_1 (.tmp rfl)) ?_
     refine JL.run (.yes rfl (ltB rfl) rfl hc3) (op_loadS (j := 1) lb tS3 (.tmp rfl) rfl (Comp.trans (Comp.self (rP (rI .i64) (rP (rI .i64) (rP (rW (HDX go_7 (o_3 * 1) n_4)) r0))) (From_1, (To_2, ((), ())))) (Comp.at' (Comp.inS (Comp.inF (Comp.self (rI .i64) To_2) (Nat.le_of_ble_eq_true rfl))) (by rfl : _ = 1)) (Nat.le_of_ble_eq_true rfl)) rfl rfl) ?_
     refine JL.run (.yes rfl (ltB rfl) rfl hc3) (op_fieldAddr (off := 1) lb tf36_1 (.tmp rfl)) ?_
     refine JL.run (.yes rfl (ltB rfl) rfl hc3) (op_loadS (j := 2) lb tS3 (.tmp rfl) rfl (Comp.trans (Comp.self r_api_Flight b_5) (comp_api_Flight_To b_5) (Nat.le_of_ble_eq_true rfl)) rfl rfl) ?_
     replace hx1 := lt1_inv hx1
     obtain ⟨v_12, hv_v_12, hx1⟩ := hx1
     refine JL.run (.yes rfl (ltB rfl) rfl hc3) (op_cmpI lb (.tmp rfl) (.tmp rfl) (congrArg some hv_v_12)) ?_
     refine jc (op_pickT lb (.tmp rfl) hc3 (.tmp rfl)) ?_
     refine jc (op_move lb (.tmp rfl)) ?_
     replace hx1 := iteB_inv hx1
     rcases hx1 with ⟨hc5, hx1⟩ | ⟨hc5, hx1⟩
     · refine JL.run (.yes rfl (ltB rfl) rfl hc5) (op_fieldAddr (off := 2) lb tf36_2 (.tmp rfl)) ?_
       refine JL.run (.yes rfl (ltB rfl) rfl hc5) (op_loadW (j := 1) lb tS31 (.tmp rfl) rfl (Comp.trans (Comp.self (rP (rI .i64) (rP (rI .i64) (rP (rW (HDX go_7 (o_3 * 1) n_4)) r0))) (From_1, (To_2, ((), ())))) (Comp.at' (Comp.inS (Comp.inS (Comp.inF (Comp.self (rW (HDX go_7 (o_3 * 1) n_4)) ()) (Nat.le_of_ble_eq_true rfl)))) (by rfl : _ = 2)) (Nat.le_of_ble_eq_true rfl))) ?_
       replace hx1 := bnd_inv hx1
       obtain ⟨v_13, hv_v_13, hx1⟩ := hx1
       refine JL.run (.yes rfl (ltB rfl) rfl hc5) (op_convXS (j := 0) (o := o_3) lb tu31 tu5 tu9 rfl (.tmp rfl) hv_v_13) ?_
       refine JL.run (.yes rfl (ltB rfl) rfl hc5) (op_fieldAddr (off := 2) lb tf36_2 (.tmp rfl)) ?_
       refine JL.nrm ⟨[(4, ov (S rB false)), (17, ov (S rB v_12)), (20, ov (S rS v_13)), (21, ov (PTR gb_10 (0 + 2)))], [cown go_7 (rU UInt8) x_6 0 gc_8, cvar gb_10 r_api_Flight b_5], []⟩ [0, 1] rfl (.cons rfl (.cons rfl (.cons rfl (.cons rfl .nil)))) rfl ?_
       refine JL.run (.yes rfl (ltB rfl) rfl hc5) (op_loadS (j := 1) lb tS31 (.tmp rfl) rfl (Comp.trans (Comp.self r_api_Flight b_5) (comp_api_Flight_Bytes b_5) (Nat.le_of_ble_eq_true rfl)) rfl rfl) ?_
       refine JL.run (.yes rfl (ltB rfl) rfl hc5) (op_convBS lb tu31 tu5 tu9 (.tmp rfl)) ?_
       replace hx1 := lt1_inv hx1
       obtain ⟨v_14, hv_v_14, hx1⟩ := hx1
       refine JL.run (.yes rfl (ltB rfl) rfl hc5) (op_cmpS lb (.tmp rfl) (.tmp rfl) (congrArg some hv_v_14)) ?_
       refine jc (op_pickT lb (.tmp rfl) hc5 (.tmp rfl)) ?_
       refine jc (op_assign lb (.tmp rfl)) ?_
       refine JL.nil ?_
       replace hx1 := Option.some.inj hx1
       first | subst hx1 | clear hx1
       exact JQ.join () (Imp.norm (js := [0]) rfl (.cons rfl .nil))
     · refine JL.skip (.no rfl (ltB rfl) rfl hc5) (fun d h => by cases h; exact ltB rfl) ?_
       refine JL.skip (.no rfl (ltB rfl) rfl hc5) (fun d h => by cases h; exact ltB rfl) ?_
       refine JL.skip (.no rfl (ltB rfl) rfl hc5) (fun d h => by cases h; exact ltB rfl) ?_
       refine JL.skip (.no rfl (ltB rfl) rfl hc5) (fun d h => by cases h; exact ltB rfl) ?_
       refine JL.skip (.no rfl (ltB rfl) rfl hc5) (fun d h => by cases h; exact ltB rfl) ?_
       refine JL.skip (.no rfl (ltB rfl) rfl hc5) (fun d h => by cases h; exact ltB rfl) ?_
       refine JL.skip (.no rfl (ltB rfl) rfl hc5) (fun d h => by cases h; exact ltB rfl) ?_
       refine jc (op_pickF lb (.tmp rfl) hc5 .cB) ?_
       refine jc (op_assign lb (.tmp rfl)) ?_
       refine JL.nil ?_
       replace hx1 := Option.some.inj hx1
       first | subst hx1 | clear hx1
       exact JQ.join () (Imp.norm (js := [0]) rfl (.cons rfl .nil))
   · refine JL.skip (.no rfl (ltB rfl) rfl hc3) (fun d h => by cases h; exact ltB rfl) ?_
     refine JL.skip (.no rfl (ltB rfl) rfl hc3) (fun d h => by cases h; exact ltB rfl) ?_
     refine JL.skip (.no rfl (ltB rfl) rfl hc3) (fun d h => by cases h; exact ltB rfl) ?_
     refine JL.skip (.no rfl (ltB rfl) rfl hc3) (fun d h => by cases h; exact ltB rfl) ?_
     refine JL.skip (.no rfl (ltB rfl) rfl hc3) (fun d h => by cases h; exact ltB rfl) ?_
     refine jc (op_pickF lb (.tmp rfl) hc3 .cB) ?_
     refine jc (op_move lb (.tmp rfl)) ?_
     refine JL.skip (.no rfl (ltB rfl) rfl rfl) (fun d h => by cases h; exact ltB rfl) ?_
     refine JL.skip (.no rfl (ltB rfl) rfl rfl) (fun d h => by cases h; exact ltB rfl) ?_
     refine JL.skip (.no rfl (ltB rfl) rfl rfl) (fun d h => by cases h; exact ltB rfl) ?_
     refine JL.skip (.no rfl (ltB rfl) rfl rfl) (fun d h => by cases h; exact ltB rfl) ?_
     refine JL.skip (.no rfl (ltB rfl) rfl rfl) (fun d h => by cases h; exact ltB rfl) ?_
     refine JL.skip (.no rfl (ltB rfl) rfl rfl) (fun d h => by cases h; exact ltB rfl) ?_
     refine JL.skip (.no rfl (ltB rfl) rfl rfl) (fun d h => by cases h; exact ltB rfl) ?_
     refine jc (op_pickF lb (.tmp rfl) rfl .cB) ?_
     refine jc (op_assign lb (.tmp rfl)) ?_
     refine JL.nil ?_
     replace hx1 := Option.some.inj hx1
     first | subst hx1 | clear hx1
     exact JQ.join () (Imp.norm (js := [0]) rfl (.cons rfl .nil))

end Go.Proofs.Ytnadeehdnmgebaa
