/- Walks. -/
import Derived.Test.YtkbkdfcakpbojaaT
import Derived.Test.YtkbkdfcakpbojaaW0
import Derived.Test.YtkbkdfcakpbojaaW1
namespace Go.Proofs.Ytkbkdfcakpbojaa
open Go Fw
set_option linter.unusedVariables false
set_option maxRecDepth 100000
set_option maxHeartbeats 4000000

theorem sim_law01_known (k : Nat) (r : Bool) (hm : law01_known k = some r) : Sim Try.prog 9 [] [] (γ := Unit) (fun q => []) (fun q => .one (.val (S rB r))) := by
 unfold law01_known at hm
 refine Sim.of Try.func9 rfl rfl (Nat.le_of_ble_eq_true rfl) (fun e0 w0 => ?_)
 refine JC.at ⟨[], [], []⟩ ?_
 refine JC.seq ?_
 refine JC.region ?_
 refine jc (op_assign lb .cB) ?_
 refine JL.nil ?_
 refine JQ.then ?_
 refine JC.seq ?_
 refine JC.region ?_
 replace hm := bnd_inv hm
 obtain ⟨⟨v_1, v_2⟩, hv_v_1, hm⟩ := hm
 refine jx (op_call (js := []) ld cl10 (sim_wire_Put k (258 : UInt64) (2 : Int) (v_1, v_2) hv_v_1) .func (.cons (HasO.cU (x := (258 : UInt64)) rfl (by decide)) (.cons .cI .nil)) rfl) (fun q => ?_)
 obtain ⟨go_3, gc_4⟩ := q
 refine jc (op_move lb (.tmp rfl)) ?_
 refine jc (op_extract (i := 0) lb (.tmp rfl) rfl) ?_
 refine jc (op_extract (i := 1) lb (.tmp rfl) rfl) ?_
 refine jc (op_assign lb (.tmp rfl)) ?_
 refine jc (op_assign lb (.tmp rfl)) ?_
 refine JL.nil ?_
 refine JQ.then ?_
 refine JC.seq ?_
 refine JC.region ?_
 replace hm := bnd_inv hm
 obtain ⟨⟨v_5, v_6⟩, hv_v_5, hm⟩ := hm
 refine jx (op_call (js := []) ld cl10 (sim_wire_Put k (256 : UInt64) (1 : Int) (v_5, v_6) hv_v_5) .func (.cons (HasO.cU (x := (256 : UInt64)) rfl (by decide)) (.cons .cI .nil)) rfl) (fun q => ?_)
 obtain ⟨go_7, gc_8⟩ := q
 refine JL.sub ⟨[(1, ov (HDR go_3 0 (List.length v_1) gc_4)), (2, ov (S (rI .i64) v_2)), (18, .tup [.val (HDR go_7 0 (List.length v_5) gc_8), .val (S (rI .i64) v_6)])], [cown go_7 (rU UInt8) v_5 0 gc_8, cown go_3 (rU UInt8) v_1 0 gc_4], []⟩ (.cons rfl (.cons rfl (.cons rfl .nil))) rfl rfl ?_
 refine jc (op_move lb (.tmp rfl)) ?_
 refine jc (op_extract (i := 0) lb (.tmp rfl) rfl) ?_
 refine jc (op_extract (i := 1) lb (.tmp rfl) rfl) ?_
 refine jc (op_assign lb (.tmp rfl)) ?_
 refine jc (op_assign lb (.tmp rfl)) ?_
 refine JL.nil ?_
 refine JQ.then ?_
 refine JC.seq ?_
 refine JC.region ?_
 refine jx (op_buildO (r := (rU UInt8)) lb tu23 tz5 tZ5 rfl (Nat.le_of_ble_eq_true rfl) (.S rfl (HasO.cU (x := (97 : UInt8)) rfl (by decide)) (.S rfl (HasO.cU (x := (98 : UInt8)) rfl (by decide)) .nil)) rfl) (fun q => ?_)
 obtain ⟨gb_9, hqq⟩ : ∃ z, z = q := ⟨_, rfl⟩
 subst hqq
 refine jc (op_markO (j := 2) lb tu23 tu5 rfl (.tmp rfl) (Nat.le_of_ble_eq_true rfl)) ?_
 replace hm := bnd_inv hm
 obtain ⟨⟨v_10, v_11⟩, hv_v_10, hm⟩ := hm
 refine JL.pre (Imp.frz (j := 2) rfl (ImpK.slotH (s := 22) rfl (ImpK.slotH (s := 23) rfl ImpK.refl))) ?_
 refine jx (op_call (js := []) ld cl31 (sim_wire_Blob k ([(97 : UInt8), (98 : UInt8)] : (List UInt8)) (v_10, v_11) hv_v_10) .func (.cons (HasO.wk (.tmp rfl) wkHL) .nil) rfl) (fun q => ?_)
 obtain ⟨go_12, gc_13⟩ := q
 refine JL.nrm ⟨[(1, ov (HDR go_3 0 (List.length v_1) gc_4)), (2, ov (S (rI .i64) v_2)), (4, ov (S (rI .i64) v_6)), (24, .tup [.val (HDR go_12 0 (List.length v_10) gc_13), .val (S (rI .i64) v_11)])], [cown go_12 (rU UInt8) v_10 0 gc_13, cown go_3 (rU UInt8) v_1 0 gc_4], []⟩ [0, 1] rfl (.cons rfl (.cons rfl (.cons rfl (.cons rfl .nil)))) rfl ?_
 refine jc (op_move lb (.tmp rfl)) ?_
 refine jc (op_extract (i := 0) lb (.tmp rfl) rfl) ?_
 refine jc (op_extract (i := 1) lb (.tmp rfl) rfl) ?_
 refine jc (op_assign lb (.tmp rfl)) ?_
 refine jc (op_assign lb (.tmp rfl)) ?_
 refine JL.nil ?_
 refine JQ.then ?_
 refine JC.seq ?_
 refine JC.region ?_
 refine jc (op_build lb tZ48 zs48 tp48 (.S (off := 0) rfl .cI rfl ((UpdR.fst (UpdR.self (by rfl))).at (by rfl)) (.S (off := 1) rfl (HasO.cU (x := (5 : UInt64)) rfl (by decide)) rfl ((UpdR.snd (UpdR.fst (UpdR.self (by rfl)))).at (by rfl)) .nil)) rfl) ?_
 replace hm := bnd_inv hm
 obtain ⟨⟨v_14, v_15⟩, hv_v_14, hm⟩ := hm
 refine jx (op_call (js := []) ld cl30 (sim_wire_Dot k (api_Dot.mk (2 : Int) (5 : UInt64)) (v_14, v_15) hv_v_14) .func (.cons (HasO.wk (q := A r_api_Dot (api_Dot.mk (2 : Int) (5 : UInt64))) (.tmp rfl) (wkAK (Wk.st Wk.refl))) .nil) rfl) (fun q => ?_)
 obtain ⟨go_16, gc_17⟩ := q
 refine jc (op_move lb (.tmp rfl)) ?_
 refine jc (op_extract (i := 0) lb (.tmp rfl) rfl) ?_
 refine jc (op_extract (i := 1) lb (.tmp rfl) rfl) ?_
 refine JL.sub ⟨[(1, ov (HDR go_3 0 (List.length v_1) gc_4)), (2, ov (S (rI .i64) v_2)), (4, ov (S (rI .i64) v_6)), (5, ov (HDR go_12 0 (List.length v_10) gc_13)), (6, ov (S (rI .i64) v_11)), (30, ov (HDR go_16 0 (List.length v_14) gc_17)), (31, ov (S (rI .i64) v_15))], [cown go_16 (rU UInt8) v_14 0 gc_17, cown go_12 (rU UInt8) v_10 0 gc_13, cown go_3 (rU UInt8) v_1 0 gc_4], []⟩ (.cons rfl (.cons rfl (.cons rfl (.cons rfl (.cons rfl (.cons rfl (.cons rfl .nil))))))) rfl rfl ?_
 refine jc (op_assign lb (.tmp rfl)) ?_
 refine jc (op_assign lb (.tmp rfl)) ?_
 refine JL.nil ?_
 refine JQ.then ?_
 refine JC.seq ?_
 replace hm := bnd_inv hm
 obtain ⟨x_31, hx1, hq1⟩ := hm
 refine JC.seqJ (γ := Unit) (stj := fun q => ⟨[(60, ov (S rB x_31))], [], []⟩) (fun q => ?_) ?_
 · obtain _ := q
   refine JC.at ⟨[(60, ov (S rB x_31))], [], []⟩ ?_
   replace hq1 := iteB_inv hq1
   rcases hq1 with ⟨hc20, hq1⟩ | ⟨hc20, hq1⟩
   · refine JC.condT (.tmp rfl) hc20 ?_
     refine JC.seq ?_
     refine JC.region ?_
     refine jc (op_assign lb .cB) ?_
     refine JL.nil ?_
     refine JQ.then ?_
     refine JC.ret ?_
     refine JQ.outR ?_
     replace hq1 := Option.some.inj hq1
     subst hq1
     exact JQ.done (js := []) (ss := [.val (S rB false)]) () (.inl rfl) (.nil rfl) rfl (.cons (.tmp rfl) .nil) rfl rfl rfl
   · refine JC.condF (.tmp rfl) hc20 ?_
     refine JC.skip ?_
     refine JQ.then ?_
     refine JC.seq ?_
     refine JC.region ?_
     refine jc (op_buildF (r := (rU UInt8)) lb tu23 tz5 tZ5 rfl (Nat.le_of_ble_eq_true rfl) (.S rfl (HasO.cU (x := (0 : UInt8)) rfl (by decide)) (.S rfl (HasO.cU (x := (1 : UInt8)) rfl (by decide)) (.S rfl (HasO.cU (x := (7 : UInt8)) rfl (by decide)) (.S rfl (HasO.cU (x := (9 : UInt8)) rfl (by decide)) .nil)))) rfl) ?_
     replace hq1 := bnd_inv hq1
     obtain ⟨⟨v_32, x_33⟩, hv_v_32, hq1⟩ := hq1
     refine jx (op_call (js := []) ld cl16 (sim_wire_Read k ([(0 : UInt8), (1 : UInt8), (7 : UInt8), (9 : UInt8)] : (List UInt8)) (v_32, x_33) hv_v_32) .func (.cons (.tmp rfl) .nil) rfl) (fun q => ?_)
     obtain ⟨gb_34, go_35, gc_36⟩ := q
     refine jc (op_assign lb (.tmp rfl)) ?_
     refine JL.nil ?_
     refine JQ.then ?_
     refine JC.seq ?_
     refine JC.seq ?_
     refine JC.region ?_
     refine jc (op_move lb (.tmp rfl)) ?_
     refine jc (op_nilP (neg := false) lb tu36 (.tmp rfl) (HasO.const (p := PTO none) fun _ => rfl)) ?_
     refine JL.nil ?_
     refine JQ.then ?_
     refine JC.condF (.tmp rfl) rfl ?_
     refine JC.skip ?_
     refine JQ.then ?_
     refine JC.seq ?_
     refine JC.region ?_
     refine jc (op_move lb (.tmp rfl)) ?_
     replace hq1 := bnd_inv hq1
     obtain ⟨⟨v_37, x_38, x_39, x_40, x_41, x_42⟩, hv_v_37, hq1⟩ := hq1
     refine jx (op_call (js := [0, 0]) ld cl26 (sim_wire_Reader_Blob k (0) x_33 true true v_32 gb_34 go_35 gc_36 (v_37, x_38, x_39, x_40, x_41, x_42) hv_v_37) .func (.cons (.tmp rfl) .nil) rfl) (fun _ => ?_)
     refine jc (op_move lb (.tmp rfl)) ?_
     refine JL.sub ⟨[(9, ov (PTR gb_34 0)), (66, ov (HDX go_35 (v_37 * 1) x_38)), (67, ov (PTR gb_34 0))], [cown go_35 (rU UInt8) v_32 0 gc_36, cvar gb_34 (rP (rW (HDX go_35 (x_39 * 1) x_40)) (rP rB (rP rB r0))) ((), (x_41, (x_42, ())))], []⟩ (.cons rfl (.cons rfl (.cons rfl .nil))) rfl rfl ?_
     replace hq1 := bnd_inv hq1
     obtain ⟨v_43, hv_v_43, hq1⟩ := hq1
     refine jx (op_call (js := [1, 0]) ld cl18 (sim_wire_Reader_Left k x_39 x_40 x_41 x_42 v_32 gb_34 go_35 gc_36 v_43 hv_v_43) .func (.cons (.tmp rfl) .nil) rfl) (fun _ => ?_)
     refine jc (op_move lb (.tmp rfl)) ?_
     replace hq1 := bnd_inv hq1
     obtain ⟨⟨v_44, x_45, x_46, x_47, x_48⟩, hv_v_44, hq1⟩ := hq1
     refine jx (op_call (js := [0, 0]) ld cl39 (sim_wire_Reader_Number k (2 : Int) x_39 x_40 x_41 x_42 v_32 gb_34 go_35 gc_36 (v_44, x_45, x_46, x_47, x_48) hv_v_44) .func (.cons (.tmp rfl) (.cons .cI .nil)) rfl) (fun _ => ?_)
     refine jc (op_assign lb (.tmp rfl)) ?_
     refine jc (op_assign lb (.tmp rfl)) ?_
     refine jc (op_assign lb (.tmp rfl)) ?_
     refine JL.nil ?_
     refine JQ.then ?_
     replace hq1 := bnd_inv hq1
     obtain ⟨t_61, hx21, hq21⟩ := hq1
     refine JC.seqJ (γ := Unit) (stj := fun q => ⟨[(0, ov (S rB t_61))], [], []⟩) (fun q => ?_) ?_
     · obtain _ := q
       refine JC.at ⟨[(0, ov (S rB t_61))], [], []⟩ ?_
       refine JC.ret ?_
       replace hq21 := Option.some.inj hq21
       subst hq21
       exact JQ.done (js := []) (ss := [.val (S rB t_61)]) () (.inl rfl) (.nil rfl) rfl (.cons (.tmp rfl) .nil) rfl rfl rfl
     · refine JC.region ?_
       refine jc (op_move lb (.tmp rfl)) ?_
       replace hx21 := bnd_inv hx21
       obtain ⟨v_49, hv_v_49, hx21⟩ := hx21
       refine jc (op_convXS (j := 1) (o := v_37) lb tu23 tu5 tu9 rfl (.tmp rfl) hv_v_49) ?_
       refine JL.sub ⟨[(9, ov (PTR gb_34 0)), (11, ov (S (rI .i64) v_43)), (12, ov (S (rU UInt64) v_44)), (72, ov (S rS v_49))], [cvar gb_34 (rP (rW (HDX go_35 (x_45 * 1) x_46)) (rP rB (rP rB r0))) ((), (x_47, (x_48, ()))), cown go_35 (rU UInt8) v_32 0 gc_36], []⟩ (.cons rfl (.cons rfl (.cons rfl (.cons rfl .nil)))) rfl rfl ?_
       replace hx21 := lt1_inv hx21
       obtain ⟨v_50, hv_v_50, hx21⟩ := hx21
       refine jc (op_cmpS lb (.tmp rfl) (HasO.cS (l := [7]) rfl) (congrArg some hv_v_50)) ?_
       refine jc (op_move lb (.tmp rfl)) ?_
       refine JL.cnd (sv := ov (S (rI .i64) v_43)) (Guard.isT (ltB rfl) rfl rfl) rfl (ltB rfl) (fun hq_22 => op_move lb (.tmp rfl)) ?_
       replace hx21 := lt1_inv hx21
       obtain ⟨v_51, hv_v_51, hx21⟩ := hx21
       refine JL.cnd (sv := ov (S rB v_51)) (Guard.isT (ltB rfl) rfl rfl) rfl (ltB rfl) (fun hq_23 => op_cmpI lb (HasO.cnd (.tmp rfl) hq_23) .cI (congrArg some hv_v_51)) ?_
       replace hx21 := lt1_inv hx21
       obtain ⟨v_52, hv_v_52, hx21⟩ := hx21
       refine jc (op_pickCS lb (.tmp rfl) (fun hb24 => (HasO.cnd (.tmp rfl) hb24)) (fun hb24 => .cB) hv_v_52) ?_
       refine jc (op_move lb (.tmp rfl)) ?_
       refine JL.cnd (sv := ov (S (rU UInt64) v_44)) (Guard.isT (ltB rfl) rfl rfl) rfl (ltB rfl) (fun hq_25 => op_move lb (.tmp rfl)) ?_
       replace hx21 := lt1_inv hx21
       obtain ⟨v_53, hv_v_53, hx21⟩ := hx21
       refine JL.cnd (sv := ov (S rB v_53)) (Guard.isT (ltB rfl) rfl rfl) rfl (ltB rfl) (fun hq_26 => op_cmpU lb (HasO.cnd (.tmp rfl) hq_26) (HasO.cU (x := (0 : UInt64)) rfl (by decide)) (congrArg some hv_v_53)) ?_
       replace hx21 := lt1_inv hx21
       obtain ⟨v_54, hv_v_54, hx21⟩ := hx21
       refine jc (op_pickCS lb (.tmp rfl) (fun hb27 => (HasO.cnd (.tmp rfl) hb27)) (fun hb27 => .cB) hv_v_54) ?_
       refine jc (op_move lb (.tmp rfl)) ?_
       replace hx21 := iteB_inv hx21
       rcases hx21 with ⟨hc29, hx21⟩ | ⟨hc29, hx21⟩
       · refine JL.run (.yes rfl (ltB rfl) rfl hc29) (op_move lb (.tmp rfl)) ?_
         replace hx21 := bnd_inv hx21
         obtain ⟨v_55, hv_v_55, hx21⟩ := hx21
         refine JL.runX (.yes rfl (ltB rfl) rfl hc29) (op_call (js := [0, 0]) ld cl20 (sim_wire_Reader_Failed k x_45 x_46 x_47 x_48 v_32 gb_34 go_35 gc_36 v_55 hv_v_55) .func (.cons (.tmp rfl) .nil) rfl) (fun _ => ?_)
         refine JL.sub ⟨[(9, ov (PTR gb_34 0)), (82, ov (S rB v_54)), (84, ov (S rB v_55))], [cvar gb_34 (rP (rW (HDX go_35 (x_45 * 1) x_46)) (rP rB (rP rB r0))) ((), (x_47, (x_48, ()))), cown go_35 (rU UInt8) v_32 0 gc_36], []⟩ (.cons rfl (.cons rfl (.cons rfl .nil))) rfl rfl ?_
         refine jc (op_pickT lb (.tmp rfl) hc29 (.tmp rfl)) ?_
         refine jc (op_move lb (.tmp rfl)) ?_
         replace hx21 := iteB_inv hx21
         rcases hx21 with ⟨hc31, hx21⟩ | ⟨hc31, hx21⟩
         · refine JL.run (.yes rfl (ltB rfl) rfl hc31) (op_move lb (.tmp rfl)) ?_
           replace hx21 := bnd_inv hx21
           obtain ⟨v_56, hv_v_56, hx21⟩ := hx21
           refine JL.runX (.yes rfl (ltB rfl) rfl hc31) (op_call (js := [0, 0]) ld cl18 (sim_wire_Reader_Left k x_45 x_46 x_47 x_48 v_32 gb_34 go_35 gc_36 v_56 hv_v_56) .func (.cons (.tmp rfl) .nil) rfl) (fun _ => ?_)
           replace hx21 := lt1_inv hx21
           obtain ⟨v_57, hv_v_57, hx21⟩ := hx21
           refine JL.run (.yes rfl (ltB rfl) rfl hc31) (op_cmpI lb (.tmp rfl) .cI (congrArg some hv_v_57)) ?_
           refine jc (op_pickT lb (.tmp rfl) hc31 (.tmp rfl)) ?_
           refine jc (op_move lb (.tmp rfl)) ?_
           replace hx21 := iteB_inv hx21
           rcases hx21 with ⟨hc33, hx21⟩ | ⟨hc33, hx21⟩
           · refine JL.run (.yes rfl (ltB rfl) rfl hc33) (op_move lb (.tmp rfl)) ?_
             replace hx21 := bnd_inv hx21
             obtain ⟨v_58, hv_v_58, hx21⟩ := hx21
             refine JL.runX (.yes rfl (ltB rfl) rfl hc33) (op_call (js := [0, 0]) ld cl21 (sim_wire_Reader_End k x_45 x_46 x_47 x_48 v_32 gb_34 go_35 gc_36 v_58 hv_v_58) .func (.cons (.tmp rfl) .nil) rfl) (fun _ => ?_)
             replace hx21 := bnd_inv hx21
             obtain ⟨_, hv_u_59, hx21⟩ := hx21
             refine JL.runX (.yes rfl (ltB rfl) rfl hc33) (op_call (js := []) ld cl13 (sim_law01_num k v_58 () hv_u_59) .func (.cons (.tmp rfl) .nil) rfl) (fun _ => ?_)
             replace hx21 := lt1_inv hx21
             obtain ⟨v_60, hv_v_60, hx21⟩ := hx21
             refine JL.run (.yes rfl (ltB rfl) rfl hc33) (op_cmpI lb (.tmp rfl) .cI (congrArg some hv_v_60)) ?_
             refine jc (op_pickT lb (.tmp rfl) hc33 (.tmp rfl)) ?_
             refine JL.nrm ⟨[(96, ov (S rB v_60))], [], []⟩ [] rfl (.cons rfl .nil) rfl ?_
             refine jc (op_assign lb (.tmp rfl)) ?_
             refine JL.nil ?_
             replace hx21 := Option.some.inj hx21
             first | subst hx21 | clear hx21
             exact JQ.join () (Imp.norm (js := []) rfl (.cons rfl .nil))
           · refine JL.skip (.no rfl (ltB rfl) rfl hc33) (fun d h => by cases h; exact ltB rfl) ?_
             refine JL.skip (.no rfl (ltB rfl) rfl hc33) (fun d h => by cases h; exact ltB rfl) ?_
             refine JL.skip (.no rfl (ltB rfl) rfl hc33) (fun d h => by cases h; exact ltB rfl) ?_
             refine JL.skip (.no rfl (ltB rfl) rfl hc33) (fun d h => by cases h; exact ltB rfl) ?_
             refine jc (op_pickF lb (.tmp rfl) hc33 .cB) ?_
             refine jc (op_assign lb (.tmp rfl)) ?_
             refine JL.nil ?_
             replace hx21 := Option.some.inj hx21
             first | subst hx21 | clear hx21
             exact JQ.join () (Imp.norm (js := []) rfl (.cons rfl .nil))
         · refine JL.skip (.no rfl (ltB rfl) rfl hc31) (fun d h => by cases h; exact ltB rfl) ?_
           refine JL.skip (.no rfl (ltB rfl) rfl hc31) (fun d h => by cases h; exact ltB rfl) ?_
           refine JL.skip (.no rfl (ltB rfl) rfl hc31) (fun d h => by cases h; exact ltB rfl) ?_
           refine jc (op_pickF lb (.tmp rfl) hc31 .cB) ?_
           refine jc (op_move lb (.tmp rfl)) ?_
           refine JL.skip (.no rfl (ltB rfl) rfl rfl) (fun d h => by cases h; exact ltB rfl) ?_
           refine JL.skip (.no rfl (ltB rfl) rfl rfl) (fun d h => by cases h; exact ltB rfl) ?_
           refine JL.skip (.no rfl (ltB rfl) rfl rfl) (fun d h => by cases h; exact ltB rfl) ?_
           refine JL.skip (.no rfl (ltB rfl) rfl rfl) (fun d h => by cases h; exact ltB rfl) ?_
           refine jc (op_pickF lb (.tmp rfl) rfl .cB) ?_
           refine jc (op_assign lb (.tmp rfl)) ?_
           refine JL.nil ?_
           replace hx21 := Option.some.inj hx21
           first | subst hx21 | clear hx21
           exact JQ.join () (Imp.norm (js := []) rfl (.cons rfl .nil))
       · refine JL.skip (.no rfl (ltB rfl) rfl hc29) (fun d h => by cases h; exact ltB rfl) ?_
         refine JL.skip (.no rfl (ltB rfl) rfl hc29) (fun d h => by cases h; exact ltB rfl) ?_
         refine jc (op_pickF lb (.tmp rfl) hc29 .cB) ?_
         refine jc (op_move lb (.tmp rfl)) ?_
         refine JL.sub ⟨[(9, ov (PTR gb_34 0)), (86, ov (S rB false))], [cvar gb_34 (rP (rW (HDX go_35 (x_45 * 1) x_46)) (rP rB (rP rB r0))) ((), (x_47, (x_48, ()))), cown go_35 (rU UInt8) v_32 0 gc_36], []⟩ (.cons rfl (.cons rfl .nil)) rfl rfl ?_
         refine JL.skip (.no rfl (ltB rfl) rfl rfl) (fun d h => by cases h; exact ltB rfl) ?_
         refine JL.skip (.no rfl (ltB rfl) rfl rfl) (fun d h => by cases h; exact ltB rfl) ?_
         refine JL.skip (.no rfl (ltB rfl) rfl rfl) (fun d h => by cases h; exact ltB rfl) ?_
         refine jc (op_pickF lb (.tmp rfl) rfl .cB) ?_
         refine jc (op_move lb (.tmp rfl)) ?_
         refine JL.skip (.no rfl (ltB rfl) rfl rfl) (fun d h => by cases h; exact ltB rfl) ?_
         refine JL.skip (.no rfl (ltB rfl) rfl rfl) (fun d h => by cases h; exact ltB rfl) ?_
         refine JL.skip (.no rfl (ltB rfl) rfl rfl) (fun d h => by cases h; exact ltB rfl) ?_
         refine JL.skip (.no rfl (ltB rfl) rfl rfl) (fun d h => by cases h; exact ltB rfl) ?_
         refine jc (op_pickF lb (.tmp rfl) rfl .cB) ?_
         refine jc (op_assign lb (.tmp rfl)) ?_
         refine JL.nil ?_
         replace hx21 := Option.some.inj hx21
         first | subst hx21 | clear hx21
         exact JQ.join () (Imp.norm (js := []) rfl (.cons rfl .nil))
 · refine JC.region ?_
   refine jc (op_move lb (.tmp rfl)) ?_
   refine jc (op_convOS (j := 2) lb tu23 tu5 tu9 rfl (.tmp rfl)) ?_
   replace hx1 := lt1_inv hx1
   obtain ⟨v_18, hv_v_18, hx1⟩ := hx1
   refine jc (op_cmpS lb (.tmp rfl) (HasO.cS (l := [1, 2]) rfl) (congrArg some hv_v_18)) ?_
   refine jc (op_move lb (.tmp rfl)) ?_
   refine JL.cnd (sv := ov (S (rI .i64) v_6)) (Guard.isF (ltB rfl) rfl rfl) rfl (ltB rfl) (fun hq_2 => op_move lb (.tmp rfl)) ?_
   replace hx1 := bnd_inv hx1
   obtain ⟨_, hv_u_19, hx1⟩ := hx1
   refine JL.cnd (sv := ov (S (rI .i64) v_6)) (Guard.isF (ltB rfl) rfl rfl) rfl (ltB rfl) (fun hq_3 => (op_call (js := []) ld cl13 (sim_law01_num k v_6 () (ifT hv_u_19 hq_3)) .func (.cons (HasO.cnd (.tmp rfl) (notT (notF hq_3))) .nil) rfl).post (fun _ => Imp.refl)) ?_
   replace hx1 := lt1_inv hx1
   obtain ⟨v_20, hv_v_20, hx1⟩ := hx1
   refine JL.cnd (sv := ov (S rB v_20)) (Guard.isF (ltB rfl) rfl rfl) rfl (ltB rfl) (fun hq_4 => op_cmpI lb (HasO.cnd (.tmp rfl) (notT (notF hq_4))) .cI (congrArg some hv_v_20)) ?_
   replace hx1 := lt1_inv hx1
   obtain ⟨v_21, hv_v_21, hx1⟩ := hx1
   refine jc (op_pickCS lb (.tmp rfl) (fun hb5 => .cB) (fun hb5 => (HasO.cnd (.tmp rfl) (notT hb5))) hv_v_21) ?_
   refine jc (op_move lb (.tmp rfl)) ?_
   replace hx1 := iteB_inv hx1
   rcases hx1 with ⟨hc7, hx1⟩ | ⟨hc7, hx1⟩
   · refine JL.skip (.no rfl (ltB rfl) rfl hc7) (fun d h => by cases h; exact ltB rfl) ?_
     refine JL.skip (.no rfl (ltB rfl) rfl hc7) (fun d h => by cases h; exact ltB rfl) ?_
     refine JL.skip (.no rfl (ltB rfl) rfl hc7) (fun d h => by cases h; exact ltB rfl) ?_
     refine jc (op_pickT lb (.tmp rfl) hc7 .cB) ?_
     refine JL.nrm ⟨[(2, ov (S (rI .i64) v_2)), (6, ov (S (rI .i64) v_11)), (7, ov (HDR go_16 0 (List.length v_14) gc_17)), (8, ov (S (rI .i64) v_15)), (44, ov (S rB true))], [cown go_16 (rU UInt8) v_14 0 gc_17], []⟩ [0] rfl (.cons rfl (.cons rfl (.cons rfl (.cons rfl (.cons rfl .nil))))) rfl ?_
     refine jc (op_move lb (.tmp rfl)) ?_
     refine JL.skip (.no rfl (ltB rfl) rfl rfl) (fun d h => by cases h; exact ltB rfl) ?_
     refine JL.skip (.no rfl (ltB rfl) rfl rfl) (fun d h => by cases h; exact ltB rfl) ?_
     refine JL.skip (.no rfl (ltB rfl) rfl rfl) (fun d h => by cases h; exact ltB rfl) ?_
     refine jc (op_pickT lb (.tmp rfl) rfl .cB) ?_
     refine jc (op_move lb (.tmp rfl)) ?_
     refine JL.skip (.no rfl (ltB rfl) rfl rfl) (fun d h => by cases h; exact ltB rfl) ?_
     refine JL.skip (.no rfl (ltB rfl) rfl rfl) (fun d h => by cases h; exact ltB rfl) ?_
     refine JL.skip (.no rfl (ltB rfl) rfl rfl) (fun d h => by cases h; exact ltB rfl) ?_
     refine JL.skip (.no rfl (ltB rfl) rfl rfl) (fun d h => by cases h; exact ltB rfl) ?_
     refine JL.skip (.no rfl (ltB rfl) rfl rfl) (fun d h => by cases h; exact ltB rfl) ?_
     refine JL.skip (.no rfl (ltB rfl) rfl rfl) (fun d h => by cases h; exact ltB rfl) ?_
     refine JL.skip (.no rfl (ltB rfl) rfl rfl) (fun d h => by cases h; exact ltB rfl) ?_
     refine JL.skip (.no rfl (ltB rfl) rfl rfl) (fun d h => by cases h; exact ltB rfl) ?_
     refine JL.skip (.no rfl (ltB rfl) rfl rfl) (fun d h => by cases h; exact ltB rfl) ?_
     refine jc (op_pickT lb (.tmp rfl) rfl .cB) ?_
     refine JL.nil ?_
     replace hx1 := Option.some.inj hx1
     first | subst hx1 | clear hx1
     exact JQ.join () (Imp.norm (js := []) rfl (.cons rfl .nil))
   · refine JL.run (.yes rfl (ltB rfl) rfl hc7) (op_move lb (.tmp rfl)) ?_
     refine JL.nrm ⟨[(2, ov (S (rI .i64) v_2)), (6, ov (S (rI .i64) v_11)), (7, ov (HDR go_16 0 (List.length v_14) gc_17)), (8, ov (S (rI .i64) v_15)), (40, ov (S rB v_21)), (41, ov (HDR go_12 0 (List.length v_10) gc_13))], [cown go_16 (rU UInt8) v_14 0 gc_17, cown go_12 (rU UInt8) v_10 0 gc_13], []⟩ [0, 0] rfl (.cons rfl (.cons rfl (.cons rfl (.cons rfl (.cons rfl (.cons rfl .nil)))))) rfl ?_
     refine JL.run (.yes rfl (ltB rfl) rfl hc7) (op_convOS (j := 1) lb tu23 tu5 tu9 rfl (.tmp rfl)) ?_
     replace hx1 := lt1_inv hx1
     obtain ⟨v_22, hv_v_22, hx1⟩ := hx1
     refine JL.run (.yes rfl (ltB rfl) rfl hc7) (op_cmpS lb (.tmp rfl) (HasO.cS (l := [0, 2, 97, 98]) rfl) (congrArg some hv_v_22)) ?_
     refine jc (op_pickF lb (.tmp rfl) hc7 (.tmp rfl)) ?_
     refine jc (op_move lb (.tmp rfl)) ?_
     replace hx1 := iteB_inv hx1
     rcases hx1 with ⟨hc9, hx1⟩ | ⟨hc9, hx1⟩
     · refine JL.skip (.no rfl (ltB rfl) rfl hc9) (fun d h => by cases h; exact ltB rfl) ?_
       refine JL.skip (.no rfl (ltB rfl) rfl hc9) (fun d h => by cases h; exact ltB rfl) ?_
       refine JL.skip (.no rfl (ltB rfl) rfl hc9) (fun d h => by cases h; exact ltB rfl) ?_
       refine jc (op_pickT lb (.tmp rfl) hc9 .cB) ?_
       refine jc (op_move lb (.tmp rfl)) ?_
       refine JL.skip (.no rfl (ltB rfl) rfl rfl) (fun d h => by cases h; exact ltB rfl) ?_
       refine JL.skip (.no rfl (ltB rfl) rfl rfl) (fun d h => by cases h; exact ltB rfl) ?_
       refine JL.skip (.no rfl (ltB rfl) rfl rfl) (fun d h => by cases h; exact ltB rfl) ?_
       refine JL.skip (.no rfl (ltB rfl) rfl rfl) (fun d h => by cases h; exact ltB rfl) ?_
       refine JL.skip (.no rfl (ltB rfl) rfl rfl) (fun d h => by cases h; exact ltB rfl) ?_
       refine JL.skip (.no rfl (ltB rfl) rfl rfl) (fun d h => by cases h; exact ltB rfl) ?_
       refine JL.skip (.no rfl (ltB rfl) rfl rfl) (fun d h => by cases h; exact ltB rfl) ?_
       refine JL.skip (.no rfl (ltB rfl) rfl rfl) (fun d h => by cases h; exact ltB rfl) ?_
       refine JL.skip (.no rfl (ltB rfl) rfl rfl) (fun d h => by cases h; exact ltB rfl) ?_
       refine jc (op_pickT lb (.tmp rfl) rfl .cB) ?_
       refine JL.nil ?_
       replace hx1 := Option.some.inj hx1
       first | subst hx1 | clear hx1
       exact JQ.join () (Imp.norm (js := []) rfl (.cons rfl .nil))
     · refine JL.run (.yes rfl (ltB rfl) rfl hc9) (op_move lb (.tmp rfl)) ?_
       refine JL.run (.yes rfl (ltB rfl) rfl hc9) (op_convOS (j := 0) lb tu23 tu5 tu9 rfl (.tmp rfl)) ?_
       replace hx1 := lt1_inv hx1
       obtain ⟨v_23, hv_v_23, hx1⟩ := hx1
       refine JL.run (.yes rfl (ltB rfl) rfl hc9) (op_cmpS lb (.tmp rfl) (HasO.cS (l := [2, 0, 0, 0, 0, 0, 0, 0, 5]) rfl) (congrArg some hv_v_23)) ?_
       refine jc (op_pickF lb (.tmp rfl) hc9 (.tmp rfl)) ?_
       refine jc (op_move lb (.tmp rfl)) ?_
       refine JL.cnd (sv := ov (S (rI .i64) v_2)) (Guard.isF (ltB rfl) rfl rfl) rfl (ltB rfl) (fun hq_10 => op_move lb (.tmp rfl)) ?_
       replace hx1 := bnd_inv hx1
       obtain ⟨_, hv_u_24, hx1⟩ := hx1
       refine JL.cnd (sv := ov (S (rI .i64) v_2)) (Guard.isF (ltB rfl) rfl rfl) rfl (ltB rfl) (fun hq_11 => (op_call (js := []) ld cl13 (sim_law01_num k v_2 () (ifT hv_u_24 hq_11)) .func (.cons (HasO.cnd (.tmp rfl) (notT (notF hq_11))) .nil) rfl).post (fun _ => Imp.refl)) ?_
       refine JL.cnd (sv := ov (S (rI .i64) v_11)) (Guard.isF (ltB rfl) rfl rfl) rfl (ltB rfl) (fun hq_12 => op_move lb (.tmp rfl)) ?_
       refine JL.nrm ⟨[(8, ov (S (rI .i64) v_15)), (50, ov (S rB v_23)), (52, bif (!v_23) then ov (S (rI .i64) v_2) else .one .und), (53, bif (!v_23) then ov (S (rI .i64) v_11) else .one .und)], [], []⟩ [] rfl (.cons rfl (.cons rfl (.cons rfl (.cons rfl .nil)))) rfl ?_
       replace hx1 := bnd_inv hx1
       obtain ⟨_, hv_u_25, hx1⟩ := hx1
       refine JL.cnd (sv := ov (S (rI .i64) v_11)) (Guard.isF (ltB rfl) rfl rfl) rfl (ltB rfl) (fun hq_13 => (op_call (js := []) ld cl13 (sim_law01_num k v_11 () (ifT hv_u_25 hq_13)) .func (.cons (HasO.cnd (.tmp rfl) (notT (notF hq_13))) .nil) rfl).post (fun _ => Imp.refl)) ?_
       replace hx1 := lt1_inv hx1
       obtain ⟨v_26, hv_v_26, hx1⟩ := hx1
       refine JL.cnd (sv := ov (S (rI .i64) v_26)) (Guard.isF (ltB rfl) rfl rfl) rfl (ltB rfl) (fun hq_14 => op_arI lb (HasO.cnd (.tmp rfl) (notT (notF hq_14))) (HasO.cnd (.tmp rfl) (notT (notF hq_14))) (congrArg some hv_v_26)) ?_
       refine JL.cnd (sv := ov (S (rI .i64) v_15)) (Guard.isF (ltB rfl) rfl rfl) rfl (ltB rfl) (fun hq_15 => op_move lb (.tmp rfl)) ?_
       replace hx1 := bnd_inv hx1
       obtain ⟨_, hv_u_27, hx1⟩ := hx1
       refine JL.cnd (sv := ov (S (rI .i64) v_15)) (Guard.isF (ltB rfl) rfl rfl) rfl (ltB rfl) (fun hq_16 => (op_call (js := []) ld cl13 (sim_law01_num k v_15 () (ifT hv_u_27 hq_16)) .func (.cons (HasO.cnd (.tmp rfl) (notT (notF hq_16))) .nil) rfl).post (fun _ => Imp.refl)) ?_
       replace hx1 := lt1_inv hx1
       obtain ⟨v_28, hv_v_28, hx1⟩ := hx1
       refine JL.cnd (sv := ov (S (rI .i64) v_28)) (Guard.isF (ltB rfl) rfl rfl) rfl (ltB rfl) (fun hq_17 => op_arI lb (HasO.cnd (.tmp rfl) (notT (notF hq_17))) (HasO.cnd (.tmp rfl) (notT (notF hq_17))) (congrArg some hv_v_28)) ?_
       replace hx1 := lt1_inv hx1
       obtain ⟨v_29, hv_v_29, hx1⟩ := hx1
       refine JL.cnd (sv := ov (S rB v_29)) (Guard.isF (ltB rfl) rfl rfl) rfl (ltB rfl) (fun hq_18 => op_cmpI lb (HasO.cnd (.tmp rfl) (notT (notF hq_18))) .cI (congrArg some hv_v_29)) ?_
       replace hx1 := lt1_inv hx1
       obtain ⟨v_30, hv_v_30, hx1⟩ := hx1
       refine jc (op_pickCS lb (.tmp rfl) (fun hb19 => .cB) (fun hb19 => (HasO.cnd (.tmp rfl) (notT hb19))) hv_v_30) ?_
       refine JL.nil ?_
       replace hx1 := Option.some.inj hx1
       first | subst hx1 | clear hx1
       exact JQ.join () (Imp.norm (js := []) rfl (.cons rfl .nil))

end Go.Proofs.Ytkbkdfcakpbojaa
