/- Walks. -/
import Derived.Test.YtkbkdfcakpbojaaT
import Derived.Test.YtkbkdfcakpbojaaW0
import Derived.Test.YtkbkdfcakpbojaaW1
namespace Go.Proofs.Ytkbkdfcakpbojaa
open Go Fw
set_option linter.unusedVariables false
set_option maxRecDepth 100000
set_option maxHeartbeats 4000000

theorem sim_wire_Reader_End (k : Nat) (r_1 : wire_Reader) (gb_2 : Nat) (r : Int) (hm : wire_Reader_End k r_1 = some r) : Sim Try.prog 21 [PTR gb_2 0] [cvar gb_2 r_wire_Reader r_1] (γ := Unit) (fun q => [cvar gb_2 r_wire_Reader r_1]) (fun q => .one (.val (S (rI .i64) r))) := by
 unfold wire_Reader_End at hm
 refine Sim.of Try.func21 rfl rfl (Nat.le_of_ble_eq_true rfl) (fun e0 w0 => ?_)
 refine JC.at ⟨[(0, ov (PTR gb_2 0))], [cvar gb_2 r_wire_Reader r_1], []⟩ ?_
 refine JC.seq ?_
 refine JC.region ?_
 refine jc (op_assign lb .cI) ?_
 refine JL.nil ?_
 refine JQ.then ?_
 refine JC.seq ?_
 refine JC.block ?_
 replace hm := bnd_inv hm
 obtain ⟨x_4, hx1, hq1⟩ := hm
 refine JC.seqJ (γ := Unit) (stj := fun q => ⟨[(0, ov (PTR gb_2 0)), (3, ov (S rB x_4))], [cvar gb_2 r_wire_Reader r_1], []⟩) (fun q => ?_) ?_
 · obtain _ := q
   refine JC.at ⟨[(0, ov (PTR gb_2 0)), (3, ov (S rB x_4))], [cvar gb_2 r_wire_Reader r_1], []⟩ ?_
   replace hq1 := iteB_inv hq1
   rcases hq1 with ⟨hc2, hq1⟩ | ⟨hc2, hq1⟩
   · refine JC.condT (.tmp rfl) hc2 ?_
     refine JC.seq ?_
     refine JC.region ?_
     refine jc (op_assign lb .cI) ?_
     refine JL.nil ?_
     refine JQ.then ?_
     refine JC.ret ?_
     refine JQ.outRB ?_
     refine JQ.outR ?_
     replace hq1 := Option.some.inj hq1
     subst hq1
     exact JQ.done (js := [0]) (ss := [.val (S (rI .i64) (1 : Int))]) () (.inl rfl) (.nil rfl) rfl (.cons (.tmp rfl) .nil) rfl rfl rfl
   · refine JC.condF (.tmp rfl) hc2 ?_
     replace hq1 := bnd_inv hq1
     obtain ⟨x_7, hx3, hq3⟩ := hq1
     refine JC.seqJ (γ := Unit) (stj := fun q => ⟨[(13, ov (S rB x_7))], [cvar gb_2 r_wire_Reader r_1], []⟩) (fun q => ?_) ?_
     · obtain _ := q
       refine JC.at ⟨[(13, ov (S rB x_7))], [cvar gb_2 r_wire_Reader r_1], []⟩ ?_
       replace hq3 := iteB_inv hq3
       rcases hq3 with ⟨hc6, hq3⟩ | ⟨hc6, hq3⟩
       · refine JC.condT (.tmp rfl) hc6 ?_
         refine JC.seq ?_
         refine JC.region ?_
         refine jc (op_assign lb .cI) ?_
         refine JL.nil ?_
         refine JQ.then ?_
         refine JC.ret ?_
         refine JQ.outRB ?_
         refine JQ.outR ?_
         replace hq3 := Option.some.inj hq3
         subst hq3
         exact JQ.done (js := [0]) (ss := [.val (S (rI .i64) (4 : Int))]) () (.inl rfl) (.nil rfl) rfl (.cons (.tmp rfl) .nil) rfl rfl rfl
       · refine JC.condF (.tmp rfl) hc6 ?_
         refine JC.skip ?_
         refine JQ.outNB ?_
         refine JQ.then ?_
         refine JC.seq ?_
         refine JC.region ?_
         refine jc (op_assign lb .cI) ?_
         refine JL.nil ?_
         refine JQ.then ?_
         refine JC.ret ?_
         replace hq3 := Option.some.inj hq3
         subst hq3
         exact JQ.done (js := [0]) (ss := [.val (S (rI .i64) (0 : Int))]) () (.inl rfl) (.nil rfl) rfl (.cons (.tmp rfl) .nil) rfl rfl rfl
     · refine JC.region ?_
       refine jc (op_move lb (.tmp rfl)) ?_
       replace hx3 := bnd_inv hx3
       obtain ⟨v_5, hv_v_5, hx3⟩ := hx3
       refine jx (op_call (js := [0]) ld cl20 (sim_wire_Reader_Failed'2 k r_1 gb_2 v_5 hv_v_5) .func (.cons (.tmp rfl) .nil) rfl) (fun _ => ?_)
       refine jc (op_move lb (.tmp rfl)) ?_
       replace hx3 := iteB_inv hx3
       rcases hx3 with ⟨hc5, hx3⟩ | ⟨hc5, hx3⟩
       · refine JL.skip (.no rfl (ltB rfl) rfl hc5) (fun d h => by cases h; exact ltB rfl) ?_
         refine JL.skip (.no rfl (ltB rfl) rfl hc5) (fun d h => by cases h; exact ltB rfl) ?_
         refine JL.skip (.no rfl (ltB rfl) rfl hc5) (fun d h => by cases h; exact ltB rfl) ?_
         refine JL.skip (.no rfl (ltB rfl) rfl hc5) (fun d h => by cases h; exact ltB rfl) ?_
         refine JL.skip (.no rfl (ltB rfl) rfl hc5) (fun d h => by cases h; exact ltB rfl) ?_
         refine JL.skip (.no rfl (ltB rfl) rfl hc5) (fun d h => by cases h; exact ltB rfl) ?_
         refine jc (op_pickT lb (.tmp rfl) hc5 .cB) ?_
         refine jc (op_assign lb (.tmp rfl)) ?_
         refine JL.nil ?_
         replace hx3 := Option.some.inj hx3
         first | subst hx3 | clear hx3
         exact JQ.join () (Imp.norm (js := [0]) rfl (.cons rfl .nil))
       · refine JL.run (.yes rfl (ltB rfl) rfl hc5) (op_move lb (.tmp rfl)) ?_
         refine JL.run (.yes rfl (ltB rfl) rfl hc5) (op_nilCheck lb (.tmp rfl) (fun e v h => by subst h; rfl)) ?_
         refine JL.run (.yes rfl (ltB rfl) rfl hc5) (op_fieldAddr (off := 0) lb tf75_0 (.tmp rfl)) ?_
         refine JL.run (.yes rfl (ltB rfl) rfl hc5) (op_loadS (j := 0) lb tS23 (.tmp rfl) rfl (Comp.trans (Comp.self r_wire_Reader r_1) (comp_wire_Reader_rest r_1) (Nat.le_of_ble_eq_true rfl)) rfl rfl) ?_
         refine JL.run (.yes rfl (ltB rfl) rfl hc5) (op_lenL lb tu23 (.tmp rfl)) ?_
         replace hx3 := lt1_inv hx3
         obtain ⟨v_6, hv_v_6, hx3⟩ := hx3
         refine JL.run (.yes rfl (ltB rfl) rfl hc5) (op_cmpI lb (.tmp rfl) .cI (congrArg some hv_v_6)) ?_
         refine jc (op_pickF lb (.tmp rfl) hc5 (.tmp rfl)) ?_
         refine jc (op_assign lb (.tmp rfl)) ?_
         refine JL.nil ?_
         replace hx3 := Option.some.inj hx3
         first | subst hx3 | clear hx3
         exact JQ.join () (Imp.norm (js := [0]) rfl (.cons rfl .nil))
 · refine JC.region ?_
   refine jc (op_move lb (.tmp rfl)) ?_
   refine jc (op_nilP (neg := false) lb tu36 (.tmp rfl) (HasO.const (p := PTO none) fun _ => rfl)) ?_
   refine jc (op_move lb (.tmp rfl)) ?_
   refine JL.run (.yes rfl (ltB rfl) rfl rfl) (op_move lb (.tmp rfl)) ?_
   refine JL.run (.yes rfl (ltB rfl) rfl rfl) (op_nilCheck lb (.tmp rfl) (fun e v h => by subst h; rfl)) ?_
   refine JL.run (.yes rfl (ltB rfl) rfl rfl) (op_fieldAddr (off := 2) lb tf75_2 (.tmp rfl)) ?_
   refine JL.run (.yes rfl (ltB rfl) rfl rfl) (op_loadS (j := 0) lb tS4 (.tmp rfl) rfl (Comp.trans (Comp.self r_wire_Reader r_1) (comp_wire_Reader_made r_1) (Nat.le_of_ble_eq_true rfl)) rfl rfl) ?_
   replace hx1 := lt1_inv hx1
   obtain ⟨v_3, hv_v_3, hx1⟩ := hx1
   refine JL.run (.yes rfl (ltB rfl) rfl rfl) (op_not lb (.tmp rfl) hv_v_3) ?_
   refine jc (op_pickF lb (.tmp rfl) rfl (.tmp rfl)) ?_
   refine jc (op_assign lb (.tmp rfl)) ?_
   refine JL.nil ?_
   replace hx1 := Option.some.inj hx1
   first | subst hx1 | clear hx1
   exact JQ.join () (Imp.norm (js := [0]) rfl (.cons rfl (.cons rfl .nil)))

theorem sim_law01_known (k : Nat) (r : Bool) (hm : law01_known k = some r) : Sim Try.prog 9 [] [] (γ := Unit) (fun q => []) (fun q => .one (.val (S rB r))) := by
 unfold law01_known at hm
 refine Sim.of Try.func9 rfl rfl (Nat.le_of_ble_eq_true rfl) (fun e0 w0 => ?_)
 refine JC.at ⟨[], [], []⟩ ?_
 refine JC.seq ?_
 refine JC.region ?_
 refine jc (op_assign lb .cB) ?_
 refine JL.nil ?_
 refine JQ.then ?_
 refine JC.seq ?_
 refine JC.region ?_
 replace hm := bnd_inv hm
 obtain ⟨⟨v_1, v_2⟩, hv_v_1, hm⟩ := hm
 refine jx (op_call (js := []) ld cl10 (sim_wire_Put k (258 : UInt64) (2 : Int) (v_1, v_2) hv_v_1) .func (.cons (HasO.cU (x := (258 : UInt64)) rfl (by decide)) (.cons .cI .nil)) rfl) (fun q => ?_)
 obtain ⟨go_3, gc_4⟩ := q
 refine jc (op_move lb (.tmp rfl)) ?_
 refine jc (op_extract (i := 0) lb (.tmp rfl) rfl) ?_
 refine jc (op_extract (i := 1) lb (.tmp rfl) rfl) ?_
 refine jc (op_assign lb (.tmp rfl)) ?_
 refine jc (op_assign lb (.tmp rfl)) ?_
 refine JL.nil ?_
 refine JQ.then ?_
 refine JC.seq ?_
 refine JC.region ?_
 replace hm := bnd_inv hm
 obtain ⟨⟨v_5, v_6⟩, hv_v_5, hm⟩ := hm
 refine jx (op_call (js := []) ld cl10 (sim_wire_Put k (256 : UInt64) (1 : Int) (v_5, v_6) hv_v_5) .func (.cons (HasO.cU (x := (256 : UInt64)) rfl (by decide)) (.cons .cI .nil)) rfl) (fun q => ?_)
 obtain ⟨go_7, gc_8⟩ := q
 refine JL.sub ⟨[(1, ov (HDR go_3 0 (List.length v_1) gc_4)), (2, ov (S (rI .i64) v_2)), (18, .tup [.val (HDR go_7 0 (List.length v_5) gc_8), .val (S (rI .i64) v_6)])], [cown go_7 (rU UInt8) v_5 0 gc_8, cown go_3 (rU UInt8) v_1 0 gc_4], []⟩ (.cons rfl (.cons rfl (.cons rfl .nil))) rfl rfl ?_
 refine jc (op_move lb (.tmp rfl)) ?_
 refine jc (op_extract (i := 0) lb (.tmp rfl) rfl) ?_
 refine jc (op_extract (i := 1) lb (.tmp rfl) rfl) ?_
 refine jc (op_assign lb (.tmp rfl)) ?_
 refine jc (op_assign lb (.tmp rfl)) ?_
 refine JL.nil ?_
 refine JQ.then ?_
 refine JC.seq ?_
 refine JC.region ?_
 refine jx (op_buildO (r := (rU UInt8)) lb tu23 tz5 tZ5 rfl (Nat.le_of_ble_eq_true rfl) (.S rfl (HasO.cU (x := (97 : UInt8)) rfl (by decide)) (.S rfl (HasO.cU (x := (98 : UInt8)) rfl (by decide)) .nil)) rfl) (fun q => ?_)
 obtain ⟨gb_9, hqq⟩ : ∃ z, z = q := ⟨_, rfl⟩
 subst hqq
 refine jc (op_markO (j := 2) lb tu23 tu5 rfl (.tmp rfl) (Nat.le_of_ble_eq_true rfl)) ?_
 replace hm := bnd_inv hm
 obtain ⟨⟨v_10, v_11⟩, hv_v_10, hm⟩ := hm
 refine JL.pre (Imp.frz (j := 2) rfl (ImpK.slotH (s := 22) rfl (ImpK.slotH (s := 23) rfl ImpK.refl))) ?_
 refine jx (op_call (js := []) ld cl31 (sim_wire_Blob k ([(97 : UInt8), (98 : UInt8)] : (List UInt8)) (v_10, v_11) hv_v_10) .func (.cons (HasO.wk (.tmp rfl) wkHL) .nil) rfl) (fun q => ?_)
 obtain ⟨go_12, gc_13⟩ := q
 refine JL.nrm ⟨[(1, ov (HDR go_3 0 (List.length v_1) gc_4)), (2, ov (S (rI .i64) v_2)), (4, ov (S (rI .i64) v_6)), (24, .tup [.val (HDR go_12 0 (List.length v_10) gc_13), .val (S (rI .i64) v_11)])], [cown go_12 (rU UInt8) v_10 0 gc_13, cown go_3 (rU UInt8) v_1 0 gc_4], []⟩ [0, 1] rfl (.cons rfl (.cons rfl (.cons rfl (.cons rfl .nil)))) rfl ?_
 refine jc (op_move lb (.tmp rfl)) ?_
 refine jc (op_extract (i := 0) lb (.tmp rfl) rfl) ?_
 refine jc (op_extract (i := 1) lb (.tmp rfl) rfl) ?_
 refine jc (op_assign lb (.tmp rfl)) ?_
 refine jc (op_assign lb (.tmp rfl)) ?_
 refine JL.nil ?_
 refine JQ.then ?_
 refine JC.seq ?_
 refine JC.region ?_
 refine jc (op_build lb tZ48 zs48 tp48 (.S (off := 0) rfl .cI rfl ((UpdR.fst (UpdR.self (by rfl))).at (by rfl)) (.S (off := 1) rfl (HasO.cU (x := (5 : UInt64)) rfl (by decide)) rfl ((UpdR.snd (UpdR.fst (UpdR.self (by rfl)))).at (by rfl)) .nil)) rfl) ?_
 replace hm := bnd_inv hm
 obtain ⟨⟨v_14, v_15⟩, hv_v_14, hm⟩ := hm
 refine jx (op_call (js := []) ld cl30 (sim_wire_Dot k (api_Dot.mk (2 : Int) (5 : UInt64)) (v_14, v_15) hv_v_14) .func (.cons (HasO.wk (q := A r_api_Dot (api_Dot.mk (2 : Int) (5 : UInt64))) (.tmp rfl) (wkAK (Wk.st Wk.refl))) .nil) rfl) (fun q => ?_)
 obtain ⟨go_16, gc_17⟩ := q
 refine jc (op_move lb (.tmp rfl)) ?_
 refine jc (op_extract (i := 0) lb (.tmp rfl) rfl) ?_
 refine jc (op_extract (i := 1) lb (.tmp rfl) rfl) ?_
 refine JL.sub ⟨[(1, ov (HDR go_3 0 (List.length v_1) gc_4)), (2, ov (S (rI .i64) v_2)), (4, ov (S (rI .i64) v_6)), (5, ov (HDR go_12 0 (List.length v_10) gc_13)), (6, ov (S (rI .i64) v_11)), (30, ov (HDR go_16 0 (List.length v_14) gc_17)), (31, ov (S (rI .i64) v_15))], [cown go_16 (rU UInt8) v_14 0 gc_17, cown go_12 (rU UInt8) v_10 0 gc_13, cown go_3 (rU UInt8) v_1 0 gc_4], []⟩ (.cons rfl (.cons rfl (.cons rfl (.cons rfl (.cons rfl (.cons rfl (.cons rfl .nil))))))) rfl rfl ?_
 refine jc (op_assign lb (.tmp rfl)) ?_
 refine jc (op_assign lb (.tmp rfl)) ?_
 refine JL.nil ?_
 refine JQ.then ?_
 refine JC.seq ?_
 replace hm := bnd_inv hm
 obtain ⟨x_31, hx1, hq1⟩ := hm
 refine JC.seqJ (γ := Unit) (stj := fun q => ⟨[(60, ov (S rB x_31))], [], []⟩) (fun q => ?_) ?_
 · obtain _ := q
   refine JC.at ⟨[(60, ov (S rB x_31))], [], []⟩ ?_
   replace hq1 := iteB_inv hq1
   rcases hq1 with ⟨hc20, hq1⟩ | ⟨hc20, hq1⟩
   · refine JC.condT (.tmp rfl) hc20 ?_
     refine JC.seq ?_
     refine JC.region ?_
     refine jc (op_assign lb .cB) ?_
     refine JL.nil ?_
     refine JQ.then ?_
     refine JC.ret ?_
     refine JQ.outR ?_
     replace hq1 := Option.some.inj hq1
     subst hq1
     exact JQ.done (js := []) (ss := [.val (S rB false)]) () (.inl rfl) (.nil rfl) rfl (.cons (.tmp rfl) .nil) rfl rfl rfl
   · refine JC.condF (.tmp rfl) hc20 ?_
     refine JC.skip ?_
     refine JQ.then ?_
     refine JC.seq ?_
     refine JC.region ?_
     refine jc (op_buildF (r := (rU UInt8)) lb tu23 tz5 tZ5 rfl (Nat.le_of_ble_eq_true rfl) (.S rfl (HasO.cU (x := (0 : UInt8)) rfl (by decide)) (.S rfl (HasO.cU (x := (1 : UInt8)) rfl (by decide)) (.S rfl (HasO.cU (x := (7 : UInt8)) rfl (by decide)) (.S rfl (HasO.cU (x := (9 : UInt8)) rfl (by decide)) .nil)))) rfl) ?_
     replace hq1 := bnd_inv hq1
     obtain ⟨v_32, hv_v_32, hq1⟩ := hq1
     refine jx (op_call (js := []) ld cl16 (sim_wire_Read k ([(0 : UInt8), (1 : UInt8), (7 : UInt8), (9 : UInt8)] : (List UInt8)) v_32 hv_v_32) .func (.cons (.tmp rfl) .nil) rfl) (fun q => ?_)
     obtain ⟨gb_33, go_34, gc_35⟩ := q
     refine jc (op_assign lb (.tmp rfl)) ?_
     refine JL.nil ?_
     refine JQ.then ?_
     refine JC.seq ?_
     refine JC.seq ?_
     refine JC.region ?_
     refine jc (op_move lb (.tmp rfl)) ?_
     refine jc (op_nilP (neg := false) lb tu36 (.tmp rfl) (HasO.const (p := PTO none) fun _ => rfl)) ?_
     refine JL.nil ?_
     refine JQ.then ?_
     refine JC.condF (.tmp rfl) rfl ?_
     refine JC.skip ?_
     refine JQ.then ?_
     refine JC.seq ?_
     refine JC.region ?_
     refine jc (op_move lb (.tmp rfl)) ?_
     replace hq1 := bnd_inv hq1
     obtain ⟨⟨v_36, x_37⟩, hv_v_36, hq1⟩ := hq1
     refine jx (op_call (js := [0, 0]) ld cl26 (sim_wire_Reader_Blob k true true v_32 gb_33 go_34 gc_35 (v_36, x_37) hv_v_36) .func (.cons (.tmp rfl) .nil) rfl) (fun _ => ?_)
     refine jc (op_move lb (.tmp rfl)) ?_
     refine JL.nrm ⟨[(9, ov (PTR gb_33 0)), (66, ov (S (rL (rU UInt8)) v_36)), (67, ov (PTR gb_33 0))], [cvar gb_33 r_wire_Reader x_37], []⟩ [0] rfl (.cons rfl (.cons rfl (.cons rfl .nil))) rfl ?_
     replace hq1 := bnd_inv hq1
     obtain ⟨v_38, hv_v_38, hq1⟩ := hq1
     refine jx (op_call (js := [0]) ld cl18 (sim_wire_Reader_Left k x_37 gb_33 v_38 hv_v_38) .func (.cons (.tmp rfl) .nil) rfl) (fun _ => ?_)
     refine jc (op_move lb (.tmp rfl)) ?_
     replace hq1 := bnd_inv hq1
     obtain ⟨⟨v_39, x_40⟩, hv_v_39, hq1⟩ := hq1
     refine jx (op_call (js := [0]) ld cl39 (sim_wire_Reader_Number'2 k (2 : Int) x_37 gb_33 (v_39, x_40) hv_v_39) .func (.cons (.tmp rfl) (.cons .cI .nil)) rfl) (fun _ => ?_)
     refine jc (op_assign lb (.tmp rfl)) ?_
     refine jc (op_assign lb (.tmp rfl)) ?_
     refine jc (op_assign lb (.tmp rfl)) ?_
     refine JL.nil ?_
     refine JQ.then ?_
     replace hq1 := bnd_inv hq1
     obtain ⟨t_52, hx21, hq21⟩ := hq1
     refine JC.seqJ (γ := Unit) (stj := fun q => ⟨[(0, ov (S rB t_52))], [], []⟩) (fun q => ?_) ?_
     · obtain _ := q
       refine JC.at ⟨[(0, ov (S rB t_52))], [], []⟩ ?_
       refine JC.ret ?_
       replace hq21 := Option.some.inj hq21
       subst hq21
       exact JQ.done (js := []) (ss := [.val (S rB t_52)]) () (.inl rfl) (.nil rfl) rfl (.cons (.tmp rfl) .nil) rfl rfl rfl
     · refine JC.region ?_
       refine jc (op_move lb (.tmp rfl)) ?_
       refine jc (op_convBS lb tu23 tu5 tu9 (.tmp rfl)) ?_
       replace hx21 := lt1_inv hx21
       obtain ⟨v_41, hv_v_41, hx21⟩ := hx21
       refine jc (op_cmpS lb (.tmp rfl) (HasO.cS (l := [7]) rfl) (congrArg some hv_v_41)) ?_
       refine jc (op_move lb (.tmp rfl)) ?_
       refine JL.sub ⟨[(9, ov (PTR gb_33 0)), (11, ov (S (rI .i64) v_38)), (12, ov (S (rU UInt64) v_39)), (74, ov (S rB v_41))], [cvar gb_33 r_wire_Reader x_40], []⟩ (.cons rfl (.cons rfl (.cons rfl (.cons rfl .nil)))) rfl rfl ?_
       refine JL.cnd (sv := ov (S (rI .i64) v_38)) (Guard.isT (ltB rfl) rfl rfl) rfl (ltB rfl) (fun hq_22 => op_move lb (.tmp rfl)) ?_
       replace hx21 := lt1_inv hx21
       obtain ⟨v_42, hv_v_42, hx21⟩ := hx21
       refine JL.cnd (sv := ov (S rB v_42)) (Guard.isT (ltB rfl) rfl rfl) rfl (ltB rfl) (fun hq_23 => op_cmpI lb (HasO.cnd (.tmp rfl) hq_23) .cI (congrArg some hv_v_42)) ?_
       replace hx21 := lt1_inv hx21
       obtain ⟨v_43, hv_v_43, hx21⟩ := hx21
       refine jc (op_pickCS lb (.tmp rfl) (fun hb24 => (HasO.cnd (.tmp rfl) hb24)) (fun hb24 => .cB) hv_v_43) ?_
       refine jc (op_move lb (.tmp rfl)) ?_
       refine JL.cnd (sv := ov (S (rU UInt64) v_39)) (Guard.isT (ltB rfl) rfl rfl) rfl (ltB rfl) (fun hq_25 => op_move lb (.tmp rfl)) ?_
       replace hx21 := lt1_inv hx21
       obtain ⟨v_44, hv_v_44, hx21⟩ := hx21
       refine JL.cnd (sv := ov (S rB v_44)) (Guard.isT (ltB rfl) rfl rfl) rfl (ltB rfl) (fun hq_26 => op_cmpU lb (HasO.cnd (.tmp rfl) hq_26) (HasO.cU (x := (0 : UInt64)) rfl (by decide)) (congrArg some hv_v_44)) ?_
       replace hx21 := lt1_inv hx21
       obtain ⟨v_45, hv_v_45, hx21⟩ := hx21
       refine jc (op_pickCS lb (.tmp rfl) (fun hb27 => (HasO.cnd (.tmp rfl) hb27)) (fun hb27 => .cB) hv_v_45) ?_
       refine jc (op_move lb (.tmp rfl)) ?_
       replace hx21 := iteB_inv hx21
       rcases hx21 with ⟨hc29, hx21⟩ | ⟨hc29, hx21⟩
       · refine JL.run (.yes rfl (ltB rfl) rfl hc29) (op_move lb (.tmp rfl)) ?_
         replace hx21 := bnd_inv hx21
         obtain ⟨v_46, hv_v_46, hx21⟩ := hx21
         refine JL.runX (.yes rfl (ltB rfl) rfl hc29) (op_call (js := [0]) ld cl20 (sim_wire_Reader_Failed'2 k x_40 gb_33 v_46 hv_v_46) .func (.cons (.tmp rfl) .nil) rfl) (fun _ => ?_)
         refine jc (op_pickT lb (.tmp rfl) hc29 (.tmp rfl)) ?_
         refine jc (op_move lb (.tmp rfl)) ?_
         refine JL.sub ⟨[(9, ov (PTR gb_33 0)), (86, ov (S rB v_46))], [cvar gb_33 r_wire_Reader x_40], []⟩ (.cons rfl (.cons rfl .nil)) rfl rfl ?_
         replace hx21 := iteB_inv hx21
         rcases hx21 with ⟨hc31, hx21⟩ | ⟨hc31, hx21⟩
         · refine JL.run (.yes rfl (ltB rfl) rfl hc31) (op_move lb (.tmp rfl)) ?_
           replace hx21 := bnd_inv hx21
           obtain ⟨v_47, hv_v_47, hx21⟩ := hx21
           refine JL.runX (.yes rfl (ltB rfl) rfl hc31) (op_call (js := [0]) ld cl18 (sim_wire_Reader_Left k x_40 gb_33 v_47 hv_v_47) .func (.cons (.tmp rfl) .nil) rfl) (fun _ => ?_)
           replace hx21 := lt1_inv hx21
           obtain ⟨v_48, hv_v_48, hx21⟩ := hx21
           refine JL.run (.yes rfl (ltB rfl) rfl hc31) (op_cmpI lb (.tmp rfl) .cI (congrArg some hv_v_48)) ?_
           refine jc (op_pickT lb (.tmp rfl) hc31 (.tmp rfl)) ?_
           refine jc (op_move lb (.tmp rfl)) ?_
           replace hx21 := iteB_inv hx21
           rcases hx21 with ⟨hc33, hx21⟩ | ⟨hc33, hx21⟩
           · refine JL.run (.yes rfl (ltB rfl) rfl hc33) (op_move lb (.tmp rfl)) ?_
             replace hx21 := bnd_inv hx21
             obtain ⟨v_49, hv_v_49, hx21⟩ := hx21
             refine JL.runX (.yes rfl (ltB rfl) rfl hc33) (op_call (js := [0]) ld cl21 (sim_wire_Reader_End k x_40 gb_33 v_49 hv_v_49) .func (.cons (.tmp rfl) .nil) rfl) (fun _ => ?_)
             replace hx21 := bnd_inv hx21
             obtain ⟨_, hv_u_50, hx21⟩ := hx21
             refine JL.runX (.yes rfl (ltB rfl) rfl hc33) (op_call (js := []) ld cl13 (sim_law01_num k v_49 () hv_u_50) .func (.cons (.tmp rfl) .nil) rfl) (fun _ => ?_)
             replace hx21 := lt1_inv hx21
             obtain ⟨v_51, hv_v_51, hx21⟩ := hx21
             refine JL.run (.yes rfl (ltB rfl) rfl hc33) (op_cmpI lb (.tmp rfl) .cI (congrArg some hv_v_51)) ?_
             refine jc (op_pickT lb (.tmp rfl) hc33 (.tmp rfl)) ?_
             refine jc (op_assign lb (.tmp rfl)) ?_
             refine JL.nil ?_
             replace hx21 := Option.some.inj hx21
             first | subst hx21 | clear hx21
             exact JQ.join () (Imp.norm (js := []) rfl (.cons rfl .nil))
           · refine JL.skip (.no rfl (ltB rfl) rfl hc33) (fun d h => by cases h; exact ltB rfl) ?_
             refine JL.skip (.no rfl (ltB rfl) rfl hc33) (fun d h => by cases h; exact ltB rfl) ?_
             refine JL.skip (.no rfl (ltB rfl) rfl hc33) (fun d h => by cases h; exact ltB rfl) ?_
             refine JL.skip (.no rfl (ltB rfl) rfl hc33) (fun d h => by cases h; exact ltB rfl) ?_
             refine jc (op_pickF lb (.tmp rfl) hc33 .cB) ?_
             refine jc (op_assign lb (.tmp rfl)) ?_
             refine JL.nil ?_
             replace hx21 := Option.some.inj hx21
             first | subst hx21 | clear hx21
             exact JQ.join () (Imp.norm (js := []) rfl (.cons rfl .nil))
         · refine JL.skip (.no rfl (ltB rfl) rfl hc31) (fun d h => by cases h; exact ltB rfl) ?_
           refine JL.skip (.no rfl (ltB rfl) rfl hc31) (fun d h => by cases h; exact ltB rfl) ?_
           refine JL.skip (.no rfl (ltB rfl) rfl hc31) (fun d h => by cases h; exact ltB rfl) ?_
           refine jc (op_pickF lb (.tmp rfl) hc31 .cB) ?_
           refine jc (op_move lb (.tmp rfl)) ?_
           refine JL.skip (.no rfl (ltB rfl) rfl rfl) (fun d h => by cases h; exact ltB rfl) ?_
           refine JL.skip (.no rfl (ltB rfl) rfl rfl) (fun d h => by cases h; exact ltB rfl) ?_
           refine JL.skip (.no rfl (ltB rfl) rfl rfl) (fun d h => by cases h; exact ltB rfl) ?_
           refine JL.skip (.no rfl (ltB rfl) rfl rfl) (fun d h => by cases h; exact ltB rfl) ?_
           refine jc (op_pickF lb (.tmp rfl) rfl .cB) ?_
           refine jc (op_assign lb (.tmp rfl)) ?_
           refine JL.nil ?_
           replace hx21 := Option.some.inj hx21
           first | subst hx21 | clear hx21
           exact JQ.join () (Imp.norm (js := []) rfl (.cons rfl .nil))
       · refine JL.skip (.no rfl (ltB rfl) rfl hc29) (fun d h => by cases h; exact ltB rfl) ?_
         refine JL.skip (.no rfl (ltB rfl) rfl hc29) (fun d h => by cases h; exact ltB rfl) ?_
         refine jc (op_pickF lb (.tmp rfl) hc29 .cB) ?_
         refine jc (op_move lb (.tmp rfl)) ?_
         refine JL.skip (.no rfl (ltB rfl) rfl rfl) (fun d h => by cases h; exact ltB rfl) ?_
         refine JL.skip (.no rfl (ltB rfl) rfl rfl) (fun d h => by cases h; exact ltB rfl) ?_
         refine JL.skip (.no rfl (ltB rfl) rfl rfl) (fun d h => by cases h; exact ltB rfl) ?_
         refine jc (op_pickF lb (.tmp rfl) rfl .cB) ?_
         refine jc (op_move lb (.tmp rfl)) ?_
         refine JL.sub ⟨[(9, ov (PTR gb_33 0)), (91, ov (S rB false))], [cvar gb_33 r_wire_Reader x_40], []⟩ (.cons rfl (.cons rfl .nil)) rfl rfl ?_
         refine JL.skip (.no rfl (ltB rfl) rfl rfl) (fun d h => by cases h; exact ltB rfl) ?_
         refine JL.skip (.no rfl (ltB rfl) rfl rfl) (fun d h => by cases h; exact ltB rfl) ?_
         refine JL.skip (.no rfl (ltB rfl) rfl rfl) (fun d h => by cases h; exact ltB rfl) ?_
         refine JL.skip (.no rfl (ltB rfl) rfl rfl) (fun d h => by cases h; exact ltB rfl) ?_
         refine jc (op_pickF lb (.tmp rfl) rfl .cB) ?_
         refine jc (op_assign lb (.tmp rfl)) ?_
         refine JL.nil ?_
         replace hx21 := Option.some.inj hx21
         first | subst hx21 | clear hx21
         exact JQ.join () (Imp.norm (js := []) rfl (.cons rfl .nil))
 · refine JC.region ?_
   refine jc (op_move lb (.tmp rfl)) ?_
   refine jc (op_convOS (j := 2) lb tu23 tu5 tu9 rfl (.tmp rfl)) ?_
   replace hx1 := lt1_inv hx1
   obtain ⟨v_18, hv_v_18, hx1⟩ := hx1
   refine jc (op_cmpS lb (.tmp rfl) (HasO.cS (l := [1, 2]) rfl) (congrArg some hv_v_18)) ?_
   refine jc (op_move lb (.tmp rfl)) ?_
   refine JL.cnd (sv := ov (S (rI .i64) v_6)) (Guard.isF (ltB rfl) rfl rfl) rfl (ltB rfl) (fun hq_2 => op_move lb (.tmp rfl)) ?_
   replace hx1 := bnd_inv hx1
   obtain ⟨_, hv_u_19, hx1⟩ := hx1
   refine JL.cnd (sv := ov (S (rI .i64) v_6)) (Guard.isF (ltB rfl) rfl rfl) rfl (ltB rfl) (fun hq_3 => (op_call (js := []) ld cl13 (sim_law01_num k v_6 () (ifT hv_u_19 hq_3)) .func (.cons (HasO.cnd (.tmp rfl) (notT (notF hq_3))) .nil) rfl).post (fun _ => Imp.refl)) ?_
   replace hx1 := lt1_inv hx1
   obtain ⟨v_20, hv_v_20, hx1⟩ := hx1
   refine JL.cnd (sv := ov (S rB v_20)) (Guard.isF (ltB rfl) rfl rfl) rfl (ltB rfl) (fun hq_4 => op_cmpI lb (HasO.cnd (.tmp rfl) (notT (notF hq_4))) .cI (congrArg some hv_v_20)) ?_
   replace hx1 := lt1_inv hx1
   obtain ⟨v_21, hv_v_21, hx1⟩ := hx1
   refine jc (op_pickCS lb (.tmp rfl) (fun hb5 => .cB) (fun hb5 => (HasO.cnd (.tmp rfl) (notT hb5))) hv_v_21) ?_
   refine jc (op_move lb (.tmp rfl)) ?_
   replace hx1 := iteB_inv hx1
   rcases hx1 with ⟨hc7, hx1⟩ | ⟨hc7, hx1⟩
   · refine JL.skip (.no rfl (ltB rfl) rfl hc7) (fun d h => by cases h; exact ltB rfl) ?_
     refine JL.skip (.no rfl (ltB rfl) rfl hc7) (fun d h => by cases h; exact ltB rfl) ?_
     refine JL.skip (.no rfl (ltB rfl) rfl hc7) (fun d h => by cases h; exact ltB rfl) ?_
     refine jc (op_pickT lb (.tmp rfl) hc7 .cB) ?_
     refine JL.nrm ⟨[(2, ov (S (rI .i64) v_2)), (6, ov (S (rI .i64) v_11)), (7, ov (HDR go_16 0 (List.length v_14) gc_17)), (8, ov (S (rI .i64) v_15)), (44, ov (S rB true))], [cown go_16 (rU UInt8) v_14 0 gc_17], []⟩ [0] rfl (.cons rfl (.cons rfl (.cons rfl (.cons rfl (.cons rfl .nil))))) rfl ?_
     refine jc (op_move lb (.tmp rfl)) ?_
     refine JL.skip (.no rfl (ltB rfl) rfl rfl) (fun d h => by cases h; exact ltB rfl) ?_
     refine JL.skip (.no rfl (ltB rfl) rfl rfl) (fun d h => by cases h; exact ltB rfl) ?_
     refine JL.skip (.no rfl (ltB rfl) rfl rfl) (fun d h => by cases h; exact ltB rfl) ?_
     refine jc (op_pickT lb (.tmp rfl) rfl .cB) ?_
     refine jc (op_move lb (.tmp rfl)) ?_
     refine JL.skip (.no rfl (ltB rfl) rfl rfl) (fun d h => by cases h; exact ltB rfl) ?_
     refine JL.skip (.no rfl (ltB rfl) rfl rfl) (fun d h => by cases h; exact ltB rfl) ?_
     refine JL.skip (.no rfl (ltB rfl) rfl rfl) (fun d h => by cases h; exact ltB rfl) ?_
     refine JL.skip (.no rfl (ltB rfl) rfl rfl) (fun d h => by cases h; exact ltB rfl) ?_
     refine JL.skip (.no rfl (ltB rfl) rfl rfl) (fun d h => by cases h; exact ltB rfl) ?_
     refine JL.skip (.no rfl (ltB rfl) rfl rfl) (fun d h => by cases h; exact ltB rfl) ?_
     refine JL.skip (.no rfl (ltB rfl) rfl rfl) (fun d h => by cases h; exact ltB rfl) ?_
     refine JL.skip (.no rfl (ltB rfl) rfl rfl) (fun d h => by cases h; exact ltB rfl) ?_
     refine JL.skip (.no rfl (ltB rfl) rfl rfl) (fun d h => by cases h; exact ltB rfl) ?_
     refine jc (op_pickT lb (.tmp rfl) rfl .cB) ?_
     refine JL.nil ?_
     replace hx1 := Option.some.inj hx1
     first | subst hx1 | clear hx1
     exact JQ.join () (Imp.norm (js := []) rfl (.cons rfl .nil))
   · refine JL.run (.yes rfl (ltB rfl) rfl hc7) (op_move lb (.tmp rfl)) ?_
     refine JL.nrm ⟨[(2, ov (S (rI .i64) v_2)), (6, ov (S (rI .i64) v_11)), (7, ov (HDR go_16 0 (List.length v_14) gc_17)), (8, ov (S (rI .i64) v_15)), (40, ov (S rB v_21)), (41, ov (HDR go_12 0 (List.length v_10) gc_13))], [cown go_16 (rU UInt8) v_14 0 gc_17, cown go_12 (rU UInt8) v_10 0 gc_13], []⟩ [0, 0] rfl (.cons rfl (.cons rfl (.cons rfl (.cons rfl (.cons rfl (.cons rfl .nil)))))) rfl ?_
     refine JL.run (.yes rfl (ltB rfl) rfl hc7) (op_convOS (j := 1) lb tu23 tu5 tu9 rfl (.tmp rfl)) ?_
     replace hx1 := lt1_inv hx1
     obtain ⟨v_22, hv_v_22, hx1⟩ := hx1
     refine JL.run (.yes rfl (ltB rfl) rfl hc7) (op_cmpS lb (.tmp rfl) (HasO.cS (l := [0, 2, 97, 98]) rfl) (congrArg some hv_v_22)) ?_
     refine jc (op_pickF lb (.tmp rfl) hc7 (.tmp rfl)) ?_
     refine jc (op_move lb (.tmp rfl)) ?_
     replace hx1 := iteB_inv hx1
     rcases hx1 with ⟨hc9, hx1⟩ | ⟨hc9, hx1⟩
     · refine JL.skip (.no rfl (ltB rfl) rfl hc9) (fun d h => by cases h; exact ltB rfl) ?_
       refine JL.skip (.no rfl (ltB rfl) rfl hc9) (fun d h => by cases h; exact ltB rfl) ?_
       refine JL.skip (.no rfl (ltB rfl) rfl hc9) (fun d h => by cases h; exact ltB rfl) ?_
       refine jc (op_pickT lb (.tmp rfl) hc9 .cB) ?_
       refine jc (op_move lb (.tmp rfl)) ?_
       refine JL.skip (.no rfl (ltB rfl) rfl rfl) (fun d h => by cases h; exact ltB rfl) ?_
       refine JL.skip (.no rfl (ltB rfl) rfl rfl) (fun d h => by cases h; exact ltB rfl) ?_
       refine JL.skip (.no rfl (ltB rfl) rfl rfl) (fun d h => by cases h; exact ltB rfl) ?_
       refine JL.skip (.no rfl (ltB rfl) rfl rfl) (fun d h => by cases h; exact ltB rfl) ?_
       refine JL.skip (.no rfl (ltB rfl) rfl rfl) (fun d h => by cases h; exact ltB rfl) ?_
       refine JL.skip (.no rfl (ltB rfl) rfl rfl) (fun d h => by cases h; exact ltB rfl) ?_
       refine JL.skip (.no rfl (ltB rfl) rfl rfl) (fun d h => by cases h; exact ltB rfl) ?_
       refine JL.skip (.no rfl (ltB rfl) rfl rfl) (fun d h => by cases h; exact ltB rfl) ?_
       refine JL.skip (.no rfl (ltB rfl) rfl rfl) (fun d h => by cases h; exact ltB rfl) ?_
       refine jc (op_pickT lb (.tmp rfl) rfl .cB) ?_
       refine JL.nil ?_
       replace hx1 := Option.some.inj hx1
       first | subst hx1 | clear hx1
       exact JQ.join () (Imp.norm (js := []) rfl (.cons rfl .nil))
     · refine JL.run (.yes rfl (ltB rfl) rfl hc9) (op_move lb (.tmp rfl)) ?_
       refine JL.run (.yes rfl (ltB rfl) rfl hc9) (op_convOS (j := 0) lb tu23 tu5 tu9 rfl (.tmp rfl)) ?_
       replace hx1 := lt1_inv hx1
       obtain ⟨v_23, hv_v_23, hx1⟩ := hx1
       refine JL.run (.yes rfl (ltB rfl) rfl hc9) (op_cmpS lb (.tmp rfl) (HasO.cS (l := [2, 0, 0, 0, 0, 0, 0, 0, 5]) rfl) (congrArg some hv_v_23)) ?_
       refine jc (op_pickF lb (.tmp rfl) hc9 (.tmp rfl)) ?_
       refine jc (op_move lb (.tmp rfl)) ?_
       refine JL.cnd (sv := ov (S (rI .i64) v_2)) (Guard.isF (ltB rfl) rfl rfl) rfl (ltB rfl) (fun hq_10 => op_move lb (.tmp rfl)) ?_
       replace hx1 := bnd_inv hx1
       obtain ⟨_, hv_u_24, hx1⟩ := hx1
       refine JL.cnd (sv := ov (S (rI .i64) v_2)) (Guard.isF (ltB rfl) rfl rfl) rfl (ltB rfl) (fun hq_11 => (op_call (js := []) ld cl13 (sim_law01_num k v_2 () (ifT hv_u_24 hq_11)) .func (.cons (HasO.cnd (.tmp rfl) (notT (notF hq_11))) .nil) rfl).post (fun _ => Imp.refl)) ?_
       refine JL.cnd (sv := ov (S (rI .i64) v_11)) (Guard.isF (ltB rfl) rfl rfl) rfl (ltB rfl) (fun hq_12 => op_move lb (.tmp rfl)) ?_
       refine JL.nrm ⟨[(8, ov (S (rI .i64) v_15)), (50, ov (S rB v_23)), (52, bif (!v_23) then ov (S (rI .i64) v_2) else .one .und), (53, bif (!v_23) then ov (S (rI .i64) v_11) else .one .und)], [], []⟩ [] rfl (.cons rfl (.cons rfl (.cons rfl (.cons rfl .nil)))) rfl ?_
       replace hx1 := bnd_inv hx1
       obtain ⟨_, hv_u_25, hx1⟩ := hx1
       refine JL.cnd (sv := ov (S (rI .i64) v_11)) (Guard.isF (ltB rfl) rfl rfl) rfl (ltB rfl) (fun hq_13 => (op_call (js := []) ld cl13 (sim_law01_num k v_11 () (ifT hv_u_25 hq_13)) .func (.cons (HasO.cnd (.tmp rfl) (notT (notF hq_13))) .nil) rfl).post (fun _ => Imp.refl)) ?_
       replace hx1 := lt1_inv hx1
       obtain ⟨v_26, hv_v_26, hx1⟩ := hx1
       refine JL.cnd (sv := ov (S (rI .i64) v_26)) (Guard.isF (ltB rfl) rfl rfl) rfl (ltB rfl) (fun hq_14 => op_arI lb (HasO.cnd (.tmp rfl) (notT (notF hq_14))) (HasO.cnd (.tmp rfl) (notT (notF hq_14))) (congrArg some hv_v_26)) ?_
       refine JL.cnd (sv := ov (S (rI .i64) v_15)) (Guard.isF (ltB rfl) rfl rfl) rfl (ltB rfl) (fun hq_15 => op_move lb (.tmp rfl)) ?_
       replace hx1 := bnd_inv hx1
       obtain ⟨_, hv_u_27, hx1⟩ := hx1
       refine JL.cnd (sv := ov (S (rI .i64) v_15)) (Guard.isF (ltB rfl) rfl rfl) rfl (ltB rfl) (fun hq_16 => (op_call (js := []) ld cl13 (sim_law01_num k v_15 () (ifT hv_u_27 hq_16)) .func (.cons (HasO.cnd (.tmp rfl) (notT (notF hq_16))) .nil) rfl).post (fun _ => Imp.refl)) ?_
       replace hx1 := lt1_inv hx1
       obtain ⟨v_28, hv_v_28, hx1⟩ := hx1
       refine JL.cnd (sv := ov (S (rI .i64) v_28)) (Guard.isF (ltB rfl) rfl rfl) rfl (ltB rfl) (fun hq_17 => op_arI lb (HasO.cnd (.tmp rfl) (notT (notF hq_17))) (HasO.cnd (.tmp rfl) (notT (notF hq_17))) (congrArg some hv_v_28)) ?_
       replace hx1 := lt1_inv hx1
       obtain ⟨v_29, hv_v_29, hx1⟩ := hx1
       refine JL.cnd (sv := ov (S rB v_29)) (Guard.isF (ltB rfl) rfl rfl) rfl (ltB rfl) (fun hq_18 => op_cmpI lb (HasO.cnd (.tmp rfl) (notT (notF hq_18))) .cI (congrArg some hv_v_29)) ?_
       replace hx1 := lt1_inv hx1
       obtain ⟨v_30, hv_v_30, hx1⟩ := hx1
       refine jc (op_pickCS lb (.tmp rfl) (fun hb19 => .cB) (fun hb19 => (HasO.cnd (.tmp rfl) (notT hb19))) hv_v_30) ?_
       refine JL.nil ?_
       replace hx1 := Option.some.inj hx1
       first | subst hx1 | clear hx1
       exact JQ.join () (Imp.norm (js := []) rfl (.cons rfl .nil))

theorem sim_ref01_Room (k : Nat) (n_1 : UInt64) (size_2 : Int) (r : Bool) (hm : ref01_Room k n_1 size_2 = some r) : Sim Try.prog 11 [S (rU UInt64) n_1, S (rI .i64) size_2] [] (γ := Unit) (fun q => []) (fun q => .one (.val (S rB r))) := by
 unfold ref01_Room at hm
 refine Sim.of Try.func11 rfl rfl (Nat.le_of_ble_eq_true rfl) (fun e0 w0 => ?_)
 refine JC.at ⟨[(0, ov (S (rU UInt64) n_1)), (1, ov (S (rI .i64) size_2))], [], []⟩ ?_
 refine JC.seq ?_
 refine JC.region ?_
 refine jc (op_assign lb .cB) ?_
 refine JL.nil ?_
 refine JQ.then ?_
 refine JC.seq ?_
 replace hm := bnd_inv hm
 obtain ⟨x_6, hx1, hq1⟩ := hm
 refine JC.seqJ (γ := Unit) (stj := fun q => ⟨[(0, ov (S (rU UInt64) n_1)), (1, ov (S (rI .i64) size_2)), (11, ov (S rB x_6))], [], []⟩) (fun q => ?_) ?_
 · obtain _ := q
   refine JC.at ⟨[(0, ov (S (rU UInt64) n_1)), (1, ov (S (rI .i64) size_2)), (11, ov (S rB x_6))], [], []⟩ ?_
   replace hq1 := iteB_inv hq1
   rcases hq1 with ⟨hc5, hq1⟩ | ⟨hc5, hq1⟩
   · refine JC.condT (.tmp rfl) hc5 ?_
     refine JC.seq ?_
     refine JC.region ?_
     refine jc (op_assign lb .cB) ?_
     refine JL.nil ?_
     refine JQ.then ?_
     refine JC.ret ?_
     refine JQ.outR ?_
     replace hq1 := Option.some.inj hq1
     subst hq1
     exact JQ.done (js := []) (ss := [.val (S rB false)]) () (.inl rfl) (.nil rfl) rfl (.cons (.tmp rfl) .nil) rfl rfl rfl
   · refine JC.condF (.tmp rfl) hc5 ?_
     refine JC.skip ?_
     refine JQ.then ?_
     replace hq1 := bnd_inv hq1
     obtain ⟨n_12, hx6, hq6⟩ := hq1
     refine JC.seqJ (γ := Unit) (stj := fun q => ⟨[(0, ov (S (rU UInt64) n_12))], [], []⟩) (fun q => ?_) ?_
     · obtain _ := q
       refine JC.at ⟨[(0, ov (S (rU UInt64) n_12))], [], []⟩ ?_
       refine JC.seq ?_
       refine JC.region ?_
       refine jc (op_move lb (.tmp rfl)) ?_
       replace hq6 := lt1_inv hq6
       obtain ⟨v_13, hv_v_13, hq6⟩ := hq6
       refine jc (op_cmpU lb (.tmp rfl) (HasO.cU (x := (0 : UInt64)) rfl (by decide)) (congrArg some hv_v_13)) ?_
       refine jc (op_assign lb (.tmp rfl)) ?_
       refine JL.nil ?_
       refine JQ.then ?_
       refine JC.ret ?_
       replace hq6 := Option.some.inj hq6
       subst hq6
       exact JQ.done (js := []) (ss := [.val (S rB v_13)]) () (.inl rfl) (.nil rfl) rfl (.cons (.tmp rfl) .nil) rfl rfl rfl
     · refine JC.seq ?_
       refine JC.region ?_
       refine jc (op_assign lb .cI) ?_
       refine JL.nil ?_
       refine JQ.then ?_
       refine JC.block ?_
       refine JC.pre ?_ (JC.loop (γ := Unit) (stf := fun s q => ⟨[(0, ov (S (rU UInt64) s.1)), (1, ov (S (rI .i64) size_2)), (5, ov (S (rI .i64) s.2))], [], []⟩) (q := ()) hx6 ?_)
       · exact (Imp.norm (js := []) rfl (.cons rfl (.cons rfl (.cons rfl .nil))))
       · intro s q x hx hr
         obtain ⟨n_7, i_8⟩ := s
         obtain _ := q
         change ref01_Room.b1 k size_2 n_7 i_8 = some x at hx
         unfold ref01_Room.b1 at hx
         refine JC.at ⟨[(0, ov (S (rU UInt64) n_7)), (1, ov (S (rI .i64) size_2)), (5, ov (S (rI .i64) i_8))], [], []⟩ ?_
         refine JC.seq ?_
         refine JC.seq ?_
         refine JC.region ?_
         refine jc (op_move lb (.tmp rfl)) ?_
         refine jc (op_move lb (.tmp rfl)) ?_
         replace hx := lt1_inv hx
         obtain ⟨v_9, hv_v_9, hx⟩ := hx
         refine jc (op_cmpI lb (.tmp rfl) (.tmp rfl) (congrArg some hv_v_9)) ?_
         refine JL.nil ?_
         refine JQ.then ?_
         replace hx := iteB_inv hx
         rcases hx with ⟨hc8, hx⟩ | ⟨hc8, hx⟩
         · refine JC.condT (.tmp rfl) hc8 ?_
           refine JC.skip ?_
           refine JQ.then ?_
           refine JC.seq ?_
           refine JC.block ?_
           refine JC.region ?_
           refine jc (op_move lb (.tmp rfl)) ?_
           replace hx := bnd_inv hx
           obtain ⟨v_10, hv_v_10, hx⟩ := hx
           refine jc (op_arU lb (.tmp rfl) (HasO.cU (x := (256 : UInt64)) rfl (by decide)) hv_v_10) ?_
           refine jc (op_assign lb (.tmp rfl)) ?_
           refine JL.nil ?_
           refine JQ.outNB ?_
           refine JQ.then ?_
           refine JC.region ?_
           refine jc (op_move lb (.tmp rfl)) ?_
           replace hx := lt1_inv hx
           obtain ⟨v_11, hv_v_11, hx⟩ := hx
           refine jc (op_arI lb (.tmp rfl) .cI (congrArg some hv_v_11)) ?_
           refine jc (op_assign lb (.tmp rfl)) ?_
           refine JL.nil ?_
           replace hx := Option.some.inj hx
           first | subst hx | clear hx
           exact JQ.next () rfl (Imp.norm (js := []) rfl (.cons rfl (.cons rfl (.cons rfl .nil))))
         · refine JC.condF (.tmp rfl) hc8 ?_
           refine JC.exit ?_
           refine JQ.outX ?_
           replace hx := Option.some.inj hx
           first | subst hx | clear hx
           have ht := hr _ rfl
           have hq7 := congrArg some ht
           clear hr ht
           refine JQ.outX ?_
           refine JQ.here ?_
           replace hq7 := Option.some.inj hq7
           first | subst hq7 | clear hq7
           exact JQ.join () (Imp.norm (js := []) rfl (.cons rfl .nil))
 · refine JC.region ?_
   refine jc (op_move lb (.tmp rfl)) ?_
   replace hx1 := lt1_inv hx1
   obtain ⟨v_3, hv_v_3, hx1⟩ := hx1
   refine jc (op_cmpI lb (.tmp rfl) .cI (congrArg some hv_v_3)) ?_
   refine jc (op_move lb (.tmp rfl)) ?_
   refine JL.cnd (sv := ov (S (rI .i64) size_2)) (Guard.isF (ltB rfl) rfl rfl) rfl (ltB rfl) (fun hq_2 => op_move lb (.tmp rfl)) ?_
   replace hx1 := lt1_inv hx1
   obtain ⟨v_4, hv_v_4, hx1⟩ := hx1
   refine JL.cnd (sv := ov (S rB v_4)) (Guard.isF (ltB rfl) rfl rfl) rfl (ltB rfl) (fun hq_3 => op_cmpI lb (HasO.cnd (.tmp rfl) (notT (notF hq_3))) .cI (congrArg some hv_v_4)) ?_
   replace hx1 := lt1_inv hx1
   obtain ⟨v_5, hv_v_5, hx1⟩ := hx1
   refine jc (op_pickCS lb (.tmp rfl) (fun hb4 => .cB) (fun hb4 => (HasO.cnd (.tmp rfl) (notT hb4))) hv_v_5) ?_
   refine JL.nil ?_
   replace hx1 := Option.some.inj hx1
   first | subst hx1 | clear hx1
   exact JQ.join () (Imp.norm (js := []) rfl (.cons rfl (.cons rfl (.cons rfl .nil))))

end Go.Proofs.Ytkbkdfcakpbojaa
