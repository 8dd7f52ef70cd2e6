/- Walks. -/
import Derived.Test.YtkbkdfcakpbojaaT
import Derived.Test.YtkbkdfcakpbojaaW0
import Derived.Test.YtkbkdfcakpbojaaW1
import Derived.Test.YtkbkdfcakpbojaaW2
namespace Go.Proofs.Ytkbkdfcakpbojaa
open Go Fw
set_option linter.unusedVariables false
set_option maxRecDepth 100000
set_option maxHeartbeats 4000000

theorem sim_law01_known (k : Nat) (r : Bool) (hm : law01_known k = some r) : Sim Try.prog 9 [] [] (γ := Unit) (fun q => []) (fun q => .one (.val (S rB r))) := by
  unfold law01_known at hm
  refine Sim.of Try.func9 rfl rfl (Nat.le_of_ble_eq_true rfl) (fun e0 w0 => ?_)
  refine JC.at ⟨[], [], []⟩ ?_
  refine JC.seq ?_
  refine JC.region ?_
  refine JL.cons rfl (op_assign (ltB rfl) .cB) ?_
  refine JL.nil ?_
  refine JQ.then ?_
  refine JC.seq ?_
  refine JC.region ?_
  replace hm := bnd_inv hm
  obtain ⟨⟨v_1, v_2⟩, hv_v_1, hm⟩ := hm
  refine JL.consX rfl (op_call (js := []) (ltD rfl) cl10 (sim_wire_Put k (258 : UInt64) (2 : Int) (v_1, v_2) hv_v_1) .func (.cons (HasO.cU (x := (258 : UInt64)) rfl (by decide)) (.cons .cI .nil)) rfl) (fun q => ?_)
  obtain ⟨go_3, gc_4⟩ := q
  refine JL.pre (Imp.sub (ρ' := [(14, .tup [.val (HDR go_3 0 (List.length v_1) gc_4), .val (S (rI .i64) v_2)])]) (.cons rfl .nil)) ?_
  refine JL.at ⟨[(14, .tup [.val (HDR go_3 0 (List.length v_1) gc_4), .val (S (rI .i64) v_2)])], [cown go_3 (rU UInt8) v_1 0 gc_4], []⟩ ?_
  refine JL.cons rfl (op_move (ltB rfl) (.tmp rfl)) ?_
  refine JL.cons rfl (op_extract (i := 0) (ltB rfl) (.tmp rfl) rfl) ?_
  refine JL.cons rfl (op_extract (i := 1) (ltB rfl) (.tmp rfl) rfl) ?_
  refine JL.cons rfl (op_assign (ltB rfl) (.tmp rfl)) ?_
  refine JL.cons rfl (op_assign (ltB rfl) (.tmp rfl)) ?_
  refine JL.nil ?_
  refine JQ.then ?_
  refine JC.seq ?_
  refine JC.region ?_
  replace hm := bnd_inv hm
  obtain ⟨⟨v_5, v_6⟩, hv_v_5, hm⟩ := hm
  refine JL.consX rfl (op_call (js := []) (ltD rfl) cl10 (sim_wire_Put k (256 : UInt64) (1 : Int) (v_5, v_6) hv_v_5) .func (.cons (HasO.cU (x := (256 : UInt64)) rfl (by decide)) (.cons .cI .nil)) rfl) (fun q => ?_)
  obtain ⟨go_7, gc_8⟩ := q
  refine JL.pre (Imp.sub (ρ' := [(1, .one (.val (HDR go_3 0 (List.length v_1) gc_4))), (2, .one (.val (S (rI .i64) v_2))), (18, .tup [.val (HDR go_7 0 (List.length v_5) gc_8), .val (S (rI .i64) v_6)])]) (.cons rfl (.cons rfl (.cons rfl .nil)))) ?_
  refine JL.at ⟨[(1, .one (.val (HDR go_3 0 (List.length v_1) gc_4))), (2, .one (.val (S (rI .i64) v_2))), (18, .tup [.val (HDR go_7 0 (List.length v_5) gc_8), .val (S (rI .i64) v_6)])], [cown go_7 (rU UInt8) v_5 0 gc_8, cown go_3 (rU UInt8) v_1 0 gc_4], []⟩ ?_
  refine JL.cons rfl (op_move (ltB rfl) (.tmp rfl)) ?_
  refine JL.cons rfl (op_extract (i := 0) (ltB rfl) (.tmp rfl) rfl) ?_
  refine JL.cons rfl (op_extract (i := 1) (ltB rfl) (.tmp rfl) rfl) ?_
  refine JL.cons rfl (op_assign (ltB rfl) (.tmp rfl)) ?_
  refine JL.cons rfl (op_assign (ltB rfl) (.tmp rfl)) ?_
  refine JL.nil ?_
  refine JQ.then ?_
  refine JC.seq ?_
  refine JC.region ?_
  refine JL.consX rfl (op_buildO (r := (rU UInt8)) (ltB rfl) tu23 tz5 tZ5 rfl (Nat.le_of_ble_eq_true rfl) (.S rfl (HasO.cU (x := (97 : UInt8)) rfl (by decide)) (.S rfl (HasO.cU (x := (98 : UInt8)) rfl (by decide)) .nil)) rfl) (fun q => ?_)
  obtain ⟨gb_9, hqq⟩ : ∃ z, z = q := ⟨_, rfl⟩
  subst hqq
  refine JL.pre (Imp.norm (ρ' := [(1, .one (.val (HDR go_3 0 (List.length v_1) gc_4))), (2, .one (.val (S (rI .i64) v_2))), (4, .one (.val (S (rI .i64) v_6))), (22, .one (.val (HDR (some gb_9) 0 (List.length ([(97 : UInt8), (98 : UInt8)] : (List UInt8))) (2))))]) (js := [1, 1]) rfl (.cons rfl (.cons rfl (.cons rfl (.cons rfl .nil))))) ?_
  refine JL.at ⟨[(1, .one (.val (HDR go_3 0 (List.length v_1) gc_4))), (2, .one (.val (S (rI .i64) v_2))), (4, .one (.val (S (rI .i64) v_6))), (22, .one (.val (HDR (some gb_9) 0 (List.length ([(97 : UInt8), (98 : UInt8)] : (List UInt8))) (2))))], [cown go_3 (rU UInt8) v_1 0 gc_4, cown (some gb_9) (rU UInt8) ([(97 : UInt8), (98 : UInt8)] : (List UInt8)) 0 (2)], []⟩ ?_
  refine JL.cons rfl (op_markO (j := 1) (ltB rfl) tu23 tu5 rfl (.tmp rfl) (Nat.le_of_ble_eq_true rfl)) ?_
  replace hm := bnd_inv hm
  obtain ⟨⟨v_10, v_11⟩, hv_v_10, hm⟩ := hm
  refine JL.pre (Imp.frz (j := 1) rfl (ImpK.slotH (s := 22) rfl (ImpK.slotH (s := 23) rfl ImpK.refl))) ?_
  refine JL.consX rfl (op_call (js := []) (ltD rfl) cl31 (sim_wire_Blob k ([(97 : UInt8), (98 : UInt8)] : (List UInt8)) (v_10, v_11) hv_v_10) .func (.cons (HasO.wk (.tmp rfl) wkHL) .nil) rfl) (fun q => ?_)
  obtain ⟨go_12, gc_13⟩ := q
  refine JL.pre (Imp.norm (ρ' := [(1, .one (.val (HDR go_3 0 (List.length v_1) gc_4))), (2, .one (.val (S (rI .i64) v_2))), (4, .one (.val (S (rI .i64) v_6))), (24, .tup [.val (HDR go_12 0 (List.length v_10) gc_13), .val (S (rI .i64) v_11)])]) (js := [0, 0]) rfl (.cons rfl (.cons rfl (.cons rfl (.cons rfl .nil))))) ?_
  refine JL.at ⟨[(1, .one (.val (HDR go_3 0 (List.length v_1) gc_4))), (2, .one (.val (S (rI .i64) v_2))), (4, .one (.val (S (rI .i64) v_6))), (24, .tup [.val (HDR go_12 0 (List.length v_10) gc_13), .val (S (rI .i64) v_11)])], [cown go_12 (rU UInt8) v_10 0 gc_13, cown go_3 (rU UInt8) v_1 0 gc_4], []⟩ ?_
  refine JL.cons rfl (op_move (ltB rfl) (.tmp rfl)) ?_
  refine JL.cons rfl (op_extract (i := 0) (ltB rfl) (.tmp rfl) rfl) ?_
  refine JL.cons rfl (op_extract (i := 1) (ltB rfl) (.tmp rfl) rfl) ?_
  refine JL.cons rfl (op_assign (ltB rfl) (.tmp rfl)) ?_
  refine JL.cons rfl (op_assign (ltB rfl) (.tmp rfl)) ?_
  refine JL.nil ?_
  refine JQ.then ?_
  refine JC.seq ?_
  refine JC.region ?_
  refine JL.cons rfl (op_build (ltB rfl) tZ48 zs48 tp48 (.S (off := 0) rfl .cI rfl ((UpdR.fst (UpdR.self (by rfl))).at (by rfl)) (.S (off := 1) rfl (HasO.cU (x := (5 : UInt64)) rfl (by decide)) rfl ((UpdR.snd (UpdR.fst (UpdR.self (by rfl)))).at (by rfl)) .nil)) rfl) ?_
  refine JL.pre (Imp.sub (ρ' := [(1, .one (.val (HDR go_3 0 (List.length v_1) gc_4))), (2, .one (.val (S (rI .i64) v_2))), (4, .one (.val (S (rI .i64) v_6))), (5, .one (.val (HDR go_12 0 (List.length v_10) gc_13))), (6, .one (.val (S (rI .i64) v_11))), (28, .one (.val (A (rP (rI .i64) (rP (rU UInt64) r0)) ((2 : Int), ((5 : UInt64), ())))))]) (.cons rfl (.cons rfl (.cons rfl (.cons rfl (.cons rfl (.cons rfl .nil))))))) ?_
  refine JL.at ⟨[(1, .one (.val (HDR go_3 0 (List.length v_1) gc_4))), (2, .one (.val (S (rI .i64) v_2))), (4, .one (.val (S (rI .i64) v_6))), (5, .one (.val (HDR go_12 0 (List.length v_10) gc_13))), (6, .one (.val (S (rI .i64) v_11))), (28, .one (.val (A (rP (rI .i64) (rP (rU UInt64) r0)) ((2 : Int), ((5 : UInt64), ())))))], [cown go_12 (rU UInt8) v_10 0 gc_13, cown go_3 (rU UInt8) v_1 0 gc_4], []⟩ ?_
  replace hm := bnd_inv hm
  obtain ⟨⟨v_14, v_15⟩, hv_v_14, hm⟩ := hm
  refine JL.consX rfl (op_call (js := []) (ltD rfl) cl30 (sim_wire_Dot k (api_Dot.mk (2 : Int) (5 : UInt64)) (v_14, v_15) hv_v_14) .func (.cons (HasO.wk (q := A r_api_Dot (api_Dot.mk (2 : Int) (5 : UInt64))) (.tmp rfl) (wkAK (Wk.st Wk.refl))) .nil) rfl) (fun q => ?_)
  obtain ⟨go_16, gc_17⟩ := q
  refine JL.pre (Imp.sub (ρ' := [(1, .one (.val (HDR go_3 0 (List.length v_1) gc_4))), (2, .one (.val (S (rI .i64) v_2))), (4, .one (.val (S (rI .i64) v_6))), (5, .one (.val (HDR go_12 0 (List.length v_10) gc_13))), (6, .one (.val (S (rI .i64) v_11))), (29, .tup [.val (HDR go_16 0 (List.length v_14) gc_17), .val (S (rI .i64) v_15)])]) (.cons rfl (.cons rfl (.cons rfl (.cons rfl (.cons rfl (.cons rfl .nil))))))) ?_
  refine JL.at ⟨[(1, .one (.val (HDR go_3 0 (List.length v_1) gc_4))), (2, .one (.val (S (rI .i64) v_2))), (4, .one (.val (S (rI .i64) v_6))), (5, .one (.val (HDR go_12 0 (List.length v_10) gc_13))), (6, .one (.val (S (rI .i64) v_11))), (29, .tup [.val (HDR go_16 0 (List.length v_14) gc_17), .val (S (rI .i64) v_15)])], [cown go_16 (rU UInt8) v_14 0 gc_17, cown go_12 (rU UInt8) v_10 0 gc_13, cown go_3 (rU UInt8) v_1 0 gc_4], []⟩ ?_
  refine JL.cons rfl (op_move (ltB rfl) (.tmp rfl)) ?_
  refine JL.cons rfl (op_extract (i := 0) (ltB rfl) (.tmp rfl) rfl) ?_
  refine JL.cons rfl (op_extract (i := 1) (ltB rfl) (.tmp rfl) rfl) ?_
  refine JL.cons rfl (op_assign (ltB rfl) (.tmp rfl)) ?_
  refine JL.cons rfl (op_assign (ltB rfl) (.tmp rfl)) ?_
  refine JL.nil ?_
  refine JQ.then ?_
  refine JC.seq ?_
  obtain ⟨x_31, hx1, hq1⟩ := bnd_inv hm
  refine JC.seqJ (γ := Unit) (stj := fun q => ⟨[(60, .one (.val (S rB x_31)))], [], []⟩) (fun q => ?_) ?_
  · obtain _ := q
    refine JC.at ⟨[(60, .one (.val (S rB x_31)))], [], []⟩ ?_
    rcases iteB_inv hq1 with ⟨hc20, hq1⟩ | ⟨hc20, hq1⟩
    · refine JC.condT (.tmp rfl) hc20 ?_
      refine JC.seq ?_
      refine JC.region ?_
      refine JL.cons rfl (op_assign (ltB rfl) .cB) ?_
      refine JL.nil ?_
      refine JQ.then ?_
      refine JC.ret ?_
      refine JQ.outR ?_
      replace hq1 := Option.some.inj hq1
      subst hq1
      exact JQ.done (js := []) (ss := [.val (S rB false)]) () (.inl rfl) (.nil rfl) rfl (.cons (.tmp rfl) .nil) rfl rfl rfl
    · refine JC.condF (.tmp rfl) hc20 ?_
      refine JC.skip ?_
      refine JQ.then ?_
      refine JC.seq ?_
      refine JC.region ?_
      refine JL.cons rfl (op_buildF (r := (rU UInt8)) (ltB rfl) tu23 tz5 tZ5 rfl (Nat.le_of_ble_eq_true rfl) (.S rfl (HasO.cU (x := (0 : UInt8)) rfl (by decide)) (.S rfl (HasO.cU (x := (1 : UInt8)) rfl (by decide)) (.S rfl (HasO.cU (x := (7 : UInt8)) rfl (by decide)) (.S rfl (HasO.cU (x := (9 : UInt8)) rfl (by decide)) .nil)))) rfl) ?_
      replace hq1 := bnd_inv hq1
      obtain ⟨v_32, hv_v_32, hq1⟩ := hq1
      refine JL.consX rfl (op_call (js := []) (ltD rfl) cl16 (sim_wire_Read k ([(0 : UInt8), (1 : UInt8), (7 : UInt8), (9 : UInt8)] : (List UInt8)) v_32 hv_v_32) .func (.cons (.tmp rfl) .nil) rfl) (fun q => ?_)
      obtain ⟨gb_33, go_34, gc_35⟩ := q
      refine JL.pre (Imp.sub (ρ' := [(62, .one (.val (PTR gb_33 0)))]) (.cons rfl .nil)) ?_
      refine JL.at ⟨[(62, .one (.val (PTR gb_33 0)))], [cvar gb_33 (rP (rW (HDR go_34 0 (List.length v_32) gc_35)) (rP rB (rP rB r0))) ((), (true, (true, ()))), cown go_34 (rU UInt8) v_32 0 gc_35], []⟩ ?_
      refine JL.cons rfl (op_assign (ltB rfl) (.tmp rfl)) ?_
      refine JL.nil ?_
      refine JQ.then ?_
      refine JC.seq ?_
      refine JC.seq ?_
      refine JC.region ?_
      refine JL.cons rfl (op_move (ltB rfl) (.tmp rfl)) ?_
      refine JL.cons rfl (op_nilP (neg := false) (ltB rfl) tu36 (.tmp rfl) (HasO.const (p := PTO none) fun _ => rfl)) ?_
      refine JL.nil ?_
      refine JQ.then ?_
      refine JC.condF (.tmp rfl) rfl ?_
      refine JC.skip ?_
      refine JQ.then ?_
      refine JC.seq ?_
      refine JC.region ?_
      refine JL.cons rfl (op_move (ltB rfl) (.tmp rfl)) ?_
      replace hq1 := bnd_inv hq1
      obtain ⟨⟨v_36, x_37⟩, hv_v_36, hq1⟩ := hq1
      refine JL.consX rfl (op_call (js := [0, 0]) (ltD rfl) cl26 (sim_wire_Reader_Blob k true true v_32 gb_33 go_34 gc_35 (v_36, x_37) hv_v_36) .func (.cons (.tmp rfl) .nil) rfl) (fun _ => ?_)
      refine JL.pre (Imp.norm (ρ' := [(9, .one (.val (PTR gb_33 0))), (66, .one (.val (S (rL (rU UInt8)) v_36)))]) (js := [0]) rfl (.cons rfl (.cons rfl .nil))) ?_
      refine JL.at ⟨[(9, .one (.val (PTR gb_33 0))), (66, .one (.val (S (rL (rU UInt8)) v_36)))], [cvar gb_33 r_wire_Reader x_37], []⟩ ?_
      refine JL.cons rfl (op_move (ltB rfl) (.tmp rfl)) ?_
      replace hq1 := bnd_inv hq1
      obtain ⟨v_38, hv_v_38, hq1⟩ := hq1
      refine JL.consX rfl (op_call (js := [0]) (ltD rfl) cl18 (sim_wire_Reader_Left k x_37 gb_33 v_38 hv_v_38) .func (.cons (.tmp rfl) .nil) rfl) (fun _ => ?_)
      refine JL.cons rfl (op_move (ltB rfl) (.tmp rfl)) ?_
      replace hq1 := bnd_inv hq1
      obtain ⟨⟨v_39, x_40⟩, hv_v_39, hq1⟩ := hq1
      refine JL.consX rfl (op_call (js := [0]) (ltD rfl) cl39 (sim_wire_Reader_Number'2 k (2 : Int) x_37 gb_33 (v_39, x_40) hv_v_39) .func (.cons (.tmp rfl) (.cons .cI .nil)) rfl) (fun _ => ?_)
      refine JL.pre (Imp.sub (ρ' := [(9, .one (.val (PTR gb_33 0))), (66, .one (.val (S (rL (rU UInt8)) v_36))), (68, .one (.val (S (rI .i64) v_38))), (70, .one (.val (S (rU UInt64) v_39)))]) (.cons rfl (.cons rfl (.cons rfl (.cons rfl .nil))))) ?_
      refine JL.at ⟨[(9, .one (.val (PTR gb_33 0))), (66, .one (.val (S (rL (rU UInt8)) v_36))), (68, .one (.val (S (rI .i64) v_38))), (70, .one (.val (S (rU UInt64) v_39)))], [cvar gb_33 r_wire_Reader x_40], []⟩ ?_
      refine JL.cons rfl (op_assign (ltB rfl) (.tmp rfl)) ?_
      refine JL.cons rfl (op_assign (ltB rfl) (.tmp rfl)) ?_
      refine JL.cons rfl (op_assign (ltB rfl) (.tmp rfl)) ?_
      refine JL.nil ?_
      refine JQ.then ?_
      obtain ⟨t_52, hx21, hq21⟩ := bnd_inv hq1
      refine JC.seqJ (γ := Unit) (stj := fun q => ⟨[(0, .one (.val (S rB t_52)))], [], []⟩) (fun q => ?_) ?_
      · obtain _ := q
        refine JC.at ⟨[(0, .one (.val (S rB t_52)))], [], []⟩ ?_
        refine JC.ret ?_
        replace hq21 := Option.some.inj hq21
        subst hq21
        exact JQ.done (js := []) (ss := [.val (S rB t_52)]) () (.inl rfl) (.nil rfl) rfl (.cons (.tmp rfl) .nil) rfl rfl rfl
      · refine JC.region ?_
        refine JL.cons rfl (op_move (ltB rfl) (.tmp rfl)) ?_
        refine JL.cons rfl (op_convBS (ltB rfl) tu23 tu5 tu9 (.tmp rfl)) ?_
        replace hx21 := lt1_inv hx21
        obtain ⟨v_41, hv_v_41, hx21⟩ := hx21
        refine JL.cons rfl (op_cmpS (ltB rfl) (.tmp rfl) (HasO.cS (l := [7]) rfl) (congrArg some hv_v_41)) ?_
        refine JL.pre (Imp.sub (ρ' := [(9, .one (.val (PTR gb_33 0))), (11, .one (.val (S (rI .i64) v_38))), (12, .one (.val (S (rU UInt64) v_39))), (73, .one (.val (S rB v_41)))]) (.cons rfl (.cons rfl (.cons rfl (.cons rfl .nil))))) ?_
        refine JL.at ⟨[(9, .one (.val (PTR gb_33 0))), (11, .one (.val (S (rI .i64) v_38))), (12, .one (.val (S (rU UInt64) v_39))), (73, .one (.val (S rB v_41)))], [cvar gb_33 r_wire_Reader x_40], []⟩ ?_
        refine JL.cons rfl (op_move (ltB rfl) (.tmp rfl)) ?_
        refine JL.cnd (sv := .one (.val (S (rI .i64) v_38))) (Guard.isT (ltB rfl) rfl rfl) rfl (ltB rfl) (fun hq_22 => op_move (ltB rfl) (.tmp rfl)) ?_
        replace hx21 := lt1_inv hx21
        obtain ⟨v_42, hv_v_42, hx21⟩ := hx21
        refine JL.cnd (sv := .one (.val (S rB v_42))) (Guard.isT (ltB rfl) rfl rfl) rfl (ltB rfl) (fun hq_23 => op_cmpI (ltB rfl) (HasO.cnd (.tmp rfl) hq_23) .cI (congrArg some hv_v_42)) ?_
        replace hx21 := lt1_inv hx21
        obtain ⟨v_43, hv_v_43, hx21⟩ := hx21
        refine JL.cons rfl (op_pickCS (ltB rfl) (.tmp rfl) (fun hb24 => (HasO.cnd (.tmp rfl) hb24)) (fun hb24 => .cB) hv_v_43) ?_
        refine JL.cons rfl (op_move (ltB rfl) (.tmp rfl)) ?_
        refine JL.cnd (sv := .one (.val (S (rU UInt64) v_39))) (Guard.isT (ltB rfl) rfl rfl) rfl (ltB rfl) (fun hq_25 => op_move (ltB rfl) (.tmp rfl)) ?_
        refine JL.pre (Imp.sub (ρ' := [(9, .one (.val (PTR gb_33 0))), (78, .one (.val (S rB v_43))), (79, bif v_43 then .one (.val (S (rU UInt64) v_39)) else .one .und)]) (.cons rfl (.cons rfl (.cons rfl .nil)))) ?_
        refine JL.at ⟨[(9, .one (.val (PTR gb_33 0))), (78, .one (.val (S rB v_43))), (79, bif v_43 then .one (.val (S (rU UInt64) v_39)) else .one .und)], [cvar gb_33 r_wire_Reader x_40], []⟩ ?_
        replace hx21 := lt1_inv hx21
        obtain ⟨v_44, hv_v_44, hx21⟩ := hx21
        refine JL.cnd (sv := .one (.val (S rB v_44))) (Guard.isT (ltB rfl) rfl rfl) rfl (ltB rfl) (fun hq_26 => op_cmpU (ltB rfl) (HasO.cnd (.tmp rfl) hq_26) (HasO.cU (x := (0 : UInt64)) rfl (by decide)) (congrArg some hv_v_44)) ?_
        replace hx21 := lt1_inv hx21
        obtain ⟨v_45, hv_v_45, hx21⟩ := hx21
        refine JL.cons rfl (op_pickCS (ltB rfl) (.tmp rfl) (fun hb27 => (HasO.cnd (.tmp rfl) hb27)) (fun hb27 => .cB) hv_v_45) ?_
        refine JL.cons rfl (op_move (ltB rfl) (.tmp rfl)) ?_
        rcases iteB_inv hx21 with ⟨hc29, hx21⟩ | ⟨hc29, hx21⟩
        · refine JL.run (.yes rfl (ltB rfl) rfl hc29) (op_move (ltB rfl) (.tmp rfl)) ?_
          replace hx21 := bnd_inv hx21
          obtain ⟨v_46, hv_v_46, hx21⟩ := hx21
          refine JL.runX (.yes rfl (ltB rfl) rfl hc29) (op_call (js := [0]) (ltD rfl) cl20 (sim_wire_Reader_Failed'2 k x_40 gb_33 v_46 hv_v_46) .func (.cons (.tmp rfl) .nil) rfl) (fun _ => ?_)
          refine JL.cons rfl (op_pickT (ltB rfl) (.tmp rfl) hc29 (.tmp rfl)) ?_
          refine JL.pre (Imp.sub (ρ' := [(9, .one (.val (PTR gb_33 0))), (85, .one (.val (S rB v_46)))]) (.cons rfl (.cons rfl .nil))) ?_
          refine JL.at ⟨[(9, .one (.val (PTR gb_33 0))), (85, .one (.val (S rB v_46)))], [cvar gb_33 r_wire_Reader x_40], []⟩ ?_
          refine JL.cons rfl (op_move (ltB rfl) (.tmp rfl)) ?_
          rcases iteB_inv hx21 with ⟨hc31, hx21⟩ | ⟨hc31, hx21⟩
          · refine JL.run (.yes rfl (ltB rfl) rfl hc31) (op_move (ltB rfl) (.tmp rfl)) ?_
            replace hx21 := bnd_inv hx21
            obtain ⟨v_47, hv_v_47, hx21⟩ := hx21
            refine JL.runX (.yes rfl (ltB rfl) rfl hc31) (op_call (js := [0]) (ltD rfl) cl18 (sim_wire_Reader_Left k x_40 gb_33 v_47 hv_v_47) .func (.cons (.tmp rfl) .nil) rfl) (fun _ => ?_)
            replace hx21 := lt1_inv hx21
            obtain ⟨v_48, hv_v_48, hx21⟩ := hx21
            refine JL.run (.yes rfl (ltB rfl) rfl hc31) (op_cmpI (ltB rfl) (.tmp rfl) .cI (congrArg some hv_v_48)) ?_
            refine JL.cons rfl (op_pickT (ltB rfl) (.tmp rfl) hc31 (.tmp rfl)) ?_
            refine JL.cons rfl (op_move (ltB rfl) (.tmp rfl)) ?_
            refine JL.pre (Imp.sub (ρ' := [(9, .one (.val (PTR gb_33 0))), (91, .one (.val (S rB v_48)))]) (.cons rfl (.cons rfl .nil))) ?_
            refine JL.at ⟨[(9, .one (.val (PTR gb_33 0))), (91, .one (.val (S rB v_48)))], [cvar gb_33 r_wire_Reader x_40], []⟩ ?_
            rcases iteB_inv hx21 with ⟨hc33, hx21⟩ | ⟨hc33, hx21⟩
            · refine JL.run (.yes rfl (ltB rfl) rfl hc33) (op_move (ltB rfl) (.tmp rfl)) ?_
              replace hx21 := bnd_inv hx21
              obtain ⟨v_49, hv_v_49, hx21⟩ := hx21
              refine JL.runX (.yes rfl (ltB rfl) rfl hc33) (op_call (js := [0]) (ltD rfl) cl21 (sim_wire_Reader_End k x_40 gb_33 v_49 hv_v_49) .func (.cons (.tmp rfl) .nil) rfl) (fun _ => ?_)
              replace hx21 := bnd_inv hx21
              obtain ⟨_, hv_u_50, hx21⟩ := hx21
              refine JL.runX (.yes rfl (ltB rfl) rfl hc33) (op_call (js := []) (ltD rfl) cl13 (sim_law01_num k v_49 () hv_u_50) .func (.cons (.tmp rfl) .nil) rfl) (fun _ => ?_)
              replace hx21 := lt1_inv hx21
              obtain ⟨v_51, hv_v_51, hx21⟩ := hx21
              refine JL.run (.yes rfl (ltB rfl) rfl hc33) (op_cmpI (ltB rfl) (.tmp rfl) .cI (congrArg some hv_v_51)) ?_
              refine JL.cons rfl (op_pickT (ltB rfl) (.tmp rfl) hc33 (.tmp rfl)) ?_
              refine JL.cons rfl (op_assign (ltB rfl) (.tmp rfl)) ?_
              refine JL.pre (Imp.norm (ρ' := [(0, .one (.val (S rB v_51)))]) (js := []) rfl (.cons rfl .nil)) ?_
              refine JL.at ⟨[(0, .one (.val (S rB v_51)))], [], []⟩ ?_
              refine JL.nil ?_
              replace hx21 := Option.some.inj hx21
              subst hx21
              exact JQ.join () (Imp.norm (js := []) rfl (.cons rfl .nil))
            · refine JL.skip (.no rfl (ltB rfl) rfl hc33) (fun d h => by cases h; exact ltB rfl) ?_
              refine JL.skip (.no rfl (ltB rfl) rfl hc33) (fun d h => by cases h; exact ltB rfl) ?_
              refine JL.skip (.no rfl (ltB rfl) rfl hc33) (fun d h => by cases h; exact ltB rfl) ?_
              refine JL.skip (.no rfl (ltB rfl) rfl hc33) (fun d h => by cases h; exact ltB rfl) ?_
              refine JL.cons rfl (op_pickF (ltB rfl) (.tmp rfl) hc33 .cB) ?_
              refine JL.cons rfl (op_assign (ltB rfl) (.tmp rfl)) ?_
              refine JL.nil ?_
              replace hx21 := Option.some.inj hx21
              subst hx21
              exact JQ.join () (Imp.norm (js := []) rfl (.cons rfl .nil))
          · refine JL.skip (.no rfl (ltB rfl) rfl hc31) (fun d h => by cases h; exact ltB rfl) ?_
            refine JL.skip (.no rfl (ltB rfl) rfl hc31) (fun d h => by cases h; exact ltB rfl) ?_
            refine JL.skip (.no rfl (ltB rfl) rfl hc31) (fun d h => by cases h; exact ltB rfl) ?_
            refine JL.cons rfl (op_pickF (ltB rfl) (.tmp rfl) hc31 .cB) ?_
            refine JL.cons rfl (op_move (ltB rfl) (.tmp rfl)) ?_
            refine JL.skip (.no rfl (ltB rfl) rfl rfl) (fun d h => by cases h; exact ltB rfl) ?_
            refine JL.skip (.no rfl (ltB rfl) rfl rfl) (fun d h => by cases h; exact ltB rfl) ?_
            refine JL.skip (.no rfl (ltB rfl) rfl rfl) (fun d h => by cases h; exact ltB rfl) ?_
            refine JL.skip (.no rfl (ltB rfl) rfl rfl) (fun d h => by cases h; exact ltB rfl) ?_
            refine JL.cons rfl (op_pickF (ltB rfl) (.tmp rfl) rfl .cB) ?_
            refine JL.cons rfl (op_assign (ltB rfl) (.tmp rfl)) ?_
            refine JL.nil ?_
            replace hx21 := Option.some.inj hx21
            subst hx21
            exact JQ.join () (Imp.norm (js := []) rfl (.cons rfl .nil))
        · refine JL.skip (.no rfl (ltB rfl) rfl hc29) (fun d h => by cases h; exact ltB rfl) ?_
          refine JL.skip (.no rfl (ltB rfl) rfl hc29) (fun d h => by cases h; exact ltB rfl) ?_
          refine JL.cons rfl (op_pickF (ltB rfl) (.tmp rfl) hc29 .cB) ?_
          refine JL.cons rfl (op_move (ltB rfl) (.tmp rfl)) ?_
          refine JL.skip (.no rfl (ltB rfl) rfl rfl) (fun d h => by cases h; exact ltB rfl) ?_
          refine JL.skip (.no rfl (ltB rfl) rfl rfl) (fun d h => by cases h; exact ltB rfl) ?_
          refine JL.skip (.no rfl (ltB rfl) rfl rfl) (fun d h => by cases h; exact ltB rfl) ?_
          refine JL.cons rfl (op_pickF (ltB rfl) (.tmp rfl) rfl .cB) ?_
          refine JL.pre (Imp.sub (ρ' := [(9, .one (.val (PTR gb_33 0))), (90, .one (.val (S rB false)))]) (.cons rfl (.cons rfl .nil))) ?_
          refine JL.at ⟨[(9, .one (.val (PTR gb_33 0))), (90, .one (.val (S rB false)))], [cvar gb_33 r_wire_Reader x_40], []⟩ ?_
          refine JL.cons rfl (op_move (ltB rfl) (.tmp rfl)) ?_
          refine JL.skip (.no rfl (ltB rfl) rfl rfl) (fun d h => by cases h; exact ltB rfl) ?_
          refine JL.skip (.no rfl (ltB rfl) rfl rfl) (fun d h => by cases h; exact ltB rfl) ?_
          refine JL.skip (.no rfl (ltB rfl) rfl rfl) (fun d h => by cases h; exact ltB rfl) ?_
          refine JL.skip (.no rfl (ltB rfl) rfl rfl) (fun d h => by cases h; exact ltB rfl) ?_
          refine JL.cons rfl (op_pickF (ltB rfl) (.tmp rfl) rfl .cB) ?_
          refine JL.cons rfl (op_assign (ltB rfl) (.tmp rfl)) ?_
          refine JL.nil ?_
          replace hx21 := Option.some.inj hx21
          subst hx21
          exact JQ.join () (Imp.norm (js := []) rfl (.cons rfl .nil))
  · refine JC.region ?_
    refine JL.cons rfl (op_move (ltB rfl) (.tmp rfl)) ?_
    refine JL.pre (Imp.sub (ρ' := [(2, .one (.val (S (rI .i64) v_2))), (4, .one (.val (S (rI .i64) v_6))), (5, .one (.val (HDR go_12 0 (List.length v_10) gc_13))), (6, .one (.val (S (rI .i64) v_11))), (7, .one (.val (HDR go_16 0 (List.length v_14) gc_17))), (8, .one (.val (S (rI .i64) v_15))), (32, .one (.val (HDR go_3 0 (List.length v_1) gc_4)))]) (.cons rfl (.cons rfl (.cons rfl (.cons rfl (.cons rfl (.cons rfl (.cons rfl .nil)))))))) ?_
    refine JL.at ⟨[(2, .one (.val (S (rI .i64) v_2))), (4, .one (.val (S (rI .i64) v_6))), (5, .one (.val (HDR go_12 0 (List.length v_10) gc_13))), (6, .one (.val (S (rI .i64) v_11))), (7, .one (.val (HDR go_16 0 (List.length v_14) gc_17))), (8, .one (.val (S (rI .i64) v_15))), (32, .one (.val (HDR go_3 0 (List.length v_1) gc_4)))], [cown go_16 (rU UInt8) v_14 0 gc_17, cown go_12 (rU UInt8) v_10 0 gc_13, cown go_3 (rU UInt8) v_1 0 gc_4], []⟩ ?_
    refine JL.cons rfl (op_convOS (j := 2) (ltB rfl) tu23 tu5 tu9 rfl (.tmp rfl)) ?_
    replace hx1 := lt1_inv hx1
    obtain ⟨v_18, hv_v_18, hx1⟩ := hx1
    refine JL.cons rfl (op_cmpS (ltB rfl) (.tmp rfl) (HasO.cS (l := [1, 2]) rfl) (congrArg some hv_v_18)) ?_
    refine JL.cons rfl (op_move (ltB rfl) (.tmp rfl)) ?_
    refine JL.cnd (sv := .one (.val (S (rI .i64) v_6))) (Guard.isF (ltB rfl) rfl rfl) rfl (ltB rfl) (fun hq_2 => op_move (ltB rfl) (.tmp rfl)) ?_
    replace hx1 := bnd_inv hx1
    obtain ⟨_, hv_u_19, hx1⟩ := hx1
    refine JL.cnd (sv := .one (.val (S (rI .i64) v_6))) (Guard.isF (ltB rfl) rfl rfl) rfl (ltB rfl) (fun hq_3 => (op_call (js := []) (ltD rfl) cl13 (sim_law01_num k v_6 () (ifT hv_u_19 hq_3)) .func (.cons (HasO.cnd (.tmp rfl) (notT (notF hq_3))) .nil) rfl).post (fun _ => Imp.refl)) ?_
    replace hx1 := lt1_inv hx1
    obtain ⟨v_20, hv_v_20, hx1⟩ := hx1
    refine JL.cnd (sv := .one (.val (S rB v_20))) (Guard.isF (ltB rfl) rfl rfl) rfl (ltB rfl) (fun hq_4 => op_cmpI (ltB rfl) (HasO.cnd (.tmp rfl) (notT (notF hq_4))) .cI (congrArg some hv_v_20)) ?_
    refine JL.pre (Imp.norm (ρ' := [(2, .one (.val (S (rI .i64) v_2))), (5, .one (.val (HDR go_12 0 (List.length v_10) gc_13))), (6, .one (.val (S (rI .i64) v_11))), (7, .one (.val (HDR go_16 0 (List.length v_14) gc_17))), (8, .one (.val (S (rI .i64) v_15))), (35, .one (.val (S rB v_18))), (38, bif (!v_18) then .one (.val (S rB v_20)) else .one .und)]) (js := [0, 0]) rfl (.cons rfl (.cons rfl (.cons rfl (.cons rfl (.cons rfl (.cons rfl (.cons rfl .nil)))))))) ?_
    refine JL.at ⟨[(2, .one (.val (S (rI .i64) v_2))), (5, .one (.val (HDR go_12 0 (List.length v_10) gc_13))), (6, .one (.val (S (rI .i64) v_11))), (7, .one (.val (HDR go_16 0 (List.length v_14) gc_17))), (8, .one (.val (S (rI .i64) v_15))), (35, .one (.val (S rB v_18))), (38, bif (!v_18) then .one (.val (S rB v_20)) else .one .und)], [cown go_16 (rU UInt8) v_14 0 gc_17, cown go_12 (rU UInt8) v_10 0 gc_13], []⟩ ?_
    replace hx1 := lt1_inv hx1
    obtain ⟨v_21, hv_v_21, hx1⟩ := hx1
    refine JL.cons rfl (op_pickCS (ltB rfl) (.tmp rfl) (fun hb5 => .cB) (fun hb5 => (HasO.cnd (.tmp rfl) (notT hb5))) hv_v_21) ?_
    refine JL.cons rfl (op_move (ltB rfl) (.tmp rfl)) ?_
    rcases iteB_inv hx1 with ⟨hc7, hx1⟩ | ⟨hc7, hx1⟩
    · refine JL.skip (.no rfl (ltB rfl) rfl hc7) (fun d h => by cases h; exact ltB rfl) ?_
      refine JL.skip (.no rfl (ltB rfl) rfl hc7) (fun d h => by cases h; exact ltB rfl) ?_
      refine JL.skip (.no rfl (ltB rfl) rfl hc7) (fun d h => by cases h; exact ltB rfl) ?_
      refine JL.cons rfl (op_pickT (ltB rfl) (.tmp rfl) hc7 .cB) ?_
      refine JL.cons rfl (op_move (ltB rfl) (.tmp rfl)) ?_
      refine JL.skip (.no rfl (ltB rfl) rfl rfl) (fun d h => by cases h; exact ltB rfl) ?_
      refine JL.skip (.no rfl (ltB rfl) rfl rfl) (fun d h => by cases h; exact ltB rfl) ?_
      refine JL.skip (.no rfl (ltB rfl) rfl rfl) (fun d h => by cases h; exact ltB rfl) ?_
      refine JL.cons rfl (op_pickT (ltB rfl) (.tmp rfl) rfl .cB) ?_
      refine JL.cons rfl (op_move (ltB rfl) (.tmp rfl)) ?_
      refine JL.pre (Imp.norm (ρ' := [(2, .one (.val (S (rI .i64) v_2))), (6, .one (.val (S (rI .i64) v_11))), (8, .one (.val (S (rI .i64) v_15))), (50, .one (.val (S rB true)))]) (js := []) rfl (.cons rfl (.cons rfl (.cons rfl (.cons rfl .nil))))) ?_
      refine JL.at ⟨[(2, .one (.val (S (rI .i64) v_2))), (6, .one (.val (S (rI .i64) v_11))), (8, .one (.val (S (rI .i64) v_15))), (50, .one (.val (S rB true)))], [], []⟩ ?_
      refine JL.skip (.no rfl (ltB rfl) rfl rfl) (fun d h => by cases h; exact ltB rfl) ?_
      refine JL.skip (.no rfl (ltB rfl) rfl rfl) (fun d h => by cases h; exact ltB rfl) ?_
      refine JL.skip (.no rfl (ltB rfl) rfl rfl) (fun d h => by cases h; exact ltB rfl) ?_
      refine JL.skip (.no rfl (ltB rfl) rfl rfl) (fun d h => by cases h; exact ltB rfl) ?_
      refine JL.skip (.no rfl (ltB rfl) rfl rfl) (fun d h => by cases h; exact ltB rfl) ?_
      refine JL.skip (.no rfl (ltB rfl) rfl rfl) (fun d h => by cases h; exact ltB rfl) ?_
      refine JL.skip (.no rfl (ltB rfl) rfl rfl) (fun d h => by cases h; exact ltB rfl) ?_
      refine JL.skip (.no rfl (ltB rfl) rfl rfl) (fun d h => by cases h; exact ltB rfl) ?_
      refine JL.skip (.no rfl (ltB rfl) rfl rfl) (fun d h => by cases h; exact ltB rfl) ?_
      refine JL.cons rfl (op_pickT (ltB rfl) (.tmp rfl) rfl .cB) ?_
      refine JL.nil ?_
      replace hx1 := Option.some.inj hx1
      subst hx1
      exact JQ.join () (Imp.norm (js := []) rfl (.cons rfl .nil))
    · refine JL.run (.yes rfl (ltB rfl) rfl hc7) (op_move (ltB rfl) (.tmp rfl)) ?_
      refine JL.run (.yes rfl (ltB rfl) rfl hc7) (op_convOS (j := 1) (ltB rfl) tu23 tu5 tu9 rfl (.tmp rfl)) ?_
      replace hx1 := lt1_inv hx1
      obtain ⟨v_22, hv_v_22, hx1⟩ := hx1
      refine JL.run (.yes rfl (ltB rfl) rfl hc7) (op_cmpS (ltB rfl) (.tmp rfl) (HasO.cS (l := [0, 2, 97, 98]) rfl) (congrArg some hv_v_22)) ?_
      refine JL.cons rfl (op_pickF (ltB rfl) (.tmp rfl) hc7 (.tmp rfl)) ?_
      refine JL.pre (Imp.norm (ρ' := [(2, .one (.val (S (rI .i64) v_2))), (6, .one (.val (S (rI .i64) v_11))), (7, .one (.val (HDR go_16 0 (List.length v_14) gc_17))), (8, .one (.val (S (rI .i64) v_15))), (44, .one (.val (S rB v_22)))]) (js := [0]) rfl (.cons rfl (.cons rfl (.cons rfl (.cons rfl (.cons rfl .nil)))))) ?_
      refine JL.at ⟨[(2, .one (.val (S (rI .i64) v_2))), (6, .one (.val (S (rI .i64) v_11))), (7, .one (.val (HDR go_16 0 (List.length v_14) gc_17))), (8, .one (.val (S (rI .i64) v_15))), (44, .one (.val (S rB v_22)))], [cown go_16 (rU UInt8) v_14 0 gc_17], []⟩ ?_
      refine JL.cons rfl (op_move (ltB rfl) (.tmp rfl)) ?_
      rcases iteB_inv hx1 with ⟨hc9, hx1⟩ | ⟨hc9, hx1⟩
      · refine JL.skip (.no rfl (ltB rfl) rfl hc9) (fun d h => by cases h; exact ltB rfl) ?_
        refine JL.skip (.no rfl (ltB rfl) rfl hc9) (fun d h => by cases h; exact ltB rfl) ?_
        refine JL.skip (.no rfl (ltB rfl) rfl hc9) (fun d h => by cases h; exact ltB rfl) ?_
        refine JL.cons rfl (op_pickT (ltB rfl) (.tmp rfl) hc9 .cB) ?_
        refine JL.cons rfl (op_move (ltB rfl) (.tmp rfl)) ?_
        refine JL.skip (.no rfl (ltB rfl) rfl rfl) (fun d h => by cases h; exact ltB rfl) ?_
        refine JL.skip (.no rfl (ltB rfl) rfl rfl) (fun d h => by cases h; exact ltB rfl) ?_
        refine JL.skip (.no rfl (ltB rfl) rfl rfl) (fun d h => by cases h; exact ltB rfl) ?_
        refine JL.skip (.no rfl (ltB rfl) rfl rfl) (fun d h => by cases h; exact ltB rfl) ?_
        refine JL.skip (.no rfl (ltB rfl) rfl rfl) (fun d h => by cases h; exact ltB rfl) ?_
        refine JL.skip (.no rfl (ltB rfl) rfl rfl) (fun d h => by cases h; exact ltB rfl) ?_
        refine JL.skip (.no rfl (ltB rfl) rfl rfl) (fun d h => by cases h; exact ltB rfl) ?_
        refine JL.skip (.no rfl (ltB rfl) rfl rfl) (fun d h => by cases h; exact ltB rfl) ?_
        refine JL.skip (.no rfl (ltB rfl) rfl rfl) (fun d h => by cases h; exact ltB rfl) ?_
        refine JL.cons rfl (op_pickT (ltB rfl) (.tmp rfl) rfl .cB) ?_
        refine JL.nil ?_
        replace hx1 := Option.some.inj hx1
        subst hx1
        exact JQ.join () (Imp.norm (js := []) rfl (.cons rfl .nil))
      · refine JL.run (.yes rfl (ltB rfl) rfl hc9) (op_move (ltB rfl) (.tmp rfl)) ?_
        refine JL.run (.yes rfl (ltB rfl) rfl hc9) (op_convOS (j := 0) (ltB rfl) tu23 tu5 tu9 rfl (.tmp rfl)) ?_
        replace hx1 := lt1_inv hx1
        obtain ⟨v_23, hv_v_23, hx1⟩ := hx1
        refine JL.run (.yes rfl (ltB rfl) rfl hc9) (op_cmpS (ltB rfl) (.tmp rfl) (HasO.cS (l := [2, 0, 0, 0, 0, 0, 0, 0, 5]) rfl) (congrArg some hv_v_23)) ?_
        refine JL.cons rfl (op_pickF (ltB rfl) (.tmp rfl) hc9 (.tmp rfl)) ?_
        refine JL.cons rfl (op_move (ltB rfl) (.tmp rfl)) ?_
        refine JL.pre (Imp.norm (ρ' := [(2, .one (.val (S (rI .i64) v_2))), (6, .one (.val (S (rI .i64) v_11))), (8, .one (.val (S (rI .i64) v_15))), (50, .one (.val (S rB v_23)))]) (js := []) rfl (.cons rfl (.cons rfl (.cons rfl (.cons rfl .nil))))) ?_
        refine JL.at ⟨[(2, .one (.val (S (rI .i64) v_2))), (6, .one (.val (S (rI .i64) v_11))), (8, .one (.val (S (rI .i64) v_15))), (50, .one (.val (S rB v_23)))], [], []⟩ ?_
        refine JL.cnd (sv := .one (.val (S (rI .i64) v_2))) (Guard.isF (ltB rfl) rfl rfl) rfl (ltB rfl) (fun hq_10 => op_move (ltB rfl) (.tmp rfl)) ?_
        replace hx1 := bnd_inv hx1
        obtain ⟨_, hv_u_24, hx1⟩ := hx1
        refine JL.cnd (sv := .one (.val (S (rI .i64) v_2))) (Guard.isF (ltB rfl) rfl rfl) rfl (ltB rfl) (fun hq_11 => (op_call (js := []) (ltD rfl) cl13 (sim_law01_num k v_2 () (ifT hv_u_24 hq_11)) .func (.cons (HasO.cnd (.tmp rfl) (notT (notF hq_11))) .nil) rfl).post (fun _ => Imp.refl)) ?_
        refine JL.cnd (sv := .one (.val (S (rI .i64) v_11))) (Guard.isF (ltB rfl) rfl rfl) rfl (ltB rfl) (fun hq_12 => op_move (ltB rfl) (.tmp rfl)) ?_
        replace hx1 := bnd_inv hx1
        obtain ⟨_, hv_u_25, hx1⟩ := hx1
        refine JL.cnd (sv := .one (.val (S (rI .i64) v_11))) (Guard.isF (ltB rfl) rfl rfl) rfl (ltB rfl) (fun hq_13 => (op_call (js := []) (ltD rfl) cl13 (sim_law01_num k v_11 () (ifT hv_u_25 hq_13)) .func (.cons (HasO.cnd (.tmp rfl) (notT (notF hq_13))) .nil) rfl).post (fun _ => Imp.refl)) ?_
        replace hx1 := lt1_inv hx1
        obtain ⟨v_26, hv_v_26, hx1⟩ := hx1
        refine JL.cnd (sv := .one (.val (S (rI .i64) v_26))) (Guard.isF (ltB rfl) rfl rfl) rfl (ltB rfl) (fun hq_14 => op_arI (ltB rfl) (HasO.cnd (.tmp rfl) (notT (notF hq_14))) (HasO.cnd (.tmp rfl) (notT (notF hq_14))) (congrArg some hv_v_26)) ?_
        refine JL.cnd (sv := .one (.val (S (rI .i64) v_15))) (Guard.isF (ltB rfl) rfl rfl) rfl (ltB rfl) (fun hq_15 => op_move (ltB rfl) (.tmp rfl)) ?_
        refine JL.pre (Imp.sub (ρ' := [(50, .one (.val (S rB v_23))), (55, bif (!v_23) then .one (.val (S (rI .i64) v_26)) else .one .und), (56, bif (!v_23) then .one (.val (S (rI .i64) v_15)) else .one .und)]) (.cons rfl (.cons rfl (.cons rfl .nil)))) ?_
        refine JL.at ⟨[(50, .one (.val (S rB v_23))), (55, bif (!v_23) then .one (.val (S (rI .i64) v_26)) else .one .und), (56, bif (!v_23) then .one (.val (S (rI .i64) v_15)) else .one .und)], [], []⟩ ?_
        replace hx1 := bnd_inv hx1
        obtain ⟨_, hv_u_27, hx1⟩ := hx1
        refine JL.cnd (sv := .one (.val (S (rI .i64) v_15))) (Guard.isF (ltB rfl) rfl rfl) rfl (ltB rfl) (fun hq_16 => (op_call (js := []) (ltD rfl) cl13 (sim_law01_num k v_15 () (ifT hv_u_27 hq_16)) .func (.cons (HasO.cnd (.tmp rfl) (notT (notF hq_16))) .nil) rfl).post (fun _ => Imp.refl)) ?_
        replace hx1 := lt1_inv hx1
        obtain ⟨v_28, hv_v_28, hx1⟩ := hx1
        refine JL.cnd (sv := .one (.val (S (rI .i64) v_28))) (Guard.isF (ltB rfl) rfl rfl) rfl (ltB rfl) (fun hq_17 => op_arI (ltB rfl) (HasO.cnd (.tmp rfl) (notT (notF hq_17))) (HasO.cnd (.tmp rfl) (notT (notF hq_17))) (congrArg some hv_v_28)) ?_
        replace hx1 := lt1_inv hx1
        obtain ⟨v_29, hv_v_29, hx1⟩ := hx1
        refine JL.cnd (sv := .one (.val (S rB v_29))) (Guard.isF (ltB rfl) rfl rfl) rfl (ltB rfl) (fun hq_18 => op_cmpI (ltB rfl) (HasO.cnd (.tmp rfl) (notT (notF hq_18))) .cI (congrArg some hv_v_29)) ?_
        replace hx1 := lt1_inv hx1
        obtain ⟨v_30, hv_v_30, hx1⟩ := hx1
        refine JL.cons rfl (op_pickCS (ltB rfl) (.tmp rfl) (fun hb19 => .cB) (fun hb19 => (HasO.cnd (.tmp rfl) (notT hb19))) hv_v_30) ?_
        refine JL.nil ?_
        replace hx1 := Option.some.inj hx1
        subst hx1
        exact JQ.join () (Imp.norm (js := []) rfl (.cons rfl .nil))

end Go.Proofs.Ytkbkdfcakpbojaa
